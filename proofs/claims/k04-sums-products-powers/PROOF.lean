import PyProof.Rows.All
import Wide.All
import OpenK.AllK
import Wide.FinOn
import HandS.ForExc
import HandS.Wide
import HandS.Gcd
import HandS.IsInst
import HandS.ExcInit
import HandS.ExcIs
import HandS.CallSlots
import HandS.Iter
import HandS.Walk
import HandS.Comp
import HandS.Defaults
import HandS.TupAny
import HandS.List
import HandS.TupMul
import HandS.Deep
import HandS.More
import KE.KMathGC
import HandS.Text
import HandS.Zip
import KE.KExcIs
import HandS.ExcField
import HandS.HeadHook2
import PyProof.Draws
import HandS.Style
import HandS.Dict
import PyProof.P3In
import HandS.Head0
import HandS.Head1
import HandS.Head2
import HandS.Head3
import HandS.HeadEnd
import HandS.HeadHook1
import HandS.Words
import PySem.Challenge.RW_wholerates_k04_whole_sums_products_power
set_option Elab.async false
set_option linter.all false
set_option maxRecDepth 100000
set_option maxHeartbeats 2000000
/-! PyA: plain data, the store of what is changed, what an expression or a statement yields: plain functions, no program in sight. -/
namespace Py
open PySem (Str sizeLine)

/-- a value as plain data: tuples, lists that nobody changes, exceptions are what they hold; ref n: the n-th object of the store -/
inductive D where
  | non | bl (b : Bool) | int (i : Int) | str (x : Str)
  | tup (xs : List D) | lst (xs : List D) | ref (n : Nat) | exc (c : Nat) (v : D)
  /-- the law's own list of ints: nobody changes it -/
  | fls (is : List Int)
  /-- a dict that nobody changes: its keys, its values -/
  | dct (ks : List (Sum Int Str)) (vs : List D)
  deriving Inhabited
/-- what is changed -/
inductive O where
  | dead | lst (xs : List D)
abbrev Store := List O
inductive R (α : Type) where
  | ok (a : α) (S : Store) | err (c : Nat) (v : D) (S : Store) | bad
@[simp] def R.bind {α β : Type} (r : R α) (f : α → Store → R β) : R β := match r with
  | .ok a S => f a S | .err c v S => .err c v S | .bad => .bad
abbrev Env := List (Option D)
abbrev Den := Env → Store → R D
abbrev Dens := Env → Store → R (List D)
abbrev DenT := Env → Store → R Bool
inductive RS where
  | next (e : Env) (S : Store) | ret (d : D) (S : Store) | brk (e : Env) (S : Store) | cont (e : Env) (S : Store)
  | err (c : Nat) (v : D) (e : Env) (S : Store) | bad
abbrev DenS := Env → Store → RS
/-- the defs that may be called: by number -/
abbrev Calls := Nat → List D → Store → R D

@[simp] def R.ofO {α : Type} (o : Option α) (S : Store) : R α := match o with | some a => .ok a S | none => .bad

/-! ### expressions -/
def eVar (i : Nat) : Den := fun e S => match e[i]? with | some (some d) => .ok d S | _ => .bad
def eC (d : D) : Den := fun _ S => .ok d S
def dNil : Dens := fun _ S => .ok [] S
def dCons (f : Den) (g : Dens) : Dens := fun e S => (f e S).bind fun a S1 => (g e S1).bind fun as S2 => .ok (a :: as) S2
def eTup (g : Dens) : Den := fun e S => (g e S).bind fun as S1 => .ok (.tup as) S1
def eLst (g : Dens) : Den := fun e S => (g e S).bind fun as S1 => .ok (.lst as) S1
/-- a fresh list that will be changed -/
def eNew (g : Dens) : Den := fun e S => (g e S).bind fun as S1 => .ok (.ref S1.length) (S1 ++ [.lst as])
abbrev Op2 := D → D → Store → R D
abbrev Op1 := D → Store → R D
def eBin (o : Op2) (f g : Den) : Den := fun e S => (f e S).bind fun a S1 => (g e S1).bind fun b S2 => o a b S2
def eUn (o : Op1) (f : Den) : Den := fun e S => (f e S).bind fun a S1 => o a S1
/-- a built-in function of values -/
abbrev OpN := List D → Store → R D
def eFn (o : OpN) (g : Dens) : Den := fun e S => (g e S).bind fun as S1 => o as S1
def eCall (Γ : Calls) (i : Nat) (g : Dens) : Den := fun e S => (g e S).bind fun as S1 => Γ i as S1
/-- with keywords: the values in the order of the parameters by p -/
def eCallK (Γ : Calls) (i : Nat) (p : List D → List D → List D) (g h : Dens) : Den := fun e S => (g e S).bind fun as S1 => (h e S1).bind fun bs S2 => Γ i (p as bs) S2
def eIf (t : DenT) (f g : Den) : Den := fun e S => (t e S).bind fun b S1 => if b then f e S1 else g e S1

/-! ### what values do -/
def asL (d : D) (S : Store) : Option (List D) := match d with
  | .lst xs => some xs
  | .ref n => (match S[n]? with | some (.lst xs) => some xs | _ => none)
  | _ => none
/-- a list or a tuple -/
def asSq (d : D) (S : Store) : Option (List D) := match d with
  | .tup xs => some xs
  | .fls is => some (is.map .int)
  | d => asL d S
def bits (i : Int) : Nat := i.natAbs.log2 + 1
def mulOk (i j : Int) : Bool := decide (bits i + bits j ≤ 134217728)
def divOk (j : Int) : Bool := decide (j ≠ 0) && decide (j.natAbs.log2 < 9000)
def powOk (i j : Int) : Bool := decide (0 ≤ j) && (decide (j ≤ 1000000) && decide (i.natAbs < 2 ^ 64))
def oAdd : Op2 := fun a b S => match a, b with
  | .int i, .int j => .ok (.int (i + j)) S
  | .str x, .str y => if x.length + y.length ≤ sizeLine then .ok (.str (x ++ y)) S else .bad
  | .tup xs, .tup ys => if xs.length + ys.length ≤ sizeLine then .ok (.tup (xs ++ ys)) S else .bad
  | _, _ => .bad
def oSub : Op2 := fun a b S => match a, b with | .int i, .int j => .ok (.int (i - j)) S | _, _ => .bad
def oMul : Op2 := fun a b S => match a, b with | .int i, .int j => if mulOk i j then .ok (.int (i * j)) S else .bad | _, _ => .bad
def oFdiv : Op2 := fun a b S => match a, b with | .int i, .int j => if divOk j then .ok (.int (i.fdiv j)) S else .bad | _, _ => .bad
def oMod : Op2 := fun a b S => match a, b with | .int i, .int j => if j ≠ 0 then .ok (.int (i.fmod j)) S else .bad | _, _ => .bad
def oPow : Op2 := fun a b S => match a, b with | .int i, .int j => if powOk i j then .ok (.int (i ^ j.toNat)) S else .bad | _, _ => .bad
def oNeg : Op1 := fun a S => match a with | .int i => .ok (.int (-i)) S | _ => .bad
def oLt : Op2 := fun a b S => match a, b with | .int i, .int j => .ok (.bl (decide (i < j))) S | _, _ => .bad
def oLe : Op2 := fun a b S => match a, b with | .int i, .int j => .ok (.bl (decide (i ≤ j))) S | _, _ => .bad
def oGt : Op2 := fun a b S => match a, b with | .int i, .int j => .ok (.bl (decide (j < i))) S | _, _ => .bad
def oGe : Op2 := fun a b S => match a, b with | .int i, .int j => .ok (.bl (decide (j ≤ i))) S | _, _ => .bad
def isNon : D → Bool | .non => true | _ => false
/-- is None, is not None -/
def oIsN : Op1 := fun a S => .ok (.bl (isNon a)) S
def oNotN : Op1 := fun a S => .ok (.bl (!isNon a)) S

/-! ### == -/
def okS (x : Str) : Bool := x.cps.all (· < 0x110000)
mutual
def pureB : D → Bool
  | .tup xs => pureL xs | .lst xs => pureL xs | .ref _ => false | .exc _ _ => false | .fls _ => false | .dct _ _ => false | .non => true | .bl _ => true | .int _ => true | .str x => okS x
def pureL : List D → Bool
  | [] => true | x :: xs => pureB x && pureL xs
end
mutual
def depth : D → Nat
  | .tup xs => depthL xs + 1 | .lst xs => depthL xs + 1 | _ => 0
def depthL : List D → Nat
  | [] => 0 | x :: xs => max (depth x) (depthL xs)
end
def b2i (b : Bool) : Int := if b then 1 else 0
mutual
def eqB : D → D → Bool
  | .non, .non => true
  | .bl a, .bl b => a == b
  | .bl a, .int j => b2i a == j
  | .int i, .bl b => i == b2i b
  | .int i, .int j => i == j
  | .str x, .str y => x == y
  | .lst xs, .lst ys => eqL xs ys
  | .tup xs, .tup ys => eqL xs ys
  | _, _ => false
def eqL : List D → List D → Bool
  | [], [] => true
  | x :: xs, y :: ys => eqB x y && eqL xs ys
  | [], _ :: _ => false
  | _ :: _, [] => false
end
def fit (d : D) : Bool := pureB d && decide (depth d ≤ 60)
/-! ### what the refs hold -/
mutual
def mapR (g : Nat → Option D) : D → Option D
  | .tup xs => (mapRL g xs).map .tup
  | .lst xs => (mapRL g xs).map .lst
  | .ref n => g n
  | .exc c v => (mapR g v).map (.exc c)
  | .non => some .non | .bl b => some (.bl b) | .int i => some (.int i) | .str x => some (.str x) | .fls is => some (.fls is)
  | .dct ks vs => (mapRL g vs).map (.dct ks)
def mapRL (g : Nat → Option D) : List D → Option (List D)
  | [] => some []
  | x :: xs => (mapR g x).bind fun y => (mapRL g xs).map (y :: ·)
end
/-- the refs from m on are the lists that they hold -/
def resN (m : Nat) (S : Store) : Nat → Nat → Option D
  | 0, n => if n < m then some (.ref n) else none
  | f + 1, n => if n < m then some (.ref n) else match S[n]? with | some (.lst xs) => (mapRL (resN m S f) xs).map .lst | _ => none
def res (m : Nat) (S : Store) (d : D) : Option D := mapR (resN m S 9) d
mutual
/-- no refs at all -/
def noRef : D → Bool
  | .tup xs => noRefL xs | .lst xs => noRefL xs | .ref _ => false | .exc _ v => noRef v | .fls _ => true | .dct _ vs => noRefL vs | .non => true | .bl _ => true | .int _ => true | .str _ => true
def noRefL : List D → Bool
  | [] => true | x :: xs => noRef x && noRefL xs
end
mutual
theorem mapR_no {g : Nat → Option D} : ∀ {d : D}, noRef d = true → mapR g d = some d
  | .tup xs, h => by unfold mapR; rw [mapRL_no (by unfold noRef at h; exact h)]; rfl
  | .lst xs, h => by unfold mapR; rw [mapRL_no (by unfold noRef at h; exact h)]; rfl
  | .exc c v, h => by unfold mapR; rw [mapR_no (by unfold noRef at h; exact h)]; rfl
  | .ref n, h => by unfold noRef at h; cases h
  | .non, _ => by unfold mapR; rfl
  | .bl _, _ => by unfold mapR; rfl
  | .int _, _ => by unfold mapR; rfl
  | .str _, _ => by unfold mapR; rfl
  | .fls _, _ => by unfold mapR; rfl
  | .dct ks vs, h => by unfold mapR; rw [mapRL_no (by unfold noRef at h; exact h)]; rfl
theorem mapRL_no {g : Nat → Option D} : ∀ {ds : List D}, noRefL ds = true → mapRL g ds = some ds
  | [], _ => by unfold mapRL; rfl
  | x :: xs, h => by
    unfold noRefL at h
    rw [Bool.and_eq_true] at h
    unfold mapRL
    rw [mapR_no h.1, mapRL_no h.2]
    rfl
end
mutual
theorem noRef_pure : ∀ {d : D}, pureB d = true → noRef d = true
  | .tup xs, h => by unfold noRef; exact noRefL_pure (by unfold pureB at h; exact h)
  | .lst xs, h => by unfold noRef; exact noRefL_pure (by unfold pureB at h; exact h)
  | .exc c v, h => by unfold pureB at h; cases h
  | .ref n, h => by unfold pureB at h; cases h
  | .non, _ => by unfold noRef; rfl
  | .bl _, _ => by unfold noRef; rfl
  | .int _, _ => by unfold noRef; rfl
  | .str _, _ => by unfold noRef; rfl
  | .fls _, h => by unfold pureB at h; cases h
  | .dct _ _, h => by unfold pureB at h; cases h
theorem noRefL_pure : ∀ {ds : List D}, pureL ds = true → noRefL ds = true
  | [], _ => by unfold noRefL; rfl
  | x :: xs, h => by
    unfold pureL at h
    rw [Bool.and_eq_true] at h
    unfold noRefL
    rw [noRef_pure h.1, noRefL_pure h.2]
    rfl
end
theorem res_no {m : Nat} {S : Store} {d : D} (h : noRef d = true) : res m S d = some d := mapR_no h
/-- the store's old entries are as they were, or hold nothing new -/
def Old (S S' : Store) : Prop := ∀ n, n < S.length → S'[n]? = S[n]? ∨ ∃ xs, S'[n]? = some (.lst xs) ∧ mapRL (fun k => if k < S.length then some (.ref k) else none) xs = some xs
theorem Old.refl (S : Store) (T : Store) : Old S (S ++ T) := fun n h => .inl (List.getElem?_append_left h)
open Classical in
/-- what was laid into the store since S and is reached by the value alone is told as a value -/
noncomputable def tidy (S : Store) (r : R D) : R D := match r with
  | .ok d S' => if S'.length ≤ S.length then .ok d S' else (match res S.length S' d with | some d' => if Old S S' then .ok d' (S'.take S.length) else .ok d S' | none => .ok d S')
  | .err c d S' => if S'.length ≤ S.length then .err c d S' else (match res S.length S' d with | some d' => if Old S S' then .err c d' (S'.take S.length) else .err c d S' | none => .err c d S')
  | .bad => .bad
@[simp] theorem tidy_bad {S : Store} : tidy S .bad = .bad := rfl
theorem tidy_ok {S S' : Store} {d : D} (h : S'.length ≤ S.length) : tidy S (.ok d S') = .ok d S' := by simp only [tidy, if_pos h]
theorem tidy_err {S S' : Store} {c : Nat} {d : D} (h : S'.length ≤ S.length) : tidy S (.err c d S') = .err c d S' := by simp only [tidy, if_pos h]
@[simp] theorem tidy_ok0 {S : Store} {d : D} : tidy S (.ok d S) = .ok d S := tidy_ok (Nat.le_refl _)
@[simp] theorem tidy_err0 {S : Store} {c : Nat} {d : D} : tidy S (.err c d S) = .err c d S := tidy_err (Nat.le_refl _)
theorem tidy_app {S T : Store} {d d' : D} (h : res S.length (S ++ T) d = some d') : tidy S (.ok d (S ++ T)) = .ok d' S ∨ (T = [] ∧ tidy S (.ok d (S ++ T)) = .ok d S) := by
  by_cases hT : (S ++ T).length ≤ S.length
  · have : T = [] := by
      rw [List.length_append] at hT
      exact List.eq_nil_of_length_eq_zero (by omega)
    subst this
    rw [List.append_nil]
    exact .inr ⟨rfl, tidy_ok0⟩
  · unfold tidy
    simp only [if_neg hT, h, if_pos (Old.refl S T)]
    rw [List.take_left]
    exact .inl rfl
theorem tidy_no {S T : Store} {d : D} (h : noRef d = true) : tidy S (.ok d (S ++ T)) = .ok d S := by
  rcases tidy_app (S := S) (T := T) (res_no h) with z | ⟨_, z⟩ <;> exact z
theorem tidy_noErr {S T : Store} {c : Nat} {d : D} (h : noRef d = true) : tidy S (.err c d (S ++ T)) = .err c d S := by
  by_cases hT : (S ++ T).length ≤ S.length
  · have : T = [] := by
      rw [List.length_append] at hT
      exact List.eq_nil_of_length_eq_zero (by omega)
    subst this
    rw [List.append_nil]
    exact tidy_err0
  · unfold tidy
    simp only [if_neg hT, res_no h, if_pos (Old.refl S T)]
    rw [List.take_left]
/-- all that it reaches in the store -/
def look (d : D) (S : Store) : Option D := res 0 S d
theorem look_no {S : Store} {d : D} (h : noRef d = true) : look d S = some d := res_no h
def oEq : Op2 := fun a b S => match look a S, look b S with
  | some x, some y => if fit x && fit y then .ok (.bl (eqB x y)) S else .bad
  | _, _ => .bad
def oNe : Op2 := fun a b S => match look a S, look b S with
  | some x, some y => if fit x && fit y then .ok (.bl (!eqB x y)) S else .bad
  | _, _ => .bad

/-! ### tests -/
def tVal (f : Den) : DenT := fun e S => (f e S).bind fun a S1 => match a with | .bl b => .ok b S1 | _ => .bad
def tNot (t : DenT) : DenT := fun e S => (t e S).bind fun b S1 => .ok (!b) S1
def tAnd (t u : DenT) : DenT := fun e S => (t e S).bind fun b S1 => if b then u e S1 else .ok false S1
def tOr (t u : DenT) : DenT := fun e S => (t e S).bind fun b S1 => if b then .ok true S1 else u e S1
/-- and, or, not as values: all but the last True or False -/
def eAnd (f g : Den) : Den := fun e S => (f e S).bind fun a S1 => match a with | .bl true => g e S1 | .bl false => .ok (.bl false) S1 | _ => .bad
def eOr (f g : Den) : Den := fun e S => (f e S).bind fun a S1 => match a with | .bl true => .ok (.bl true) S1 | .bl false => g e S1 | _ => .bad
def eNot (f : Den) : Den := fun e S => (f e S).bind fun a S1 => match a with | .bl b => .ok (.bl (!b)) S1 | _ => .bad

/-! ### statements -/
def sPass : DenS := fun e S => .next e S
def sSeq (a b : DenS) : DenS := fun e S => match a e S with | .next e1 S1 => b e1 S1 | r => r
def sExpr (f : Den) : DenS := fun e S => match f e S with | .ok _ S1 => .next e S1 | .err c v S1 => .err c v e S1 | .bad => .bad
def sSet (i : Nat) (f : Den) : DenS := fun e S => match f e S with | .ok d S1 => .next (e.set i (some d)) S1 | .err c v S1 => .err c v e S1 | .bad => .bad
def sRet (f : Den) : DenS := fun e S => match f e S with | .ok d S1 => .ret d S1 | .err c v S1 => .err c v e S1 | .bad => .bad
def sRetN : DenS := fun _ S => .ret .non S
def sIf (t : DenT) (a b : DenS) : DenS := fun e S => match t e S with | .ok c S1 => if c then a e S1 else b e S1 | .err c v S1 => .err c v e S1 | .bad => .bad
def sBrk : DenS := fun e S => .brk e S
def sCont : DenS := fun e S => .cont e S
/-- raise C(e) -/
def sRaise (c : Nat) (f : Den) : DenS := fun e S => match f e S with | .ok d S1 => .err c d e S1 | .err c v S1 => .err c v e S1 | .bad => .bad

/-! ### targets -/
/-- a target: a value's place in the slots -/
abbrev Tgt := D → Env → Store → Option Env
def gNm (i : Nat) : Tgt := fun d e _ => some (e.set i (some d))
def gTs : List Nat → List D → Env → Option Env
  | [], [], e => some e
  | i :: is, d :: ds, e => gTs is ds (e.set i (some d))
  | _, _, _ => none

/-! ### loops -/
def forL (g : Tgt) (b : DenS) : List D → DenS
  | [] => fun e S => .next e S
  | x :: xs => fun e S => match g x e S with
    | none => .bad
    | some e1 => (match b e1 S with
      | .next e2 S2 => forL g b xs e2 S2
      | .cont e2 S2 => forL g b xs e2 S2
      | .brk e2 S2 => .next e2 S2
      | .ret d S2 => .ret d S2
      | .err c v e2 S2 => .err c v e2 S2
      | .bad => .bad)
/-- what a loop walks: its i-th item as the store then is (none: it ends) -/
abbrev Walk := Nat → Store → Option (Option D)
def wkL (xs : List D) : Walk := fun i _ => some xs[i]?
def wkR (n : Nat) : Walk := fun i S => match S[n]? with | some (.lst xs) => some xs[i]? | _ => none
def wkE (w : Walk) : Walk := fun i S => (w i S).map fun o => o.map fun d => .tup [.int i, d]
def wkZ (a b : Walk) : Walk := fun i S => match a i S, b i S with
  | some (some x), some (some y) => some (some (.tup [x, y]))
  | some none, some _ => some none
  | some (some _), some none => some none
  | _, _ => none
theorem wkE_L (xs : List D) : wkE (wkL xs) = wkL (xs.mapIdx fun i d => .tup [.int i, d]) := by
  funext i S
  simp [wkE, wkL]
theorem wkZ_L (xs ys : List D) : wkZ (wkL xs) (wkL ys) = wkL (List.zipWith (fun x y => .tup [x, y]) xs ys) := by
  funext i S
  simp only [wkZ, wkL, List.getElem?_zipWith]
  cases xs[i]? <;> cases ys[i]? <;> rfl
abbrev DenI := Env → Store → R (Walk × Nat)
def forW (g : Tgt) (b : DenS) (w : Walk) : Nat → Nat → DenS
  | 0, i => fun e S => match w i S with | some none => .next e S | _ => .bad
  | f + 1, i => fun e S => match w i S with
    | none => .bad
    | some none => .next e S
    | some (some x) => (match g x e S with
      | none => .bad
      | some e1 => (match b e1 S with
        | .next e2 S2 => forW g b w f (i + 1) e2 S2
        | .cont e2 S2 => forW g b w f (i + 1) e2 S2
        | .brk e2 S2 => .next e2 S2
        | .ret d S2 => .ret d S2
        | .err c v e2 S2 => .err c v e2 S2
        | .bad => .bad))
def sFor (g : Tgt) (i : DenI) (b : DenS) : DenS := fun e S => match i e S with
  | .ok w S1 => forW g b w.1 w.2 0 e S1
  | .err c v S1 => .err c v e S1
  | .bad => .bad
theorem forW_L (g : Tgt) (b : DenS) (xs : List D) : ∀ (f i : Nat) (e : Env) (S : Store), i + f = xs.length → forW g b (wkL xs) f i e S = forL g b (xs.drop i) e S
  | 0, i, e, S, h => by
    have hi : xs.length ≤ i := by omega
    unfold forW
    rw [List.drop_eq_nil_of_le hi]
    simp [wkL, List.getElem?_eq_none hi, forL]
  | f + 1, i, e, S, h => by
    have hi : i < xs.length := by omega
    unfold forW
    rw [List.drop_eq_getElem_cons hi]
    simp only [wkL, List.getElem?_eq_getElem hi]
    unfold forL
    cases g xs[i] e S with
    | none => rfl
    | some e1 =>
      dsimp only
      cases b e1 S with
      | next e2 S2 => exact forW_L g b xs f (i + 1) e2 S2 (by omega)
      | cont e2 S2 => exact forW_L g b xs f (i + 1) e2 S2 (by omega)
      | _ => rfl
theorem forW_all (g : Tgt) (b : DenS) (xs : List D) (e : Env) (S : Store) : forW g b (wkL xs) xs.length 0 e S = forL g b xs e S := by
  rw [forW_L g b xs xs.length 0 e S (by omega), List.drop_zero]
theorem sFor_L {g : Tgt} {gi : DenI} {b : DenS} {e : Env} {S S1 : Store} {xs : List D} (h : gi e S = .ok (wkL xs, xs.length) S1) : sFor g gi b e S = forL g b xs e S1 := by
  unfold sFor
  rw [h]
  exact forW_all g b xs e S1
/-- a list that the body leaves as it is -/
theorem forW_R (g : Tgt) (b : DenS) (n : Nat) (xs : List D) (hb : ∀ (e : Env) (S : Store) (e' : Env) (S' : Store), S[n]? = some (.lst xs) → (b e S = .next e' S' ∨ b e S = .cont e' S') → S'[n]? = some (.lst xs)) :
    ∀ (f i : Nat) (e : Env) (S : Store), S[n]? = some (.lst xs) → i + f = xs.length → forW g b (wkR n) f i e S = forL g b (xs.drop i) e S
  | 0, i, e, S, hS, h => by
    have hi : xs.length ≤ i := by omega
    unfold forW
    rw [List.drop_eq_nil_of_le hi]
    simp [wkR, hS, List.getElem?_eq_none hi, forL]
  | f + 1, i, e, S, hS, h => by
    have hi : i < xs.length := by omega
    unfold forW
    rw [List.drop_eq_getElem_cons hi]
    simp only [wkR, hS, List.getElem?_eq_getElem hi]
    unfold forL
    cases g xs[i] e S with
    | none => rfl
    | some e1 =>
      dsimp only
      cases q : b e1 S with
      | next e2 S2 => exact forW_R g b n xs hb f (i + 1) e2 S2 (hb _ _ _ _ hS (.inl q)) (by omega)
      | cont e2 S2 => exact forW_R g b n xs hb f (i + 1) e2 S2 (hb _ _ _ _ hS (.inr q)) (by omega)
      | _ => rfl
/-- a list, a tuple: as a walk -/
def dSeq (f : Den) : DenI := fun e S => (f e S).bind fun d S1 => match d with
  | .tup xs => .ok (wkL xs, xs.length) S1
  | .lst xs => .ok (wkL xs, xs.length) S1
  | .fls is => .ok (wkL (is.map .int), is.length) S1
  | .ref n => (match S1[n]? with | some (.lst xs) => .ok (wkR n, xs.length) S1 | _ => .bad)
  | _ => .bad
def intsD (lo : Int) (n : Nat) : List D := (List.range n).map fun (k : Nat) => .int (lo + (k : Int))
theorem intsD_length (lo : Int) (n : Nat) : (intsD lo n).length = n := by simp [intsD]
theorem intsD_get (lo : Int) (n i : Nat) (h : i < n) : (intsD lo n)[i]? = some (.int (lo + (i : Int))) := by simp [intsD, h]
def inR (j : Int) : Bool := decide (-(2 ^ 62) ≤ j) && decide (j < 2 ^ 62)
theorem inR_ok {j : Int} (h : inR j = true) : -(2 ^ 62) ≤ j ∧ j < 2 ^ 62 := by
  unfold inR at h
  rw [Bool.and_eq_true] at h
  exact ⟨of_decide_eq_true h.1, of_decide_eq_true h.2⟩
def dRng1 (f : Den) : DenI := fun e S => (f e S).bind fun d S1 => match d with | .int j => if inR j then .ok (wkL (intsD 0 j.toNat), (intsD 0 j.toNat).length) S1 else .bad | _ => .bad
def dRng2 (f g : Den) : DenI := fun e S => (f e S).bind fun d S1 => (g e S1).bind fun d2 S2 => match d, d2 with | .int i, .int j => if inR i && inR j then .ok (wkL (intsD i (j - i).toNat), (intsD i (j - i).toNat).length) S2 else .bad | _, _ => .bad
/-- enumerate -/
def dEnum (g : DenI) : DenI := fun e S => (g e S).bind fun w S1 => .ok (wkE w.1, w.2) S1
/-- zip of two -/
def dZip (g h : DenI) : DenI := fun e S => (g e S).bind fun w S1 => (h e S1).bind fun v S2 => .ok (wkZ w.1 v.1, min w.2 v.2) S2

/-! ### comprehensions -/
def wipeE (e : Env) : List Nat → Env
  | [] => e
  | v :: vs => (wipeE e vs).set v none
/-- the list lies at n while it grows -/
def lcW (g : Tgt) (t : DenT) (f : Den) (w : Walk) (e0 : Env) (n : Nat) : Nat → Nat → Store → R Unit
  | 0, i, S => match w i S with | some none => .ok () S | _ => .bad
  | k + 1, i, S => match w i S with
    | none => .bad
    | some none => .ok () S
    | some (some x) => (match g x e0 S with
      | none => .bad
      | some e1 => (match t e1 S with
        | .ok true S1 => (match f e1 S1 with
          | .ok d S2 => (match S2[n]? with
            | some (.lst acc) => if acc.length < sizeLine then lcW g t f w e0 n k (i + 1) (S2.set n (.lst (acc ++ [d]))) else .bad
            | _ => .bad)
          | _ => .bad)
        | .ok false S1 => lcW g t f w e0 n k (i + 1) S1
        | _ => .bad))
/-- .. as a list that will be changed -/
def eLcN (vs : List Nat) (gi : DenI) (g : Tgt) (t : DenT) (f : Den) : Den := fun e S => (gi e S).bind fun w S1 => (lcW g t f w.1 (wipeE e vs) S1.length w.2 0 (S1 ++ [.lst []])).bind fun _ S2 => .ok (.ref S1.length) S2
/-- .. as a value -/
noncomputable def eLc (vs : List Nat) (gi : DenI) (g : Tgt) (t : DenT) (f : Den) : Den := fun e S => (gi e S).bind fun w S1 =>
  tidy S1 ((lcW g t f w.1 (wipeE e vs) S1.length w.2 0 (S1 ++ [.lst []])).bind fun _ S2 => .ok (.ref S1.length) S2)
def tYesD : DenT := fun _ S => .ok true S
def whileN (t : DenT) (b : DenS) : Nat → DenS
  | 0 => fun _ _ => .bad
  | n + 1 => fun e S => match t e S with
    | .ok true S1 => (match b e S1 with
      | .next e2 S2 => whileN t b n e2 S2
      | .cont e2 S2 => whileN t b n e2 S2
      | .brk e2 S2 => .next e2 S2
      | .ret d S2 => .ret d S2
      | .err c v e2 S2 => .err c v e2 S2
      | .bad => .bad)
    | .ok false S1 => .next e S1
    | .err c v S1 => .err c v e S1
    | .bad => .bad
open Classical in
noncomputable def sWhile (t : DenT) (b : DenS) : DenS := fun e S => if h : ∃ n, whileN t b n e S ≠ .bad then whileN t b h.choose e S else .bad
theorem whileN_mono {t : DenT} {b : DenS} : ∀ {n : Nat} {e : Env} {S : Store}, whileN t b n e S ≠ .bad → ∀ m, n ≤ m → whileN t b m e S = whileN t b n e S
  | 0, e, S, h, _, _ => absurd rfl h
  | n + 1, e, S, h, 0, hm => absurd hm (Nat.not_succ_le_zero n)
  | n + 1, e, S, h, m + 1, hm => by
    unfold whileN at h ⊢
    cases ht : t e S with
    | bad => rfl
    | err c v S1 => rfl
    | ok c S1 =>
      rw [ht] at h
      cases c with
      | false => rfl
      | true =>
        simp only at h ⊢
        cases hb : b e S1 with
        | next e2 S2 =>
          rw [hb] at h
          exact whileN_mono h m (Nat.le_of_succ_le_succ hm)
        | cont e2 S2 =>
          rw [hb] at h
          exact whileN_mono h m (Nat.le_of_succ_le_succ hm)
        | _ => rfl
theorem sWhile_of {t : DenT} {b : DenS} {n : Nat} {e : Env} {S : Store} (h : whileN t b n e S ≠ .bad) : sWhile t b e S = whileN t b n e S := by
  unfold sWhile
  have hx : ∃ n, whileN t b n e S ≠ .bad := ⟨n, h⟩
  rw [dif_pos hx]
  have hc := hx.choose_spec
  rcases Nat.le_total n hx.choose with l | l
  · exact whileN_mono h _ l
  · exact (whileN_mono hc _ l).symm
theorem sWhile_some {t : DenT} {b : DenS} {e : Env} {S : Store} (h : sWhile t b e S ≠ .bad) : ∃ n, whileN t b n e S = sWhile t b e S := by
  unfold sWhile at h ⊢
  by_cases hx : ∃ n, whileN t b n e S ≠ .bad
  · rw [dif_pos hx]
    exact ⟨_, rfl⟩
  · rw [dif_neg hx] at h
    exact absurd rfl h
/-- one turn -/
theorem sWhile_eq (t : DenT) (b : DenS) (e : Env) (S : Store) : sWhile t b e S = (match t e S with
    | .ok true S1 => (match b e S1 with
      | .next e2 S2 => sWhile t b e2 S2
      | .cont e2 S2 => sWhile t b e2 S2
      | .brk e2 S2 => .next e2 S2
      | .ret d S2 => .ret d S2
      | .err c v e2 S2 => .err c v e2 S2
      | .bad => .bad)
    | .ok false S1 => .next e S1
    | .err c v S1 => .err c v e S1
    | .bad => .bad) := by
  have up : ∀ {e2 : Env} {S2 : Store} {S1 : Store}, t e S = .ok true S1 → (b e S1 = .next e2 S2 ∨ b e S1 = .cont e2 S2) → sWhile t b e S = sWhile t b e2 S2 := by
    intro e2 S2 S1 ht hb
    have one : ∀ n, whileN t b (n + 1) e S = whileN t b n e2 S2 := fun n => by
      rcases hb with hb | hb <;> (conv => lhs; unfold whileN) <;> rw [ht] <;> simp only [hb]
    by_cases hx : ∃ n, whileN t b n e2 S2 ≠ .bad
    · obtain ⟨n, hn⟩ := hx
      rw [sWhile_of hn, sWhile_of (n := n + 1) (by rw [one]; exact hn), one]
    · have h1 : ¬ ∃ n, whileN t b n e S ≠ .bad := fun ⟨n, hn⟩ => by
        cases n with
        | zero => exact hn rfl
        | succ n => exact hx ⟨n, by rw [← one]; exact hn⟩
      unfold sWhile
      rw [dif_neg hx, dif_neg h1]
  have same : ∀ r : RS, whileN t b 1 e S = r → r ≠ .bad → sWhile t b e S = r := fun r h hr => by
    rw [sWhile_of (n := 1) (by rw [h]; exact hr), h]
  have badc : (∀ n, whileN t b n e S = .bad) → sWhile t b e S = .bad := fun h => by
    unfold sWhile
    rw [dif_neg fun ⟨n, hn⟩ => hn (h n)]
  cases ht : t e S with
  | bad => exact badc fun n => by cases n with
    | zero => rfl
    | succ n => unfold whileN; rw [ht]
  | err c v S1 => exact same _ (by unfold whileN; rw [ht]) (by simp)
  | ok c S1 =>
    cases c with
    | false => exact same _ (by unfold whileN; rw [ht]) (by simp)
    | true =>
      simp only
      cases hb : b e S1 with
      | next e2 S2 => exact up ht (.inl hb)
      | cont e2 S2 => exact up ht (.inr hb)
      | brk e2 S2 => exact same _ (by unfold whileN; rw [ht]; simp only [hb]) (by simp)
      | ret d S2 => exact same _ (by unfold whileN; rw [ht]; simp only [hb]) (by simp)
      | err c v e2 S2 => exact same _ (by unfold whileN; rw [ht]; simp only [hb]) (by simp)
      | bad => exact badc fun n => by cases n with
        | zero => rfl
        | succ n => unfold whileN; rw [ht]; simp only [hb]

/-! ### a def -/
def runBody (F : DenS) (n : Nat) (args : List D) (S : Store) : R D :=
  match F (args.map some ++ List.replicate (n - args.length) none) S with
  | .next _ S1 => .ok .non S1
  | .ret d S1 => .ok d S1
  | .err c v _ S1 => .err c v S1
  | _ => .bad
/-- .. that gives no list of its own to be changed -/
noncomputable def runTidy (F : DenS) (n : Nat) (args : List D) (S : Store) : R D := tidy S (runBody F n args S)
end Py

set_option maxHeartbeats 4000000
/-! PyB: how plain data stand for what lies in the heap of the hand layer; the readings of expressions. -/
namespace Py
open PySem PySem.Spec PyProof.Rows L2
abbrev St := L2.St

/-- an exception that was caught: at a, of the class at C, its own dict at d -/
def exk (a C d : Addr) : HO := .ext fun h => ∃ oe vs, h.get? a = some oe ∧ oe.cls = .ref C ∧ oe.dict = some d ∧ oe.data = .fields vs
/-- where things stand: the abstract heap, the addresses of the store's objects, the store -/
structure Wd where
  H : Hp
  ρ : Nat → Addr
  S : Store
/-- what may be changed -/
def Wd.M (w : Wd) (a : Addr) : Prop := ∃ n xs, w.S[n]? = some (.lst xs) ∧ w.ρ n = a
section
variable (K : PySem.W.Frag) (ca : Nat → Addr)
mutual
inductive Rep : Wd → V → D → Prop where
  | non {w : Wd} : Rep w .non .non
  | bl {w : Wd} (b : Bool) : Rep w (.bl b) (.bl b)
  | int {w : Wd} (i : Int) : Rep w (.int i) (.int i)
  | str {w : Wd} (x : Str) : Rep w (.str x) (.str x)
  | tup {w : Wd} {a : Addr} {vs : List V} {ds : List D} : SqT K w.H a vs → RepL w vs ds → Rep w (.ref a) (.tup ds)
  | lst {w : Wd} {a : Addr} {vs : List V} {ds : List D} : w.H a = some (.lst vs) → ¬ w.M a → RepL w vs ds → Rep w (.ref a) (.lst ds)
  | dct {w : Wd} {a : Addr} {ks : List (Sum Int Str)} {us : List V} {ds : List D} : w.H a = some (.dK (ks.zip us)) → ¬ w.M a → ks.length = us.length → RepL w us ds → Rep w (.ref a) (.dct ks ds)
  | ref {w : Wd} {n : Nat} : n < w.S.length → Rep w (.ref (w.ρ n)) (.ref n)
  | fls {w : Wd} {a : Addr} {is : List Int} : ((∃ o, w.H a = some (.frz o (.lst (is.map V.int)))) ∨ ∃ (o : Obj) (its : Array Value) (n : Nat), K.lookup a = some o ∧ o.cls = .type "list" ∧ o.dict = none ∧ o.data = .seq its n ∧ its.size ≤ sizeLine ∧ Vals (is.map V.int) its.toList) → Rep w (.ref a) (.fls is)
  | exc {w : Wd} {a d : Addr} {c : Nat} {v : V} {x : D} : w.H a = some (exk a (ca c) d) → w.H d = some (.xd [("value", v)]) → ¬ w.M a → ¬ w.M d → Rep w v x → Rep w (.ref a) (.exc c x)
inductive RepL : Wd → List V → List D → Prop where
  | nil {w : Wd} : RepL w [] []
  | cons {w : Wd} {v : V} {d : D} {vs : List V} {ds : List D} : Rep w v d → RepL w vs ds → RepL w (v :: vs) (d :: ds)
end
/-- the store's objects are as the heap has them -/
structure SOk (w : Wd) : Prop where
  live : ∀ n xs, w.S[n]? = some (.lst xs) → ∃ vs, w.H (w.ρ n) = some (.lst vs) ∧ RepL K ca w vs xs
  inj : ∀ n m xs ys, w.S[n]? = some (.lst xs) → w.S[m]? = some (.lst ys) → w.ρ n = w.ρ m → n = m
end
/-- later -/
structure Ext (w w' : Wd) : Prop where
  keep : ∀ a o, w.H a = some o → ¬ w.M a → w'.H a = some o
  fresh : ∀ a, w'.M a → w.M a ∨ w.H a = none
  rho : ∀ n, n < w.S.length → w'.ρ n = w.ρ n
  len : w.S.length ≤ w'.S.length
theorem Ext.refl (w : Wd) : Ext w w := ⟨fun _ _ h _ => h, fun _ h => .inl h, fun _ _ => rfl, Nat.le_refl _⟩
theorem Ext.notM {w w' : Wd} (e : Ext w w') {a : Addr} {o : HO} (h : w.H a = some o) (n : ¬ w.M a) : ¬ w'.M a := fun m => by
  rcases e.fresh a m with z | z
  · exact n z
  · rw [h] at z; cases z
theorem Ext.trans {w w1 w2 : Wd} (a : Ext w w1) (b : Ext w1 w2) : Ext w w2 where
  keep := fun c o h n => b.keep c o (a.keep c o h n) (a.notM h n)
  fresh := fun c m => by
    by_cases hm : w.M c
    · exact .inl hm
    · cases q : w.H c with
      | none => exact .inr rfl
      | some o => exact absurd m (b.notM (a.keep c o q hm) (a.notM q hm))
  rho := fun n h => (b.rho n (Nat.lt_of_lt_of_le h a.len)).trans (a.rho n h)
  len := Nat.le_trans a.len b.len
section
variable {K : PySem.W.Frag} {ca : Nat → Addr} {w w' : Wd}
theorem SOk.lstM (s : SOk K ca w) {a : Addr} (m : w.M a) : ∃ vs, w.H a = some (.lst vs) := by
  obtain ⟨n, xs, h, e⟩ := m
  obtain ⟨vs, q, _⟩ := s.live n xs h
  exact ⟨vs, by rw [← e]; exact q⟩
theorem SOk.notM (s : SOk K ca w) {a : Addr} {o : HO} (h : w.H a = some o) (n : ∀ vs, o ≠ .lst vs) : ¬ w.M a := fun m => by
  obtain ⟨vs, q⟩ := s.lstM m
  rw [h] at q; cases q
  exact n vs rfl
theorem SOk.notM0 (s : SOk K ca w) {a : Addr} (h : w.H a = none) : ¬ w.M a := fun m => by
  obtain ⟨vs, q⟩ := s.lstM m
  rw [h] at q; cases q
theorem Ext.sqT (e : Ext w w') (s : SOk K ca w) {a : Addr} {vs : List V} (h : SqT K w.H a vs) : SqT K w'.H a vs := by
  rcases h with (h | ⟨o, h⟩) | h
  · exact .inl (.inl (e.keep _ _ h (s.notM h fun _ z => by cases z)))
  · exact .inl (.inr ⟨o, e.keep _ _ h (s.notM h fun _ z => by cases z)⟩)
  · exact .inr h
mutual
theorem Rep.mono (e : Ext w w') (s : SOk K ca w) : ∀ {v : V} {d : D}, Rep K ca w v d → Rep K ca w' v d
  | _, _, .non => .non
  | _, _, .bl b => .bl b
  | _, _, .int i => .int i
  | _, _, .str x => .str x
  | _, _, .tup h r => .tup (e.sqT s h) (RepL.mono e s r)
  | _, _, .lst h n r => .lst (e.keep _ _ h n) (e.notM h n) (RepL.mono e s r)
  | _, _, .ref (n := n) h => by
    have q : Rep K ca w' (.ref (w'.ρ n)) (.ref n) := .ref (Nat.lt_of_lt_of_le h e.len)
    rw [e.rho n h] at q
    exact q
  | _, _, .dct h n l r => .dct (e.keep _ _ h n) (e.notM h n) l (RepL.mono e s r)
  | _, _, .fls h => .fls (h.elim (fun ⟨o, q⟩ => .inl ⟨o, e.keep _ _ q (s.notM q fun _ z => by cases z)⟩) .inr)
  | _, _, .exc h1 h2 n1 n2 r => .exc (e.keep _ _ h1 n1) (e.keep _ _ h2 n2) (e.notM h1 n1) (e.notM h2 n2) (Rep.mono e s r)
theorem RepL.mono (e : Ext w w') (s : SOk K ca w) : ∀ {vs : List V} {ds : List D}, RepL K ca w vs ds → RepL K ca w' vs ds
  | _, _, .nil => .nil
  | _, _, .cons r t => .cons (Rep.mono e s r) (RepL.mono e s t)
end
theorem RepL.length : ∀ {vs : List V} {ds : List D}, RepL K ca w vs ds → vs.length = ds.length
  | _, _, .nil => rfl
  | _, _, .cons _ t => congrArg (· + 1) t.length
theorem RepL.get : ∀ {vs : List V} {ds : List D} {i : Nat} {d : D}, RepL K ca w vs ds → ds[i]? = some d → ∃ v, vs[i]? = some v ∧ Rep K ca w v d
  | _, _, _, _, .nil, h => by cases h
  | _, _, 0, _, .cons r _, h => by
    have e := Option.some.inj h
    subst e
    exact ⟨_, rfl, r⟩
  | _, _, i + 1, _, .cons _ t, h => RepL.get (i := i) t h
theorem RepL.getV : ∀ {vs : List V} {ds : List D} {i : Nat} {v : V}, RepL K ca w vs ds → vs[i]? = some v → ∃ d, ds[i]? = some d ∧ Rep K ca w v d
  | _, _, _, _, .nil, h => by cases h
  | _, _, 0, _, .cons r _, h => by
    have e := Option.some.inj h
    subst e
    exact ⟨_, rfl, r⟩
  | _, _, i + 1, _, .cons _ t, h => RepL.getV (i := i) t h
theorem RepL.append : ∀ {vs us : List V} {ds es : List D}, RepL K ca w vs ds → RepL K ca w us es → RepL K ca w (vs ++ us) (ds ++ es)
  | _, _, _, _, .nil, s => s
  | _, _, _, _, .cons r t, s => .cons r (RepL.append t s)
theorem RepL.take : ∀ {vs : List V} {ds : List D} (n : Nat), RepL K ca w vs ds → RepL K ca w (vs.take n) (ds.take n)
  | _, _, 0, _ => .nil
  | _, _, _ + 1, .nil => .nil
  | _, _, n + 1, .cons r t => .cons r (RepL.take n t)
theorem RepL.drop : ∀ {vs : List V} {ds : List D} (n : Nat), RepL K ca w vs ds → RepL K ca w (vs.drop n) (ds.drop n)
  | _, _, 0, r => r
  | _, _, _ + 1, .nil => .nil
  | _, _, n + 1, .cons _ t => RepL.drop n t
theorem RepL.set : ∀ {vs : List V} {ds : List D} {v : V} {d : D} (i : Nat), RepL K ca w vs ds → Rep K ca w v d → RepL K ca w (vs.set i v) (ds.set i d)
  | _, _, _, _, _, .nil, _ => .nil
  | _, _, _, _, 0, .cons _ t, q => .cons q t
  | _, _, _, _, i + 1, .cons r t, q => .cons r (RepL.set i t q)
theorem RepL.one {v : V} {ds : List D} (h : RepL K ca w [v] ds) : ∃ d, ds = [d] ∧ Rep K ca w v d := by
  cases h with
  | cons r t => cases t; exact ⟨_, rfl, r⟩
theorem RepL.of1 {vs : List V} {d : D} (h : RepL K ca w vs [d]) : ∃ v, vs = [v] ∧ Rep K ca w v d := by
  cases h with
  | cons r t => cases t; exact ⟨_, rfl, r⟩
theorem RepL.of2 {vs : List V} {d e : D} (h : RepL K ca w vs [d, e]) : ∃ v u, vs = [v, u] ∧ Rep K ca w v d ∧ Rep K ca w u e := by
  cases h with
  | cons r t =>
    obtain ⟨u, rfl, q⟩ := t.of1
    exact ⟨_, _, rfl, r, q⟩
end

/-- how a reading ends -/
def Sat {α : Type} (r : R α) (Q : α → Store → Prop) (E : Nat → D → Store → Prop) : Prop := match r with
  | .ok a S => Q a S | .err c v S => E c v S | .bad => False
theorem Sat.bind {α β : Type} {r : R α} {f : α → Store → R β} {Q : β → Store → Prop} {E : Nat → D → Store → Prop} (h : Sat (r.bind f) Q E) : Sat r (fun a S => Sat (f a S) Q E) E := by
  cases r <;> exact h
theorem Sat.mono {α : Type} {r : R α} {Q Q' : α → Store → Prop} {E E' : Nat → D → Store → Prop} (h : Sat r Q E) (hq : ∀ a S, Q a S → Q' a S) (he : ∀ c v S, E c v S → E' c v S) : Sat r Q' E' := by
  cases r with
  | ok a S => exact hq a S h
  | err c v S => exact he c v S h
  | bad => exact h

section
variable (K : PySem.W.Frag) (ca : Nat → Addr)
/-- whatever comes behind w with the store S -/
def Aft (w : Wd) (S : Store) (P : Wd → Prop) : Prop := ∀ w' : Wd, w'.S = S → Ext w w' → SOk K ca w' → P w'
/-- an exception of the class number c that holds x -/
def ExIn (w : Wd) (cls : Value) (dd : Option Addr) (c : Nat) (x : D) : Prop := cls = .ref (ca c) ∧ ∃ d v, dd = some d ∧ w.H d = some (.xd [("value", v)]) ∧ ¬ w.M d ∧ Rep K ca w v x
/-- the slots -/
def Sim (w : Wd) (env : Env) (σ : St) : Prop := env.length = σ.length ∧ ∀ (i : Nat) (d : D), env[i]? = some (some d) → ∃ v : V, σ[i]? = some (some v) ∧ Rep K ca w v d
def QV (w : Wd) (Q : VK) : D → Store → Prop := fun d S => Aft K ca w S fun w' => ∀ v, Rep K ca w' v d → Q v w'.H
def QL (w : Wd) (Q : List V → Hp → Prop) : List D → Store → Prop := fun ds S => Aft K ca w S fun w' => ∀ vs, RepL K ca w' vs ds → Q vs w'.H
def QB (w : Wd) (Q : Bool → Hp → Prop) : Bool → Store → Prop := fun b S => Aft K ca w S fun w' => Q b w'.H
def QE (w : Wd) (W : WX) (σ : St) : Nat → D → Store → Prop := fun c x S => Aft K ca w S fun w' => ∀ cls dd, ExIn K ca w' cls dd c x → W cls dd σ w'.H
def tE (W : WX) (f : Den) : TE := fun σ H Q => ∃ w env, w.H = H ∧ SOk K ca w ∧ Sim K ca w env σ ∧ Sat (f env w.S) (QV K ca w Q) (QE K ca w W σ)
def tEs (W : WX) (f : Dens) : TA := fun σ H Q => ∃ w env, w.H = H ∧ SOk K ca w ∧ Sim K ca w env σ ∧ Sat (f env w.S) (QL K ca w Q) (QE K ca w W σ)
def tT (W : WX) (f : DenT) : TT := fun σ H Q => ∃ w env, w.H = H ∧ SOk K ca w ∧ Sim K ca w env σ ∧ Sat (f env w.S) (QB K ca w Q) (QE K ca w W σ)
/-- a new list at any free place -/
def QF (w : Wd) (Q : VK) : List D → Store → Prop := fun ds S => Aft K ca w S fun w' => ∀ vs p, RepL K ca w' vs ds → w'.H p = none → Q (.ref p) (upd w'.H p (.lst vs))
def tF (W : WX) (f : Dens) : TE := fun σ H Q => ∃ w env, w.H = H ∧ SOk K ca w ∧ Sim K ca w env σ ∧ Sat (f env w.S) (QF K ca w Q) (QE K ca w W σ)
end
section
variable {K : PySem.W.Frag} {ca : Nat → Addr} {w w' : Wd} {S : Store} {P P' : Wd → Prop}
theorem Aft.here (h : Aft K ca w w'.S P) (e : Ext w w') (s : SOk K ca w') : P w' := h w' rfl e s
theorem Aft.later (h : Aft K ca w S P) (e : Ext w w') : Aft K ca w' S P := fun w2 hs e2 s2 => h w2 hs (e.trans e2) s2
theorem Aft.mono (h : Aft K ca w S P) (f : ∀ w', Ext w w' → SOk K ca w' → P w' → P' w') : Aft K ca w S P' := fun w2 hs e2 s2 => f w2 e2 s2 (h w2 hs e2 s2)
theorem Sim.mono {env : Env} {σ : St} (e : Ext w w') (s : SOk K ca w) (h : Sim K ca w env σ) : Sim K ca w' env σ :=
  ⟨h.1, fun i d q => let ⟨v, a, r⟩ := h.2 i d q; ⟨v, a, r.mono e s⟩⟩
theorem Sim.set {env : Env} {σ : St} {v : V} {d : D} (h : Sim K ca w env σ) (i : Nat) (r : Rep K ca w v d) : Sim K ca w (env.set i (some d)) (σ.set i (some v)) := by
  refine ⟨by simp [h.1], fun j x q => ?_⟩
  by_cases hj : i = j
  · subst hj
    by_cases hl : i < env.length
    · rw [List.getElem?_set_self hl] at q
      cases q
      exact ⟨v, by rw [List.getElem?_set_self (by rw [← h.1]; exact hl)], r⟩
    · rw [List.getElem?_eq_none (by simpa using hl)] at q
      cases q
  · rw [List.getElem?_set_ne hj] at q
    obtain ⟨u, a, b⟩ := h.2 j x q
    exact ⟨u, by rw [List.getElem?_set_ne hj]; exact a, b⟩
theorem satLater {α : Type} {r : R α} {Q : Wd → α → Store → Prop} {E : Wd → Nat → D → Store → Prop} (h : Sat r (Q w) (E w)) (hq : ∀ a S, Q w a S → Q w' a S) (he : ∀ c v S, E w c v S → E w' c v S) : Sat r (Q w') (E w') := h.mono hq he
theorem QV.later {Q : VK} {d : D} (e : Ext w w') (h : QV K ca w Q d S) : QV K ca w' Q d S := Aft.later h e
theorem QE.later {W : WX} {σ : St} {c : Nat} {x : D} (e : Ext w w') (h : QE K ca w W σ c x S) : QE K ca w' W σ c x S := Aft.later h e
theorem QL.later {Q : List V → Hp → Prop} {d : List D} (e : Ext w w') (h : QL K ca w Q d S) : QL K ca w' Q d S := Aft.later h e
theorem QB.later {Q : Bool → Hp → Prop} {b : Bool} (e : Ext w w') (h : QB K ca w Q b S) : QB K ca w' Q b S := Aft.later h e
theorem QF.later {Q : VK} {d : List D} (e : Ext w w') (h : QF K ca w Q d S) : QF K ca w' Q d S := Aft.later h e
end

/-! ### a weaker reading -/
theorem PE.imp {X : Cx} {e : Expr} {t t' : TE} (h : PE X e t) (f : ∀ σ H Q, t' σ H Q → t σ H Q) : PE X e t' := ⟨fun pins s σ H Q I q => h.run pins s σ H Q I (f σ H Q q)⟩
theorem PA.imp {X : Cx} {e : List Expr} {t t' : TA} (h : PA X e t) (f : ∀ σ H Q, t' σ H Q → t σ H Q) : PA X e t' := ⟨fun pos pins s σ H Q I q => h.run pos pins s σ H Q I (f σ H Q q)⟩
theorem PT.imp {X : Cx} {e : Expr} {t t' : TT} (h : PT X e t) (f : ∀ σ H Q, t' σ H Q → t σ H Q) : PT X e t' := ⟨fun pins s σ H Q I q => h.run pins s σ H Q I (f σ H Q q)⟩
theorem PW.imp {X : Cx} {e : Expr} {t t' : TT} (h : PW X e t) (f : ∀ σ H Q, t' σ H Q → t σ H Q) : PW X e t' := ⟨fun wh pins s σ H Q I q => h.run wh pins s σ H Q I (f σ H Q q)⟩
theorem PS.imp {X : Cx} {e : Stmt} {t t' : TS} (h : PS X e t) (f : ∀ D σ H, t' D σ H → t D σ H) : PS X e t' := ⟨fun pins s σ H D I q => h.run pins s σ H D I (f D σ H q)⟩
theorem PSs.imp {X : Cx} {e : List Stmt} {t t' : TS} (h : PSs X e t) (f : ∀ D σ H, t' D σ H → t D σ H) : PSs X e t' := ⟨fun pins s σ H D I q => h.run pins s σ H D I (f D σ H q)⟩

/-! ### expressions -/
section
variable {X : Cx} {ca : Nat → Addr} {W : WX} {pos : Pos} {f g : Den} {gs hs : Dens} {a b : Expr} {es : List Expr}

/-- one, then the other -/
theorem tE_bind {σ : St} {H : Hp} {β : Type} {k : D → Store → R β} {w : Wd} {env : Env} {Qb : Wd → β → Store → Prop} {R : V → Hp → Prop}
    (e : w.H = H) (s : SOk X.K ca w) (m : Sim X.K ca w env σ) (h : Sat ((f env w.S).bind k) (Qb w) (QE X.K ca w W σ))
    (hl : ∀ {w' : Wd} {b : β} {S : Store}, Ext w w' → Qb w b S → Qb w' b S)
    (hr : ∀ w1 d v, SOk X.K ca w1 → Sim X.K ca w1 env σ → Rep X.K ca w1 v d → Ext w w1 → Sat (k d w1.S) (Qb w1) (QE X.K ca w1 W σ) → R v w1.H) :
    tE X.K ca W f σ H R := by
  refine ⟨w, env, e, s, m, (Sat.bind h).mono (fun d S1 q => ?_) fun c v S q => q⟩
  intro w1 hS e1 s1 v r
  subst hS
  exact hr w1 d v s1 (m.mono e1 s) r e1 (q.mono (fun b S z => hl e1 z) fun c v S z => QE.later e1 z)
theorem tEs_bind {σ : St} {H : Hp} {β : Type} {k : List D → Store → R β} {w : Wd} {env : Env} {Qb : Wd → β → Store → Prop} {R : List V → Hp → Prop}
    (e : w.H = H) (s : SOk X.K ca w) (m : Sim X.K ca w env σ) (h : Sat ((gs env w.S).bind k) (Qb w) (QE X.K ca w W σ))
    (hl : ∀ {w' : Wd} {b : β} {S : Store}, Ext w w' → Qb w b S → Qb w' b S)
    (hr : ∀ w1 d v, SOk X.K ca w1 → Sim X.K ca w1 env σ → RepL X.K ca w1 v d → Ext w w1 → Sat (k d w1.S) (Qb w1) (QE X.K ca w1 W σ) → R v w1.H) :
    tEs X.K ca W gs σ H R := by
  refine ⟨w, env, e, s, m, (Sat.bind h).mono (fun d S1 q => ?_) fun c v S q => q⟩
  intro w1 hS e1 s1 v r
  subst hS
  exact hr w1 d v s1 (m.mono e1 s) r e1 (q.mono (fun b S z => hl e1 z) fun c v S z => QE.later e1 z)
theorem tT_bind {t : DenT} {σ : St} {H : Hp} {β : Type} {k : Bool → Store → R β} {w : Wd} {env : Env} {Qb : Wd → β → Store → Prop} {R : Bool → Hp → Prop}
    (e : w.H = H) (s : SOk X.K ca w) (m : Sim X.K ca w env σ) (h : Sat ((t env w.S).bind k) (Qb w) (QE X.K ca w W σ))
    (hl : ∀ {w' : Wd} {b : β} {S : Store}, Ext w w' → Qb w b S → Qb w' b S)
    (hr : ∀ w1 b, SOk X.K ca w1 → Sim X.K ca w1 env σ → Ext w w1 → Sat (k b w1.S) (Qb w1) (QE X.K ca w1 W σ) → R b w1.H) :
    tT X.K ca W t σ H R := by
  refine ⟨w, env, e, s, m, (Sat.bind h).mono (fun d S1 q => ?_) fun c v S q => q⟩
  intro w1 hS e1 s1
  subst hS
  exact hr w1 d s1 (m.mono e1 s) e1 (q.mono (fun b S z => hl e1 z) fun c v S z => QE.later e1 z)

theorem e_var {i : Nat} {x : Str} (hN : X.N[i]? = some x) (hv : Vis X.env.scope x) (hd : (x == ("__debug__" : Str)) = false := by decide) (hcd : (x == ("__classdict__" : Str)) = false := by decide) : PE X (.Name x pos) ((tE X.K ca W) (eVar i)) := by
  refine PE.imp (pe_var hN hv hd hcd) fun σ H Q ⟨w, env, e, s, m, h⟩ => ?_
  subst e
  unfold eVar at h
  cases q : env[i]? with
  | none => rw [q] at h; exact h.elim
  | some o =>
    cases o with
    | none => rw [q] at h; exact h.elim
    | some d =>
      rw [q] at h
      obtain ⟨v, hv, r⟩ := m.2 i d q
      exact ⟨v, hv, Aft.here (w' := w) h (.refl w) s v r⟩
/-- a constant -/
theorem e_c {v : V} {d : D} (he : PE X a (tC v)) (r : ∀ w : Wd, SOk X.K ca w → Rep X.K ca w v d) : PE X a ((tE X.K ca W) (eC d)) :=
  PE.imp he fun σ H Q ⟨w, env, e, s, m, h⟩ => by
    subst e
    exact Aft.here (w' := w) h (.refl w) s v (r w s)
theorem e_int {i : Int} {j} : PE X (.Constant (.int i) j pos) ((tE X.K ca W) (eC (.int i))) := e_c pe_int fun _ _ => .int i
theorem e_bl {b : Bool} {j} : PE X (.Constant (.bool b) j pos) ((tE X.K ca W) (eC (.bl b))) := e_c pe_bl fun _ _ => .bl b
theorem e_non {j} : PE X (.Constant .none j pos) ((tE X.K ca W) (eC .non)) := e_c pe_non fun _ _ => .non
theorem e_str {x : Str} {j} : PE X (.Constant (.str x) j pos) ((tE X.K ca W) (eC (.str x))) := e_c pe_str fun _ _ => .str x

/-- an operation on values -/
def rO2 (K : PySem.W.Frag) (ca : Nat → Addr) (o : Op2) : R2 := fun x y H Q => ∃ w dx dy, w.H = H ∧ SOk K ca w ∧ Rep K ca w x dx ∧ Rep K ca w y dy ∧ Sat (o dx dy w.S) (QV K ca w Q) fun _ _ _ => False
def rO1 (K : PySem.W.Frag) (ca : Nat → Addr) (o : Op1) : V → Hp → VK → Prop := fun x H Q => ∃ w dx, w.H = H ∧ SOk K ca w ∧ Rep K ca w x dx ∧ Sat (o dx w.S) (QV K ca w Q) fun _ _ _ => False
def rON (K : PySem.W.Frag) (ca : Nat → Addr) (o : OpN) : List V → Hp → VK → Prop := fun xs H Q => ∃ w ds, w.H = H ∧ SOk K ca w ∧ RepL K ca w xs ds ∧ Sat (o ds w.S) (QV K ca w Q) fun _ _ _ => False
/-- it never raises -/
def Mute2 (o : Op2) : Prop := ∀ a b S c v S', o a b S ≠ .err c v S'
def Mute1 (o : Op1) : Prop := ∀ a S c v S', o a S ≠ .err c v S'
def MuteN (o : OpN) : Prop := ∀ a S c v S', o a S ≠ .err c v S'
theorem Sat.noErr {α : Type} {r : R α} {Q : α → Store → Prop} {E E' : Nat → D → Store → Prop} (h : Sat r Q E) (n : ∀ c v S, r ≠ .err c v S) : Sat r Q E' := by
  cases r with
  | ok a S => exact h
  | err c v S => exact absurd rfl (n c v S)
  | bad => exact h
theorem bin_imp {o : Op2} (n : Mute2 o) {σ : St} {H : Hp} {Q : VK} (h : (tE X.K ca W) (eBin o f g) σ H Q) : tOp (rO2 X.K ca o) ((tE X.K ca W) f) ((tE X.K ca W) g) σ H Q := by
  obtain ⟨w, env, e, s, m, h⟩ := h
  refine tE_bind (Qb := fun w => QV X.K ca w Q) e s m h (fun e q => QV.later e q) fun w1 d v s1 m1 r e1 h1 => ?_
  refine tE_bind (Qb := fun w => QV X.K ca w Q) rfl s1 m1 h1 (fun e q => QV.later e q) fun w2 d2 v2 s2 m2 r2 e2 h2 => ?_
  exact ⟨w2, d, d2, rfl, s2, r.mono e2 s1, r2, h2.noErr (n _ _ _)⟩
theorem e_bin {op : Operator} {o : Op2} (ho : OpR X (binaryOp op) (rO2 X.K ca o)) (n : Mute2 o) (ha : PE X a ((tE X.K ca W) f)) (hb : PE X b ((tE X.K ca W) g)) : PE X (.BinOp a op b pos) ((tE X.K ca W) (eBin o f g)) :=
  PE.imp (pe_op ho ha hb) fun _ _ _ h => bin_imp n h
theorem e_cmp {op : CmpOp} {o : Op2} (ho : OpR X (compareOp op) (rO2 X.K ca o)) (n : Mute2 o) (ha : PE X a ((tE X.K ca W) f)) (hb : PE X b ((tE X.K ca W) g)) (hm : behindInMarks op b = false) : PE X (.Compare a [op] [b] pos) ((tE X.K ca W) (eBin o f g)) :=
  PE.imp (pe_cmpR ho ha hb hm) fun _ _ _ h => bin_imp n h
theorem un_imp {o : Op1} (n : Mute1 o) {σ : St} {H : Hp} {Q : VK} (h : (tE X.K ca W) (eUn o f) σ H Q) : tUn (rO1 X.K ca o) ((tE X.K ca W) f) σ H Q := by
  obtain ⟨w, env, e, s, m, h⟩ := h
  refine tE_bind (Qb := fun w => QV X.K ca w Q) e s m h (fun e q => QV.later e q) fun w1 d v s1 m1 r e1 h1 => ?_
  exact ⟨w1, d, rfl, s1, r, h1.noErr (n _ _)⟩
theorem e_un {op : UnaryOp} {o : Op1} (ho : UnR X (unaryOp op) (rO1 X.K ca o)) (n : Mute1 o) (ha : PE X a ((tE X.K ca W) f)) : PE X (.UnaryOp op a pos) ((tE X.K ca W) (eUn o f)) :=
  PE.imp (pe_un ho ha) fun _ _ _ h => un_imp n h
/-- rows of values -/
theorem d_nil : PA X [] ((tEs X.K ca W) dNil) := PA.imp pa_nil fun σ H Q ⟨w, env, e, s, m, h⟩ => by
  subst e
  exact Aft.here (w' := w) h (.refl w) s [] .nil
theorem d_cons (ha : PE X a ((tE X.K ca W) f)) (hb : PA X es ((tEs X.K ca W) gs)) (hst : starEach (a :: es) X.env = (false, eval a X.env) :: starEach es X.env := by rfl) : PA X (a :: es) ((tEs X.K ca W) (dCons f gs)) :=
  PA.imp (pa_cons ha hb hst) fun σ H Q ⟨w, env, e, s, m, h⟩ => by
    refine tE_bind (Qb := fun w => QL X.K ca w Q) e s m h (fun e q => QL.later e q) fun w1 d v s1 m1 r e1 h1 => ?_
    refine tEs_bind (Qb := fun w => QL X.K ca w Q) rfl s1 m1 h1 (fun e q => QL.later e q) fun w2 d2 v2 s2 m2 r2 e2 h2 => ?_
    exact Aft.here (w' := w2) h2 (.refl w2) s2 _ (.cons (r.mono e2 s1) r2)
theorem d_len_nil {e : Env} {S S' : Store} {ds : List D} (h : dNil e S = .ok ds S') : ds.length = 0 := by
  cases h; rfl
/-- all that it gives has this length -/
def Len (g : Dens) (n : Nat) : Prop := ∀ e S ds S', g e S = .ok ds S' → ds.length = n
theorem len_nil : Len dNil 0 := fun _ _ _ _ h => by cases h; rfl
theorem len_cons {n : Nat} (h : Len gs n) : Len (dCons f gs) (n + 1) := fun e S ds S' q => by
  unfold dCons at q
  cases h1 : f e S with
  | ok d S1 =>
    rw [h1] at q
    simp only [R.bind] at q
    cases h2 : gs e S1 with
    | ok ds2 S2 =>
      rw [h2] at q
      simp only [R.bind] at q
      cases q
      rw [List.length_cons, h e S1 _ _ h2]
    | err c v S2 => rw [h2] at q; cases q
    | bad => rw [h2] at q; cases q
  | err c v S1 => rw [h1] at q; cases q
  | bad => rw [h1] at q; cases q
theorem Ext.alloc {w : Wd} {p : Addr} {o : HO} (h : w.H p = none) : Ext w ⟨upd w.H p o, w.ρ, w.S⟩ where
  keep := fun a u q _ => by
    show upd w.H p o a = some u
    rw [upd_ne (ne_of_none q h)]; exact q
  fresh := fun a m => .inl m
  rho := fun _ _ => rfl
  len := Nat.le_refl _
theorem SOk.alloc {w : Wd} {p : Addr} {o : HO} (s : SOk X.K ca w) (h : w.H p = none) : SOk X.K ca ⟨upd w.H p o, w.ρ, w.S⟩ where
  live := fun n xs q => by
    obtain ⟨vs, a, r⟩ := s.live n xs q
    refine ⟨vs, ?_, r.mono (.alloc h) s⟩
    show upd w.H p o (w.ρ n) = _
    rw [upd_ne (ne_of_none a h)]; exact a
  inj := s.inj
theorem tup_imp {σ : St} {H : Hp} {Q : VK} {n : Nat} (hl : Len gs n) (hn : n ≤ sizeLine) (h : (tE X.K ca W) (eTup gs) σ H Q) : tTup ((tEs X.K ca W) gs) σ H Q := by
  obtain ⟨w, env, e, s, m, h⟩ := h
  have hlen : ∀ ds S', gs env w.S = .ok ds S' → ds.length = n := fun ds S' q => hl _ _ _ _ q
  refine ⟨w, env, e, s, m, ?_⟩
  unfold eTup at h
  cases q : gs env w.S with
  | bad => rw [q] at h; exact h
  | err c v S1 => rw [q] at h; exact h
  | ok ds S1 =>
    rw [q] at h
    intro w1 hS e1 s1 vs r
    subst hS
    refine ⟨by rw [r.length, hlen _ _ q]; exact hn, fun p hp => ?_⟩
    have x := Ext.alloc (w := w1) (o := .tup vs) hp
    exact h ⟨upd w1.H p (.tup vs), w1.ρ, w1.S⟩ rfl (e1.trans x) (s1.alloc hp) (.ref p) (.tup (.inl (.inl upd_same)) (r.mono x s1))
theorem e_tup {x1} {n : Nat} (ha : PA X es ((tEs X.K ca W) gs)) (hl : Len gs n) (hn : n ≤ sizeLine := by decide) : PE X (.Tuple es x1 pos) ((tE X.K ca W) (eTup gs)) :=
  PE.imp (pe_tup ha) fun _ _ _ h => tup_imp hl hn h

/-! ### a fresh list: kept as data, or laid into the store -/
theorem f_val (ha : PE X a ((tF X.K ca W) gs)) : PE X a ((tE X.K ca W) (eLst gs)) := PE.imp ha fun σ H Q ⟨w, env, e, s, m, h⟩ => by
  refine ⟨w, env, e, s, m, (Sat.bind h).mono (fun ds S1 q => ?_) fun _ _ _ q => q⟩
  intro w1 hS e1 s1 vs p r hp
  subst hS
  have x := Ext.alloc (w := w1) (o := .lst vs) hp
  refine q ⟨upd w1.H p (.lst vs), w1.ρ, w1.S⟩ rfl (e1.trans x) (s1.alloc hp) (.ref p) (.lst upd_same ?_ (r.mono x s1))
  exact fun m => s1.notM0 hp m
theorem new_ext {w : Wd} {p : Addr} {vs : List V} {ds : List D} (s : SOk X.K ca w) (h : w.H p = none) (r : RepL X.K ca w vs ds) :
    let w' : Wd := ⟨upd w.H p (.lst vs), fun n => if n = w.S.length then p else w.ρ n, w.S ++ [.lst ds]⟩
    Ext w w' ∧ SOk X.K ca w' := by
  intro w'
  have hM : ∀ a, w'.M a → w.M a ∨ a = p := fun a ⟨n, xs, q, e⟩ => by
    by_cases hn : n = w.S.length
    · refine .inr ?_
      have : w'.ρ n = p := if_pos hn
      rw [← e, this]
    · refine .inl ⟨n, xs, ?_, ?_⟩
      · have q' : (w.S ++ [O.lst ds])[n]? = some (.lst xs) := q
        by_cases hlt : n < w.S.length
        · rw [List.getElem?_append_left hlt] at q'; exact q'
        · rw [List.getElem?_append_right (Nat.le_of_not_lt hlt)] at q'
          have hz : n - w.S.length ≠ 0 := by omega
          obtain ⟨k, hk⟩ := Nat.exists_eq_succ_of_ne_zero hz
          rw [hk] at q'; cases q'
      · have : w'.ρ n = w.ρ n := if_neg hn
        rw [← this]; exact e
  have x : Ext w w' := {
    keep := fun a o q _ => by
      show upd w.H p (.lst vs) a = some o
      rw [upd_ne (ne_of_none q h)]; exact q
    fresh := fun a m => by
      rcases hM a m with z | z
      · exact .inl z
      · exact .inr (by rw [z]; exact h)
    rho := fun n hn => if_neg (Nat.ne_of_lt hn)
    len := by show w.S.length ≤ (w.S ++ [O.lst ds]).length; rw [List.length_append]; omega }
  refine ⟨x, ?_, ?_⟩
  · intro n xs q
    have q' : (w.S ++ [O.lst ds])[n]? = some (.lst xs) := q
    by_cases hlt : n < w.S.length
    · rw [List.getElem?_append_left hlt] at q'
      obtain ⟨us, a, b⟩ := s.live n xs q'
      refine ⟨us, ?_, b.mono x s⟩
      have e : w'.ρ n = w.ρ n := if_neg (Nat.ne_of_lt hlt)
      show upd w.H p (.lst vs) (w'.ρ n) = _
      rw [e, upd_ne (ne_of_none a h)]; exact a
    · rw [List.getElem?_append_right (Nat.le_of_not_lt hlt)] at q'
      by_cases hz : n - w.S.length = 0
      · rw [hz] at q'
        have e2 : O.lst ds = O.lst xs := Option.some.inj q'
        injection e2 with e2
        subst e2
        refine ⟨vs, ?_, r.mono x s⟩
        have e : w'.ρ n = p := if_pos (by omega)
        show upd w.H p (.lst vs) (w'.ρ n) = _
        rw [e]; exact upd_same
      · obtain ⟨k, hk⟩ := Nat.exists_eq_succ_of_ne_zero hz
        rw [hk] at q'; cases q'
  · intro n m xs ys q1 q2 e
    have key : ∀ n xs, w'.S[n]? = some (.lst xs) → (n < w.S.length ∧ w.S[n]? = some (.lst xs) ∧ w'.ρ n = w.ρ n ∧ w'.ρ n ≠ p) ∨ (n = w.S.length ∧ w'.ρ n = p) := fun n xs q => by
      have q' : (w.S ++ [O.lst ds])[n]? = some (.lst xs) := q
      by_cases hlt : n < w.S.length
      · rw [List.getElem?_append_left hlt] at q'
        have e : w'.ρ n = w.ρ n := if_neg (Nat.ne_of_lt hlt)
        refine .inl ⟨hlt, q', e, fun z => ?_⟩
        obtain ⟨us, a, _⟩ := s.live n xs q'
        rw [← e, z, h] at a; cases a
      · rw [List.getElem?_append_right (Nat.le_of_not_lt hlt)] at q'
        by_cases hz : n - w.S.length = 0
        · have hn : n = w.S.length := by omega
          exact .inr ⟨hn, if_pos hn⟩
        · obtain ⟨k, hk⟩ := Nat.exists_eq_succ_of_ne_zero hz
          rw [hk] at q'; cases q'
    rcases key n xs q1 with ⟨l1, g1, e1, n1⟩ | ⟨l1, e1⟩
    · rcases key m ys q2 with ⟨l2, g2, e2, n2⟩ | ⟨l2, e2⟩
      · exact s.inj n m xs ys g1 g2 (by rw [← e1, ← e2]; exact e)
      · exact absurd (e.trans e2) n1
    · rcases key m ys q2 with ⟨l2, g2, e2, n2⟩ | ⟨l2, e2⟩
      · exact absurd (e.symm.trans e1) n2
      · rw [l1, l2]
theorem f_new (ha : PE X a ((tF X.K ca W) gs)) : PE X a ((tE X.K ca W) (eNew gs)) := PE.imp ha fun σ H Q ⟨w, env, e, s, m, h⟩ => by
  refine ⟨w, env, e, s, m, (Sat.bind h).mono (fun ds S1 q => ?_) fun _ _ _ q => q⟩
  intro w1 hS e1 s1 vs p r hp
  subst hS
  obtain ⟨x, s2⟩ := new_ext s1 hp r
  have rr : Rep X.K ca ⟨upd w1.H p (.lst vs), fun n => if n = w1.S.length then p else w1.ρ n, w1.S ++ [.lst ds]⟩ (.ref ((fun n => if n = w1.S.length then p else w1.ρ n) w1.S.length)) (.ref w1.S.length) := .ref (by show w1.S.length < (w1.S ++ [O.lst ds]).length; rw [List.length_append]; exact Nat.lt_succ_self _)
  have ep : (fun n => if n = w1.S.length then p else w1.ρ n) w1.S.length = p := if_pos rfl
  rw [ep] at rr
  exact q _ rfl (e1.trans x) s2 (.ref p) rr
/-- [a, b, ..] -/
theorem f_lst {n : Nat} (ha : PA X es ((tEs X.K ca W) gs)) (hl : Len gs n) (hn : n ≤ sizeLine := by decide) : PE X (.List es pos) ((tF X.K ca W) gs) := PE.imp (pe_lst ha) fun σ H Q ⟨w, env, e, s, m, h⟩ => by
  have hlen : ∀ ds S', gs env w.S = .ok ds S' → ds.length = n := fun ds S' q => hl _ _ _ _ q
  refine ⟨w, env, e, s, m, ?_⟩
  cases q : gs env w.S with
  | bad => rw [q] at h; exact h
  | err c v S1 => rw [q] at h; exact h
  | ok ds S1 =>
    rw [q] at h
    intro w1 hS e1 s1 vs r
    subst hS
    exact ⟨by rw [r.length, hlen _ _ q]; exact hn, fun p hp => h w1 rfl e1 s1 vs p r hp⟩

/-! ### a if t else b -/
theorem e_ifExp {c : Expr} {t : DenT} (hc : PT X c ((tT X.K ca W) t)) (ha : PE X a ((tE X.K ca W) f)) (hb : PE X b ((tE X.K ca W) g)) : PE X (.IfExp c a b pos) ((tE X.K ca W) (eIf t f g)) :=
  PE.imp (pe_ifExp hc ha hb) fun σ H Q ⟨w, env, e, s, m, h⟩ => by
    refine tT_bind (Qb := fun w => QV X.K ca w Q) e s m h (fun e q => QV.later e q) fun w1 b s1 m1 e1 h1 => ?_
    cases b with
    | true => exact iteT ⟨w1, env, rfl, s1, m1, h1⟩
    | false => exact iteF ⟨w1, env, rfl, s1, m1, h1⟩

/-! ### tests -/
theorem val_imp {σ : St} {H : Hp} {Q : Bool → Hp → Prop} (h : (tT X.K ca W) (tVal f) σ H Q) : tB ((tE X.K ca W) f) σ H Q := by
  obtain ⟨w, env, e, s, m, h⟩ := h
  refine tE_bind (Qb := fun w => QB X.K ca w Q) e s m h (fun e q => QB.later e q) fun w1 d v s1 m1 r e1 h1 => ?_
  cases r with
  | bl b => exact ⟨b, rfl, Aft.here (w' := w1) h1 (.refl w1) s1⟩
  | _ => exact h1.elim
theorem t_val (ha : PE X a ((tE X.K ca W) f)) (he : ∀ whole, isTrue a X.env whole = (do let v ← whole; standAt a.pos; holding [v] (truthy v)) := by intro _; rfl) : PT X a ((tT X.K ca W) (tVal f)) :=
  PT.imp (pt_val ha he) fun _ _ _ h => val_imp h
theorem t_cmp {op : CmpOp} {o : Op2} (ho : OpR X (compareOp op) (rO2 X.K ca o)) (n : Mute2 o) (ha : PE X a ((tE X.K ca W) f)) (hb : PE X b ((tE X.K ca W) g)) (hm : behindInMarks op b = false) : PT X (.Compare a [op] [b] pos) ((tT X.K ca W) (tVal (eBin o f g))) :=
  PT.imp (pt_cmpR ho ha hb hm) fun σ H Q h => by
    obtain ⟨w, env, e, s, m, h⟩ := h
    have h' : (tE X.K ca W) (eBin o f g) σ H fun x H' => ∃ k, x = .bl k ∧ Q k H' := by
      refine ⟨w, env, e, s, m, (Sat.bind h).mono (fun d S1 q => ?_) fun _ _ _ q => q⟩
      intro w1 hS e1 s1 v r
      subst hS
      cases r with
      | bl b => exact ⟨b, rfl, Aft.here (w' := w1) q e1 s1⟩
      | _ => exact q.elim
    exact bin_imp n h'
theorem t_not {t : DenT} (ha : PT X a ((tT X.K ca W) t)) : PT X (.UnaryOp .Not a pos) ((tT X.K ca W) (tNot t)) := PT.imp (pt_not ha) fun σ H Q ⟨w, env, e, s, m, h⟩ =>
  ⟨w, env, e, s, m, (Sat.bind h).mono (fun b S1 q => q) fun _ _ _ q => q⟩
theorem w_and1 {t : DenT} (ha : PT X a ((tT X.K ca W) t)) : PW X (.BoolOp .And [a] pos) ((tT X.K ca W) t) := pw_and1 ha
theorem w_or1 {t : DenT} (ha : PT X a ((tT X.K ca W) t)) : PW X (.BoolOp .Or [a] pos) ((tT X.K ca W) t) := pw_or1 ha
theorem w_and {t u : DenT} (ha : PT X a ((tT X.K ca W) t)) (hb : PW X (.BoolOp .And (b :: es) pos) ((tT X.K ca W) u)) : PW X (.BoolOp .And (a :: b :: es) pos) ((tT X.K ca W) (tAnd t u)) :=
  PW.imp (pw_and ha hb) fun σ H Q ⟨w, env, e, s, m, h⟩ => by
    refine tT_bind (Qb := fun w => QB X.K ca w Q) e s m h (fun e q => QB.later e q) fun w1 b s1 m1 e1 h1 => ?_
    cases b with
    | true => exact iteT ⟨w1, env, rfl, s1, m1, h1⟩
    | false => exact iteF (Aft.here (w' := w1) h1 (.refl w1) s1)
theorem w_or {t u : DenT} (ha : PT X a ((tT X.K ca W) t)) (hb : PW X (.BoolOp .Or (b :: es) pos) ((tT X.K ca W) u)) : PW X (.BoolOp .Or (a :: b :: es) pos) ((tT X.K ca W) (tOr t u)) :=
  PW.imp (pw_or ha hb) fun σ H Q ⟨w, env, e, s, m, h⟩ => by
    refine tT_bind (Qb := fun w => QB X.K ca w Q) e s m h (fun e q => QB.later e q) fun w1 b s1 m1 e1 h1 => ?_
    cases b with
    | true => exact iteT (Aft.here (w' := w1) h1 (.refl w1) s1)
    | false => exact iteF ⟨w1, env, rfl, s1, m1, h1⟩
theorem e_one {op} (ha : PE X a ((tE X.K ca W) f)) : PE X (.BoolOp op [a] pos) ((tE X.K ca W) f) := pe_one ha
theorem e_and (ha : PE X a ((tE X.K ca W) f)) (hb : PE X (.BoolOp .And (b :: es) pos) ((tE X.K ca W) g)) : PE X (.BoolOp .And (a :: b :: es) pos) ((tE X.K ca W) (eAnd f g)) :=
  PE.imp (pe_and ha hb) fun σ H Q ⟨w, env, e, s, m, h⟩ => by
    refine tE_bind (Qb := fun w => QV X.K ca w Q) e s m h (fun e q => QV.later e q) fun w1 d v s1 m1 r e1 h1 => ?_
    cases r with
    | bl b =>
      refine ⟨b, rfl, ?_⟩
      cases b with
      | true => exact iteT ⟨w1, env, rfl, s1, m1, h1⟩
      | false => exact iteF (Aft.here (w' := w1) h1 (.refl w1) s1 _ (.bl false))
    | _ => exact h1.elim
theorem e_or (ha : PE X a ((tE X.K ca W) f)) (hb : PE X (.BoolOp .Or (b :: es) pos) ((tE X.K ca W) g)) : PE X (.BoolOp .Or (a :: b :: es) pos) ((tE X.K ca W) (eOr f g)) :=
  PE.imp (pe_or ha hb) fun σ H Q ⟨w, env, e, s, m, h⟩ => by
    refine tE_bind (Qb := fun w => QV X.K ca w Q) e s m h (fun e q => QV.later e q) fun w1 d v s1 m1 r e1 h1 => ?_
    cases r with
    | bl b =>
      refine ⟨b, rfl, ?_⟩
      cases b with
      | true => exact iteT (Aft.here (w' := w1) h1 (.refl w1) s1 _ (.bl true))
      | false => exact iteF ⟨w1, env, rfl, s1, m1, h1⟩
    | _ => exact h1.elim
theorem e_not (ha : PE X a ((tE X.K ca W) f)) : PE X (.UnaryOp .Not a pos) ((tE X.K ca W) (eNot f)) := PE.imp (pe_not ha) fun σ H Q ⟨w, env, e, s, m, h⟩ => by
  refine tE_bind (Qb := fun w => QV X.K ca w Q) e s m h (fun e q => QV.later e q) fun w1 d v s1 m1 r e1 h1 => ?_
  cases r with
  | bl b => exact ⟨b, rfl, Aft.here (w' := w1) h1 (.refl w1) s1 _ (.bl (!b))⟩
  | _ => exact h1.elim
end
end Py

set_option maxHeartbeats 4000000
/-! PyC: what the operations on values do. -/
namespace Py
open PySem PySem.Spec PyProof.Rows L2

/-! ### never raising -/
theorem m_add : Mute2 oAdd := by unfold oAdd; intro a b S c v S' h; revert h; cases a <;> cases b <;> simp <;> (repeat (split <;> simp))
theorem m_sub : Mute2 oSub := by unfold oSub; intro a b S c v S' h; revert h; cases a <;> cases b <;> simp <;> (repeat (split <;> simp))
theorem m_mul : Mute2 oMul := by unfold oMul; intro a b S c v S' h; revert h; cases a <;> cases b <;> simp <;> (repeat (split <;> simp))
theorem m_fdiv : Mute2 oFdiv := by unfold oFdiv; intro a b S c v S' h; revert h; cases a <;> cases b <;> simp <;> (repeat (split <;> simp))
theorem m_mod : Mute2 oMod := by unfold oMod; intro a b S c v S' h; revert h; cases a <;> cases b <;> simp <;> (repeat (split <;> simp))
theorem m_pow : Mute2 oPow := by unfold oPow; intro a b S c v S' h; revert h; cases a <;> cases b <;> simp <;> (repeat (split <;> simp))
theorem m_lt : Mute2 oLt := by unfold oLt; intro a b S c v S' h; revert h; cases a <;> cases b <;> simp <;> (repeat (split <;> simp))
theorem m_le : Mute2 oLe := by unfold oLe; intro a b S c v S' h; revert h; cases a <;> cases b <;> simp <;> (repeat (split <;> simp))
theorem m_gt : Mute2 oGt := by unfold oGt; intro a b S c v S' h; revert h; cases a <;> cases b <;> simp <;> (repeat (split <;> simp))
theorem m_ge : Mute2 oGe := by unfold oGe; intro a b S c v S' h; revert h; cases a <;> cases b <;> simp <;> (repeat (split <;> simp))
theorem m_eq : Mute2 oEq := by intro a b S c v S' h; revert h; unfold oEq; split <;> (try split) <;> simp
theorem m_ne : Mute2 oNe := by intro a b S c v S' h; revert h; unfold oNe; split <;> (try split) <;> simp
theorem m_neg : Mute1 oNeg := by unfold oNeg; intro a S c v S' h; revert h; cases a <;> simp
theorem m_isN : Mute1 oIsN := by unfold oIsN; intro a S c v S' h; revert h; cases a <;> simp
theorem m_notN : Mute1 oNotN := by unfold oNotN; intro a S c v S' h; revert h; cases a <;> simp

section
variable {X : Cx} {ca : Nat → Addr}
/-- what two values of an operation are -/
theorem r_int2 {f : Value → Value → Sem Value} {o : Op2} {C : Int → Int → Prop} {g : Int → Int → V} (ho : OpR X f (rI C g))
    (h : ∀ (dx dy : D) (w : Wd) (Q : VK), SOk X.K ca w → Sat (o dx dy w.S) (QV X.K ca w Q) (fun _ _ _ => False) → ∃ i j, dx = .int i ∧ dy = .int j ∧ C i j ∧ Q (g i j) w.H) : OpR X f (rO2 X.K ca o) := by
  intro pins s σ H x y v u Q I rx ry hq
  obtain ⟨w, dx, dy, e, sk, r1, r2, q⟩ := hq
  subst e
  obtain ⟨i, j, rfl, rfl, hc, q'⟩ := h dx dy w Q sk q
  cases r1
  cases r2
  exact ho pins s σ w.H _ _ v u Q I rx ry ⟨i, j, rfl, rfl, hc, q'⟩
theorem r_int0 {f : Value → Value → Sem Value} {o : Op2} {g : Int → Int → V} (ho : OpR X f (rI0 g))
    (h : ∀ (dx dy : D) (w : Wd) (Q : VK), SOk X.K ca w → Sat (o dx dy w.S) (QV X.K ca w Q) (fun _ _ _ => False) → ∃ i j, dx = .int i ∧ dy = .int j ∧ Q (g i j) w.H) : OpR X f (rO2 X.K ca o) := by
  intro pins s σ H x y v u Q I rx ry hq
  obtain ⟨w, dx, dy, e, sk, r1, r2, q⟩ := hq
  subst e
  obtain ⟨i, j, rfl, rfl, q'⟩ := h dx dy w Q sk q
  cases r1
  cases r2
  exact ho pins s σ w.H _ _ v u Q I rx ry ⟨i, j, rfl, rfl, q'⟩
theorem sat_here {w : Wd} {d : D} {Q : VK} {v : V} (s : SOk X.K ca w) (h : QV X.K ca w Q d w.S) (r : Rep X.K ca w v d) : Q v w.H := Aft.here (w' := w) h (.refl w) s v r
theorem r_sub : OpR X (binaryOp .Sub) (rO2 X.K ca oSub) := r_int0 op_sub fun dx dy w Q s h => by
  unfold oSub at h
  cases dx <;> cases dy <;> first | exact h.elim | exact ⟨_, _, rfl, rfl, sat_here s h (.int _)⟩
theorem mulOk_ok {i j : Int} (h : mulOk i j = true) : IntMulOk i j := by
  have h' : bits i + bits j ≤ 134217728 := of_decide_eq_true h
  have b : ∀ x : Int, Builtin.Int.intBits x ≤ x.natAbs.log2 + 1 := fun x => by
    unfold Builtin.Int.intBits
    split <;> omega
  have h1 := b i
  have h2 := b j
  have e : bitsLine = 134217728 := by decide
  unfold bits at h'
  unfold IntMulOk
  intro z
  rw [Bool.and_eq_true] at z
  have z2 := z.2
  unfold Builtin.Int.intTooBig at z2
  have z3 := of_decide_eq_true z2
  rw [e] at z3
  omega
theorem op_mulB : OpR X (binaryOp .Mult) (rI (fun i j => mulOk i j = true) fun i j => .int (i * j)) := opI fun _ _ _ _ _ _ _ hc q => mul_int q (mulOk_ok hc)
theorem r_mul : OpR X (binaryOp .Mult) (rO2 X.K ca oMul) := r_int2 op_mulB fun dx dy w Q s h => by
  unfold oMul at h
  cases dx <;> cases dy <;> first
    | exact h.elim
    | (rename_i i j
       by_cases hm : mulOk i j = true
       · simp only [hm, if_true] at h
         exact ⟨_, _, rfl, rfl, hm, sat_here s h (.int _)⟩
       · simp only [hm] at h
         exact h.elim)
theorem op_fdivB : OpR X (binaryOp .FloorDiv) (rI (fun _ j => divOk j = true) fun i j => .int (i.fdiv j)) := opI fun i j _ _ _ _ _ hc q => by
  unfold divOk at hc
  rw [Bool.and_eq_true] at hc
  exact floordiv_int (of_decide_eq_true hc.1) q (.inl (PyProof.noPylong_of_log2 (of_decide_eq_true hc.2)))
theorem r_fdiv : OpR X (binaryOp .FloorDiv) (rO2 X.K ca oFdiv) := r_int2 op_fdivB fun dx dy w Q s h => by
  unfold oFdiv at h
  cases dx <;> cases dy <;> first
    | exact h.elim
    | (rename_i i j
       by_cases hm : divOk j = true
       · simp only [hm, if_true] at h
         exact ⟨_, _, rfl, rfl, hm, sat_here s h (.int _)⟩
       · simp only [hm] at h
         exact h.elim)
theorem r_mod : OpR X (binaryOp .Mod) (rO2 X.K ca oMod) := r_int2 op_modN fun dx dy w Q s h => by
  unfold oMod at h
  cases dx <;> cases dy <;> first
    | exact h.elim
    | (rename_i i j
       by_cases hm : j ≠ 0
       · simp only [if_pos hm] at h
         exact ⟨_, _, rfl, rfl, hm, sat_here s h (.int _)⟩
       · simp only [if_neg hm] at h
         exact h.elim)
theorem op_powB : OpR X (binaryOp .Pow) (rI (fun i j => powOk i j = true) fun i j => .int (i ^ j.toNat)) := opI fun _ _ _ _ _ _ _ hc q => by
  unfold powOk at hc
  rw [Bool.and_eq_true, Bool.and_eq_true] at hc
  exact pow_int_small (of_decide_eq_true hc.1) (of_decide_eq_true hc.2.1) (of_decide_eq_true hc.2.2) q
theorem r_pow : OpR X (binaryOp .Pow) (rO2 X.K ca oPow) := r_int2 op_powB fun dx dy w Q s h => by
  unfold oPow at h
  cases dx <;> cases dy <;> first
    | exact h.elim
    | (rename_i i j
       by_cases hm : powOk i j = true
       · simp only [hm, if_true] at h
         exact ⟨_, _, rfl, rfl, hm, sat_here s h (.int _)⟩
       · simp only [hm] at h
         exact h.elim)
theorem r_lt : OpR X (compareOp .Lt) (rO2 X.K ca oLt) := r_int0 op_lt fun dx dy w Q s h => by
  unfold oLt at h
  cases dx <;> cases dy <;> first | exact h.elim | exact ⟨_, _, rfl, rfl, sat_here s h (.bl _)⟩
theorem r_le : OpR X (compareOp .LtE) (rO2 X.K ca oLe) := r_int0 op_le fun dx dy w Q s h => by
  unfold oLe at h
  cases dx <;> cases dy <;> first | exact h.elim | exact ⟨_, _, rfl, rfl, sat_here s h (.bl _)⟩
theorem r_gt : OpR X (compareOp .Gt) (rO2 X.K ca oGt) := r_int0 op_gt fun dx dy w Q s h => by
  unfold oGt at h
  cases dx <;> cases dy <;> first | exact h.elim | exact ⟨_, _, rfl, rfl, sat_here s h (.bl _)⟩
theorem r_ge : OpR X (compareOp .GtE) (rO2 X.K ca oGe) := r_int0 op_ge fun dx dy w Q s h => by
  unfold oGe at h
  cases dx <;> cases dy <;> first | exact h.elim | exact ⟨_, _, rfl, rfl, sat_here s h (.bl _)⟩
theorem r_neg : UnR X (unaryOp .USub) (rO1 X.K ca oNeg) := by
  intro pins s σ H x v Q I rx h
  obtain ⟨w, dx, e, sk, r1, q⟩ := h
  subst e
  unfold oNeg at q
  cases r1 with
  | int i => exact un_neg pins s σ w.H _ v Q I rx ⟨i, rfl, sat_here sk q (.int _)⟩
  | _ => exact q.elim
theorem isNon_rep {w : Wd} {v : V} {d : D} (r : Rep X.K ca w v d) : isNon d = decide (v = .non) := by
  cases r <;> simp [isNon]
theorem isN_imp {f : Den} {W : WX} {σ : St} {H : Hp} {Q : VK} (h : tE X.K ca W (eUn oIsN f) σ H Q) : tIsN (tE X.K ca W f) σ H Q := by
  obtain ⟨w, env, e, s, m, h⟩ := h
  refine tE_bind (Qb := fun w => QV X.K ca w Q) e s m h (fun e q => QV.later e q) fun w1 d v s1 m1 r e1 h1 => ?_
  have q : QV X.K ca w1 Q (.bl (isNon d)) w1.S := h1
  rw [isNon_rep r] at q
  exact sat_here s1 q (.bl _)
theorem notN_imp {f : Den} {W : WX} {σ : St} {H : Hp} {Q : VK} (h : tE X.K ca W (eUn oNotN f) σ H Q) : tNotN (tE X.K ca W f) σ H Q := by
  obtain ⟨w, env, e, s, m, h⟩ := h
  refine tE_bind (Qb := fun w => QV X.K ca w Q) e s m h (fun e q => QV.later e q) fun w1 d v s1 m1 r e1 h1 => ?_
  have q : QV X.K ca w1 Q (.bl (!isNon d)) w1.S := h1
  rw [isNon_rep r] at q
  exact sat_here s1 q (.bl _)
variable {f : Den} {W : WX} {a : Expr} {pos pos' : Pos} {j : Nat}
theorem c_isN {j} (ha : PE X a (tE X.K ca W f)) : PC X .Is a (.Constant .none j pos') (tE X.K ca W (eUn oIsN f)) := ⟨fun pins s σ H Q I h => (pc_isN ha).run pins s σ H Q I (isN_imp h)⟩
theorem c_notN {j} (ha : PE X a (tE X.K ca W f)) : PC X .IsNot a (.Constant .none j pos') (tE X.K ca W (eUn oNotN f)) := ⟨fun pins s σ H Q I h => (pc_notN ha).run pins s σ H Q I (notN_imp h)⟩
theorem e_isN {j} (ha : PE X a (tE X.K ca W f)) : PE X (.Compare a [.Is] [.Constant .none j pos'] pos) (tE X.K ca W (eUn oIsN f)) := pe_cmp (c_isN ha)
theorem e_notN {j} (ha : PE X a (tE X.K ca W f)) : PE X (.Compare a [.IsNot] [.Constant .none j pos'] pos) (tE X.K ca W (eUn oNotN f)) := pe_cmp (c_notN ha)
theorem t_isN {j} (ha : PE X a (tE X.K ca W f)) : PT X (.Compare a [.Is] [.Constant .none j pos'] pos) (tT X.K ca W (tVal (eUn oIsN f))) := PT.imp (pt_cmp (c_isN ha)) fun _ _ _ h => val_imp h
theorem t_notN {j} (ha : PE X a (tE X.K ca W f)) : PT X (.Compare a [.IsNot] [.Constant .none j pos'] pos) (tT X.K ca W (tVal (eUn oNotN f))) := PT.imp (pt_cmp (c_notN ha)) fun _ _ _ h => val_imp h

/-! ### + -/
theorem Rep.rdL {K : PySem.W.Frag} {w : Wd} {a : Addr} {ds : List D} {v : V} (r : Rep K ca w v (.lst ds)) : ∃ a vs, v = .ref a ∧ w.H a = some (.lst vs) ∧ ¬ w.M a ∧ RepL K ca w vs ds := by
  cases r with
  | lst h n r => exact ⟨_, _, rfl, h, n, r⟩
theorem r_add : OpR X (binaryOp .Add) (rO2 X.K ca oAdd) := by
  intro pins s σ H x y v u Q I rx ry h
  obtain ⟨w, dx, dy, e, sk, r1, r2, q⟩ := h
  subst e
  unfold oAdd at q
  cases r1 with
  | int i =>
    cases r2 with
    | int j => exact op_add pins s σ w.H _ _ v u Q I rx ry ⟨i, j, rfl, rfl, sat_here sk q (.int _)⟩
    | _ => exact q.elim
  | str i =>
    cases r2 with
    | str j =>
      by_cases hl : i.length + j.length ≤ sizeLine
      · simp only [if_pos hl] at q
        exact op_add_str pins s σ w.H _ _ v u Q I rx ry ⟨i, j, rfl, rfl, hl, sat_here sk q (.str _)⟩
      · simp only [if_neg hl] at q
        exact q.elim
    | _ => exact q.elim
  | @tup a vs ds h1 ra =>
    cases r2 with
    | @tup b us es h2 rb =>
      by_cases hl : ds.length + es.length ≤ sizeLine
      · simp only [if_pos hl] at q
        have hl' : vs.length + us.length ≤ sizeLine := by rw [ra.length, rb.length]; exact hl
        refine op_catA pins s σ w.H _ _ v u Q I rx ry ⟨a, b, vs, us, rfl, rfl, h1, h2, hl', ?_⟩
        refine ⟨fun z => ?_, fun z => ?_, fun z1 z2 p hp => ?_⟩
        · subst z
          cases ra
          exact sat_here sk q (.tup h2 rb)
        · intro z2
          subst z2
          cases rb
          rw [List.append_nil] at q
          exact sat_here sk q (.tup h1 ra)
        · have x := Ext.alloc (w := w) (o := .tup (vs ++ us)) hp
          exact q ⟨upd w.H p (.tup (vs ++ us)), w.ρ, w.S⟩ rfl x (sk.alloc hp) (.ref p) (.tup (.inl (.inl upd_same)) ((ra.append rb).mono x sk))
      · simp only [if_neg hl] at q
        exact q.elim
    | _ => exact q.elim
  | _ => exact q.elim

/-! ### == -/
end
mutual
def toP : D → PyData
  | .tup xs => .tuple (toPs xs) | .lst xs => .list (toPs xs) | .non => .none | .bl b => .bool b | .int i => .int i | .str x => .str x
  | .ref _ => .none | .exc _ _ => .none | .fls _ => .none | .dct _ _ => .none
def toPs : List D → List PyData
  | [] => [] | x :: xs => toP x :: toPs xs
end
mutual
theorem eqv_toP : ∀ (a b : D), pureB a = true → pureB b = true → PyData.eqv (toP a) (toP b) = eqB a b
  | .tup xs, b, ha, hb => by
    cases b <;> first
      | (simp only [toP, PyData.eqv, eqB]; exact eqvs_toP xs _ (by simpa [pureB] using ha) (by simpa [pureB] using hb))
      | (simp [toP, PyData.eqv, eqB]; done)
      | (simp [pureB] at hb; done)
  | .lst xs, b, ha, hb => by
    cases b <;> first
      | (simp only [toP, PyData.eqv, eqB]; exact eqvs_toP xs _ (by simpa [pureB] using ha) (by simpa [pureB] using hb))
      | (simp [toP, PyData.eqv, eqB]; done)
      | (simp [pureB] at hb; done)
  | .non, b, ha, hb => by cases b <;> first | (simp [toP, PyData.eqv, eqB]; done) | (simp [pureB] at hb; done)
  | .bl x, b, ha, hb => by cases b <;> first | (simp [toP, PyData.eqv, eqB, Py.b2i]; done) | (simp [pureB] at hb; done)
  | .int i, b, ha, hb => by cases b <;> first | (simp [toP, PyData.eqv, eqB, Py.b2i]; done) | (simp [pureB] at hb; done)
  | .str z, b, ha, hb => by cases b <;> first | (simp [toP, PyData.eqv, eqB]; done) | (simp [pureB] at hb; done)
  | .ref n, b, ha, hb => by simp [pureB] at ha
  | .fls n, b, ha, hb => by simp [pureB] at ha
  | .dct _ _, b, ha, hb => by simp [pureB] at ha
  | .exc c v, b, ha, hb => by simp [pureB] at ha
theorem eqvs_toP : ∀ (a b : List D), pureL a = true → pureL b = true → PyData.eqvAll (toPs a) (toPs b) = eqL a b
  | [], b, ha, hb => by cases b <;> simp [toPs, PyData.eqvAll, eqL]
  | x :: xs, b, ha, hb => by
    cases b with
    | nil => simp [toPs, PyData.eqvAll, eqL]
    | cons y ys =>
      simp only [pureL, Bool.and_eq_true] at ha hb
      simp only [toPs, PyData.eqvAll, eqL]
      rw [eqv_toP x y ha.1 hb.1, eqvs_toP xs ys ha.2 hb.2]
end
section
variable {X : Cx} {ca : Nat → Addr}
mutual
theorem Rep.dp {w : Wd} : ∀ {v : V} {d : D}, Rep X.K ca w v d → pureB d = true → Dp X.K w.H v (toP d)
  | _, _, .non, _ => by unfold toP; exact .non
  | _, _, .bl b, _ => by unfold toP; exact .bl b
  | _, _, .int i, _ => by unfold toP; exact .int i
  | _, _, .str x, _ => by unfold toP; exact .str x
  | _, _, .tup h r, p => by unfold toP; exact .tup h (RepL.dp r (by unfold pureB at p; exact p))
  | _, _, .lst h n r, p => by unfold toP; exact .lst (.inl (.inl h)) (RepL.dp r (by unfold pureB at p; exact p))
  | _, _, .ref _, p => by unfold pureB at p; cases p
  | _, _, .fls _, p => by unfold pureB at p; cases p
  | _, _, .dct _ _ _ _, p => by unfold pureB at p; cases p
  | _, _, .exc _ _ _ _ _, p => by unfold pureB at p; cases p
theorem RepL.dp {w : Wd} : ∀ {vs : List V} {ds : List D}, RepL X.K ca w vs ds → pureL ds = true → DpAll X.K w.H vs (toPs ds)
  | _, _, .nil, _ => by unfold toPs; exact .nil
  | _, _, .cons r t, p => by
    unfold pureL at p
    rw [Bool.and_eq_true] at p
    unfold toPs
    exact .cons (Rep.dp r p.1) (RepL.dp t p.2)
end
end
mutual
theorem depth_toP : ∀ d : D, (toP d).depth ≤ depth d
  | .tup xs => by
    have := depths_toP xs
    simp only [toP, depth, PyData.depth]
    omega
  | .lst xs => by
    have := depths_toP xs
    simp only [toP, depth, PyData.depth]
    omega
  | .non => by simp [toP, PyData.depth]
  | .bl b => by simp [toP, PyData.depth]
  | .int i => by simp [toP, PyData.depth]
  | .str x => by simp [toP, PyData.depth]
  | .ref n => by simp [toP, PyData.depth]
  | .fls n => by simp [toP, PyData.depth]
  | .dct _ _ => by simp [toP, PyData.depth]
  | .exc c v => by simp [toP, PyData.depth]
theorem depths_toP : ∀ ds : List D, PyData.depthAll (toPs ds) ≤ depthL ds
  | [] => by simp [toPs, PyData.depthAll]
  | x :: xs => by
    have h1 := depth_toP x
    have h2 := depths_toP xs
    simp only [toPs, depthL, PyData.depthAll]
    omega
end
mutual
theorem lay_toP : ∀ d : D, pureB d = true → (toP d).canLay0 = true
  | .tup xs, h => by
    unfold pureB at h
    simp only [toP, PyData.canLay0]
    exact lays_toP xs h
  | .lst xs, h => by
    unfold pureB at h
    simp only [toP, PyData.canLay0]
    exact lays_toP xs h
  | .non, h => by simp [toP, PyData.canLay0]
  | .bl b, h => by simp [toP, PyData.canLay0]
  | .int i, h => by simp [toP, PyData.canLay0]
  | .str x, h => by
    unfold pureB at h
    simp only [toP, PyData.canLay0]
    exact h
  | .ref n, h => by simp [toP, PyData.canLay0]
  | .fls n, h => by simp [toP, PyData.canLay0]
  | .dct _ _, h => by simp [toP, PyData.canLay0]
  | .exc c v, h => by simp [toP, PyData.canLay0]
theorem lays_toP : ∀ ds : List D, pureL ds = true → PyData.canLayAll0 (toPs ds) = true
  | [], h => by simp [toPs, PyData.canLayAll0]
  | x :: xs, h => by
    unfold pureL at h
    rw [Bool.and_eq_true] at h
    simp only [toPs, PyData.canLayAll0, Bool.and_eq_true]
    exact ⟨lay_toP x h.1, lays_toP xs h.2⟩
end
theorem shaped_fit {d : D} (h : fit d = true) : SeqAt.shaped (toP d) = true := by
  unfold fit at h
  rw [Bool.and_eq_true] at h
  unfold SeqAt.shaped
  rw [Bool.and_eq_true]
  have := depth_toP d
  have h2 := of_decide_eq_true h.2
  exact ⟨lay_toP d h.1, decide_eq_true (by omega)⟩
section
variable {X : Cx} {ca : Nat → Addr}
mutual
theorem mapR_dp {w : Wd} {g : Nat → Option D} (hg : ∀ n d', n < w.S.length → g n = some d' → pureB d' = true → Dp X.K w.H (.ref (w.ρ n)) (toP d')) : ∀ {v : V} {d d' : D}, Rep X.K ca w v d → mapR g d = some d' → pureB d' = true → Dp X.K w.H v (toP d')
  | _, _, d', .non, e, p => by unfold mapR at e; cases e; unfold toP; exact .non
  | _, _, d', .bl b, e, p => by unfold mapR at e; cases e; unfold toP; exact .bl b
  | _, _, d', .int i, e, p => by unfold mapR at e; cases e; unfold toP; exact .int i
  | _, _, d', .str x, e, p => by unfold mapR at e; cases e; unfold toP; exact .str x
  | _, _, d', .tup (ds := ds) h r, e, p => by
    unfold mapR at e
    cases q : mapRL g ds with
    | none => rw [q] at e; cases e
    | some es =>
      rw [q] at e
      cases e
      unfold toP
      exact .tup h (mapRL_dp hg r q (by unfold pureB at p; exact p))
  | _, _, d', .lst (ds := ds) h n r, e, p => by
    unfold mapR at e
    cases q : mapRL g ds with
    | none => rw [q] at e; cases e
    | some es =>
      rw [q] at e
      cases e
      unfold toP
      exact .lst (.inl (.inl h)) (mapRL_dp hg r q (by unfold pureB at p; exact p))
  | _, _, d', .ref (n := n) hn, e, p => by
    unfold mapR at e
    exact hg n d' hn e p
  | _, _, d', .fls h, e, p => by unfold mapR at e; cases e; unfold pureB at p; cases p
  | _, _, d', .dct (ks := ks) (ds := ds) _ _ _ _, e, p => by
    unfold mapR at e
    cases q : mapRL g ds with
    | none => rw [q] at e; cases e
    | some es => rw [q] at e; cases e; unfold pureB at p; cases p
  | _, _, d', .exc (x := x) _ _ _ _ _, e, p => by
    unfold mapR at e
    cases q : mapR g x with
    | none => rw [q] at e; cases e
    | some es => rw [q] at e; cases e; unfold pureB at p; cases p
theorem mapRL_dp {w : Wd} {g : Nat → Option D} (hg : ∀ n d', n < w.S.length → g n = some d' → pureB d' = true → Dp X.K w.H (.ref (w.ρ n)) (toP d')) : ∀ {vs : List V} {ds ds' : List D}, RepL X.K ca w vs ds → mapRL g ds = some ds' → pureL ds' = true → DpAll X.K w.H vs (toPs ds')
  | _, _, ds', .nil, e, p => by unfold mapRL at e; cases e; unfold toPs; exact .nil
  | _, _, ds', .cons (d := d) (ds := ds) r t, e, p => by
    unfold mapRL at e
    cases q : mapR g d with
    | none => rw [q] at e; cases e
    | some y =>
      rw [q] at e
      cases q2 : mapRL g ds with
      | none => rw [q2] at e; cases e
      | some ys =>
        rw [q2] at e
        cases e
        unfold pureL at p
        rw [Bool.and_eq_true] at p
        unfold toPs
        exact .cons (mapR_dp hg r q p.1) (mapRL_dp hg t q2 p.2)
end
theorem resN_dp {w : Wd} (s : SOk X.K ca w) : ∀ (f n : Nat) (d' : D), n < w.S.length → resN 0 w.S f n = some d' → pureB d' = true → Dp X.K w.H (.ref (w.ρ n)) (toP d')
  | 0, n, d', hn, e, p => by
    unfold resN at e
    rw [if_neg (Nat.not_lt_zero n)] at e
    cases e
  | f + 1, n, d', hn, e, p => by
    unfold resN at e
    rw [if_neg (Nat.not_lt_zero n)] at e
    cases q : w.S[n]? with
    | none => rw [q] at e; cases e
    | some o =>
      cases o with
      | dead => rw [q] at e; cases e
      | lst xs =>
        rw [q] at e
        dsimp only at e
        obtain ⟨vs, h, r⟩ := s.live n xs q
        cases q2 : mapRL (resN 0 w.S f) xs with
        | none => rw [q2] at e; cases e
        | some ys =>
          rw [q2] at e
          cases e
          unfold toP
          exact .lst (.inl (.inl h)) (mapRL_dp (fun n d' hn e p => resN_dp s f n d' hn e p) r q2 (by unfold pureB at p; exact p))
theorem look_dp {w : Wd} {v : V} {d d' : D} (s : SOk X.K ca w) (r : Rep X.K ca w v d) (e : look d w.S = some d') (h : fit d' = true) : Dp X.K w.H v (toP d') := by
  have p : pureB d' = true := by
    unfold fit at h
    rw [Bool.and_eq_true] at h
    exact h.1
  exact mapR_dp (fun n d' hn e p => resN_dp s 9 n d' hn e p) r e p
theorem r_eq (hu : X.A.units + 64 < cLine) : OpR X (compareOp .Eq) (rO2 X.K ca oEq) := by
  intro pins s σ H x y v u Q I rx ry h
  obtain ⟨w, dx, dy, e, sk, r1, r2, q⟩ := h
  subst e
  unfold oEq at q
  cases q1 : look dx w.S with
  | none => rw [q1] at q; exact q.elim
  | some d1 =>
    rw [q1] at q
    cases q2 : look dy w.S with
    | none => rw [q2] at q; exact q.elim
    | some d2 =>
      rw [q2] at q
      dsimp only at q
      by_cases hf : (fit d1 && fit d2) = true
      · rw [if_pos hf] at q
        rw [Bool.and_eq_true] at hf
        have e1 := look_dp sk r1 q1 hf.1
        have e2 := look_dp sk r2 q2 hf.2
        refine op_eqD hu pins s σ w.H x y v u Q I rx ry ⟨_, _, e1, e2, shaped_fit hf.1, shaped_fit hf.2, ?_⟩
        rw [eqv_toP _ _ (by have z := hf.1; unfold fit at z; rw [Bool.and_eq_true] at z; exact z.1) (by have z := hf.2; unfold fit at z; rw [Bool.and_eq_true] at z; exact z.1)]
        exact sat_here sk q (.bl _)
      · rw [if_neg hf] at q
        exact q.elim
theorem r_ne (hu : X.A.units + 64 < cLine) : OpR X (compareOp .NotEq) (rO2 X.K ca oNe) := by
  intro pins s σ H x y v u Q I rx ry h
  obtain ⟨w, dx, dy, e, sk, r1, r2, q⟩ := h
  subst e
  unfold oNe at q
  cases q1 : look dx w.S with
  | none => rw [q1] at q; exact q.elim
  | some d1 =>
    rw [q1] at q
    cases q2 : look dy w.S with
    | none => rw [q2] at q; exact q.elim
    | some d2 =>
      rw [q2] at q
      dsimp only at q
      by_cases hf : (fit d1 && fit d2) = true
      · rw [if_pos hf] at q
        rw [Bool.and_eq_true] at hf
        have e1 := look_dp sk r1 q1 hf.1
        have e2 := look_dp sk r2 q2 hf.2
        refine op_neD hu pins s σ w.H x y v u Q I rx ry ⟨_, _, e1, e2, shaped_fit hf.1, shaped_fit hf.2, ?_⟩
        rw [eqv_toP _ _ (by have z := hf.1; unfold fit at z; rw [Bool.and_eq_true] at z; exact z.1) (by have z := hf.2; unfold fit at z; rw [Bool.and_eq_true] at z; exact z.1)]
        exact sat_here sk q (.bl _)
      · rw [if_neg hf] at q
        exact q.elim
end
end Py

set_option maxHeartbeats 4000000
/-! PyD: statements, targets, loops, calls, defs. -/
namespace Py
open PySem PySem.Spec PyProof.Rows L2

section
variable (K : PySem.W.Frag) (ca : Nat → Addr)
def SatS (r : RS) (w : Wd) (U : Ends) (W : WX) : Prop := match r with
  | .next e S => Aft K ca w S fun w' => ∀ σ', Sim K ca w' e σ' → U.nx σ' w'.H
  | .brk e S => Aft K ca w S fun w' => ∀ σ', Sim K ca w' e σ' → U.bk σ' w'.H
  | .cont e S => Aft K ca w S fun w' => ∀ σ', Sim K ca w' e σ' → U.ct σ' w'.H
  | .ret d S => Aft K ca w S fun w' => ∀ v, Rep K ca w' v d → U.rt v w'.H
  | .err c x e S => Aft K ca w S fun w' => ∀ σ' cls dd, Sim K ca w' e σ' → ExIn K ca w' cls dd c x → W cls dd σ' w'.H
  | .bad => False
def tS (W : WX) (F : DenS) : TS := fun U σ H => ∃ w env, w.H = H ∧ SOk K ca w ∧ Sim K ca w env σ ∧ SatS K ca (F env w.S) w U W
/-- a target -/
def tG (g : Tgt) : TG := fun v σ H Q => ∃ w env d e', w.H = H ∧ SOk K ca w ∧ Sim K ca w env σ ∧ Rep K ca w v d ∧ g d env w.S = some e' ∧ ∀ σ', Sim K ca w e' σ' → Q σ' H
/-- an iterator that walks these, while what it walks stands -/
structure ItOk (w0 : Wd) (J : It) (wk : Walk) : Prop where
  goes : ∀ i w d, Ext w0 w → SOk K ca w → wk i w.S = some (some d) → J.go i w.H
  stops : ∀ i w, Ext w0 w → SOk K ca w → wk i w.S = some none → J.stop i w.H
  yields : ∀ i w d x H', Ext w0 w → SOk K ca w → wk i w.S = some (some d) → J.yld i w.H x H' → ∃ w', w'.H = H' ∧ w'.S = w.S ∧ Ext w w' ∧ SOk K ca w' ∧ Rep K ca w' x d
def tIt (W : WX) (gi : DenI) : TI := fun σ H R => ∃ w env, w.H = H ∧ SOk K ca w ∧ Sim K ca w env σ ∧ Sat (gi env w.S) (fun wn S' => Aft K ca w S' fun w' => ∀ J, ItOk K ca w' J wn.1 → R J w'.H) (QE K ca w W σ)
end
section
variable {K : PySem.W.Frag} {ca : Nat → Addr} {w w' : Wd} {W : WX} {U U' : Ends}
theorem SatS.later {r : RS} (h : SatS K ca r w U W) (e : Ext w w') : SatS K ca r w' U W := by
  cases r with
  | bad => exact h
  | _ => exact Aft.later h e
theorem SatS.mono {r : RS} (h : SatS K ca r w U W) (hn : ∀ σ H, U.nx σ H → U'.nx σ H) (hb : ∀ σ H, U.bk σ H → U'.bk σ H) (hc : ∀ σ H, U.ct σ H → U'.ct σ H) (hr : ∀ v H, U.rt v H → U'.rt v H) : SatS K ca r w U' W := by
  cases r with
  | bad => exact h
  | next e S => exact fun w' a b c σ' m => hn _ _ (h w' a b c σ' m)
  | brk e S => exact fun w' a b c σ' m => hb _ _ (h w' a b c σ' m)
  | cont e S => exact fun w' a b c σ' m => hc _ _ (h w' a b c σ' m)
  | ret d S => exact fun w' a b c v m => hr _ _ (h w' a b c v m)
  | err c x e S => exact h
theorem ItOk.later {J : It} {wk : Walk} (h : ItOk K ca w J wk) (e : Ext w w') : ItOk K ca w' J wk :=
  ⟨fun i w2 d e2 => h.goes i w2 d (e.trans e2), fun i w2 e2 => h.stops i w2 (e.trans e2), fun i w2 d x H' e2 => h.yields i w2 d x H' (e.trans e2)⟩
end

section
variable {X : Cx} {ca : Nat → Addr} {W : WX} {pos : Pos} {f g : Den} {gs : Dens} {F G : DenS} {a b : Expr} {st : Stmt} {rest : List Stmt}

theorem s_nil : PSs X [] ((tS X.K ca W) sPass) := PSs.imp pss_nil fun U σ H ⟨w, env, e, s, m, h⟩ => by
  subst e
  exact Aft.here (w' := w) h (.refl w) s σ m
theorem s_pass : PS X (.Pass pos) ((tS X.K ca W) sPass) := PS.imp ps_pass fun U σ H ⟨w, env, e, s, m, h⟩ => by
  subst e
  exact Aft.here (w' := w) h (.refl w) s σ m
theorem s_brk : PS X (.Break pos) ((tS X.K ca W) sBrk) := PS.imp ps_break fun U σ H ⟨w, env, e, s, m, h⟩ => by
  subst e
  exact Aft.here (w' := w) h (.refl w) s σ m
theorem s_cont : PS X (.Continue pos) ((tS X.K ca W) sCont) := PS.imp ps_continue fun U σ H ⟨w, env, e, s, m, h⟩ => by
  subst e
  exact Aft.here (w' := w) h (.refl w) s σ m
theorem s_one (h : PS X st ((tS X.K ca W) F)) : PSs X [st] ((tS X.K ca W) F) := pss_one h
theorem s_cons (h1 : PS X st ((tS X.K ca W) F)) (h2 : PSs X rest ((tS X.K ca W) G)) : PSs X (st :: rest) ((tS X.K ca W) (sSeq F G)) := PSs.imp (pss_cons h1 h2) fun U σ H ⟨w, env, e, s, m, h⟩ => by
  refine ⟨w, env, e, s, m, ?_⟩
  unfold sSeq at h
  cases q : F env w.S with
  | next e1 S1 =>
    rw [q] at h
    intro w1 hS x s1 σ1 m1
    subst hS
    exact ⟨w1, e1, rfl, s1, m1, h.later x⟩
  | brk e1 S1 => rw [q] at h; exact h
  | cont e1 S1 => rw [q] at h; exact h
  | ret d S1 => rw [q] at h; exact h
  | err c x e1 S1 => rw [q] at h; exact h
  | bad => rw [q] at h; exact h

/-- from an expression's reading, what stands behind it -/
theorem tE_then {w : Wd} {env : Env} {σ : St} {H : Hp} {R : V → Hp → Prop} {U : Ends} {k : D → Store → RS} (e : w.H = H) (s : SOk X.K ca w) (m : Sim X.K ca w env σ)
    (h : SatS X.K ca (match f env w.S with | .ok d S1 => k d S1 | .err c v S1 => .err c v env S1 | .bad => .bad) w U W)
    (hr : ∀ w1 d v, SOk X.K ca w1 → Sim X.K ca w1 env σ → Rep X.K ca w1 v d → Ext w w1 → SatS X.K ca (k d w1.S) w1 U W → R v w1.H) : tE X.K ca W f σ H R := by
  refine ⟨w, env, e, s, m, ?_⟩
  cases q : f env w.S with
  | ok d S1 =>
    rw [q] at h
    intro w1 hS x s1 v r
    subst hS
    exact hr w1 d v s1 (m.mono x s) r x (h.later x)
  | err c v S1 =>
    rw [q] at h
    intro w1 hS x s1 cls dd ex
    exact h w1 hS x s1 σ cls dd (m.mono x s) ex
  | bad => rw [q] at h; exact h
theorem tT_then {t : DenT} {w : Wd} {env : Env} {σ : St} {H : Hp} {R : Bool → Hp → Prop} {U : Ends} {k : Bool → Store → RS} (e : w.H = H) (s : SOk X.K ca w) (m : Sim X.K ca w env σ)
    (h : SatS X.K ca (match t env w.S with | .ok d S1 => k d S1 | .err c v S1 => .err c v env S1 | .bad => .bad) w U W)
    (hr : ∀ w1 b, SOk X.K ca w1 → Sim X.K ca w1 env σ → Ext w w1 → SatS X.K ca (k b w1.S) w1 U W → R b w1.H) : tT X.K ca W t σ H R := by
  refine ⟨w, env, e, s, m, ?_⟩
  cases q : t env w.S with
  | ok d S1 =>
    rw [q] at h
    intro w1 hS x s1
    subst hS
    exact hr w1 d s1 (m.mono x s) x (h.later x)
  | err c v S1 =>
    rw [q] at h
    intro w1 hS x s1 cls dd ex
    exact h w1 hS x s1 σ cls dd (m.mono x s) ex
  | bad => rw [q] at h; exact h
theorem s_expr (he : PE X a ((tE X.K ca W) f)) (hs : swapsWith a none pos.line X.env = pure false := by rfl) : PS X (.Expr a pos) ((tS X.K ca W) (sExpr f)) := PS.imp (ps_expr he hs) fun U σ H ⟨w, env, e, s, m, h⟩ =>
  tE_then (k := fun _ S1 => RS.next env S1) e s m h fun w1 d v s1 m1 r x q => Aft.here (w' := w1) q (.refl w1) s1 σ m1
theorem s_doc {x j pos'} : PS X (.Expr (.Constant (.str x) j pos) pos') ((tS X.K ca W) sPass) := PS.imp ps_doc fun U σ H ⟨w, env, e, s, m, h⟩ => by
  subst e
  exact Aft.here (w' := w) h (.refl w) s σ m
theorem set_imp {i : Nat} {U : Ends} {σ : St} {H : Hp} (h : (tS X.K ca W) (sSet i f) U σ H) : (tE X.K ca W) f σ H fun x H1 => gName i x σ H1 U.nx := by
  obtain ⟨w, env, e, s, m, h⟩ := h
  exact tE_then (k := fun d S1 => RS.next (env.set i (some d)) S1) e s m h fun w1 d v s1 m1 r x q => Aft.here (w' := w1) q (.refl w1) s1 _ (m1.set i r)
theorem s_set {i : Nat} {x : Str} {pos' : Pos} (hN : X.N.Nodup) (hi : X.N[i]? = some x) (hx : Loc X.env.scope x) (he : PE X a ((tE X.K ca W) f)) (hs : swapsWith a (some (.Name x pos')) pos.line X.env = pure false := by rfl)
    (hf : X.fn x = true ∨ X.env.scope.names.lookup x = some .local := by first | exact .inl rfl | exact .inr rfl | assumption) : PS X (.Assign [.Name x pos'] a pos) ((tS X.K ca W) (sSet i f)) := PS.imp (ps_set hN hi hx he hs hf) fun U σ H h => set_imp h
/-- .. from a reading of its own (a comprehension given to a name) -/
theorem s_setOf {i : Nat} {t : TE} (h : PS X st (tAsg t (gName i))) (hw : ∀ σ H Q, (tE X.K ca W) f σ H Q → t σ H Q) : PS X st ((tS X.K ca W) (sSet i f)) := PS.imp h fun U σ H q => hw _ _ _ (set_imp q)
theorem s_ret (he : PE X a ((tE X.K ca W) f)) : PS X (.Return (some a) pos) ((tS X.K ca W) (sRet f)) := PS.imp (ps_ret he) fun U σ H ⟨w, env, e, s, m, h⟩ =>
  tE_then (k := fun d S1 => RS.ret d S1) e s m h fun w1 d v s1 m1 r x q => Aft.here (w' := w1) q (.refl w1) s1 v r
theorem s_retN : PS X (.Return none pos) ((tS X.K ca W) sRetN) := PS.imp ps_retN fun U σ H ⟨w, env, e, s, m, h⟩ => by
  subst e
  exact Aft.here (w' := w) h (.refl w) s .non .non
theorem s_if {c : Expr} {t : DenT} {p q : List Stmt} (hc : PT X c ((tT X.K ca W) t)) (ha : PSs X p ((tS X.K ca W) F)) (hb : PSs X q ((tS X.K ca W) G)) : PS X (.If c p q pos) ((tS X.K ca W) (sIf t F G)) := PS.imp (ps_if hc ha hb) fun U σ H ⟨w, env, e, s, m, h⟩ =>
  tT_then (k := fun c S1 => if c then F env S1 else G env S1) e s m h fun w1 b s1 m1 x q => by
    cases b with
    | true => exact iteT ⟨w1, env, rfl, s1, m1, q⟩
    | false => exact iteF ⟨w1, env, rfl, s1, m1, q⟩

/-! ### targets -/
theorem g_name {i : Nat} {x : Str} (hN : X.N.Nodup) (hi : X.N[i]? = some x) (hx : Loc X.env.scope x) (hf : X.fn x = true ∨ X.env.scope.names.lookup x = some .local := by first | exact .inl rfl | exact .inr rfl | assumption) : PG X (.Name x pos) ((tG X.K ca) (gNm i)) :=
  ⟨fun pins s σ H v u Q I r h => (pg_name hN hi hx hf).run pins s σ H v u Q I r (by
    obtain ⟨w, env, d, e', e, sk, m, rp, hg, q⟩ := h
    have he : e' = env.set i (some d) := (Option.some.inj hg).symm
    subst he
    exact q _ (m.set i rp))⟩
def gAll : List Tgt → List D → Env → Store → Option Env
  | [], [], e, _ => some e
  | g :: gs, d :: ds, e, S => (match g d e S with | some e1 => gAll gs ds e1 S | none => none)
  | _, _, _, _ => none
def gTup (gs : List Tgt) : Tgt := fun d e S => match d with
  | .tup xs => gAll gs xs e S
  | .lst xs => gAll gs xs e S
  | _ => none
theorem gAll_length : ∀ {gs : List Tgt} {ds : List D} {e e' : Env} {S : Store}, gAll gs ds e S = some e' → ds.length = gs.length
  | [], [], _, _, _, _ => rfl
  | [], _ :: _, _, _, _, h => by cases h
  | _ :: _, [], _, _, _, h => by cases h
  | g :: gs, d :: ds, e, e', S, h => by
    unfold gAll at h
    cases q : g d e S with
    | none => rw [q] at h; cases h
    | some e1 =>
      rw [q] at h
      rw [List.length_cons, List.length_cons, gAll_length h]
def tGs (K : PySem.W.Frag) (ca : Nat → Addr) (gs : List Tgt) : TGs := fun vs σ H Q => ∃ w env ds e', w.H = H ∧ SOk K ca w ∧ Sim K ca w env σ ∧ RepL K ca w vs ds ∧ gAll gs ds env w.S = some e' ∧ ∀ σ', Sim K ca w e' σ' → Q σ' H
theorem gs_nil : PGs X [] (tGs X.K ca []) := ⟨fun pins s σ H vs us Q I r h => pgs_nil.run pins s σ H vs us Q I r (by
  obtain ⟨w, env, ds, e', e, sk, m, rp, hg, q⟩ := h
  cases rp with
  | nil =>
    have he : e' = env := (Option.some.inj hg).symm
    subst he
    exact ⟨rfl, q _ m⟩
  | cons _ _ => cases hg)⟩
theorem gs_cons {t : Tgt} {ts : List Tgt} {es : List Expr} (h1 : PG X a ((tG X.K ca) t)) (h2 : PGs X es (tGs X.K ca ts))
    (hs : (assignEach (a :: es) X.env).map (·.2) = assign a X.env :: (assignEach es X.env).map (·.2) := by rfl) : PGs X (a :: es) (tGs X.K ca (t :: ts)) :=
  ⟨fun pins s σ H vs us Q I r h => (pgs_cons h1 h2 hs).run pins s σ H vs us Q I r (by
    obtain ⟨w, env, ds, e', e, sk, m, rp, hg, q⟩ := h
    cases rp with
    | nil => cases hg
    | @cons v d vs ds rv rt =>
      refine ⟨v, vs, rfl, ?_⟩
      unfold gAll at hg
      cases z : t d env w.S with
      | none => rw [z] at hg; cases hg
      | some e1 =>
        rw [z] at hg
        exact ⟨w, env, d, e1, e, sk, m, rv, z, fun σ1 m1 => ⟨w, e1, ds, e', e, sk, m1, rt, hg, q⟩⟩)⟩
theorem g_tup {ts : List Tgt} {es : List Expr} {k : Nat} (hc : X.calm = true) (h : PGs X es (tGs X.K ca ts)) (hl : ts.length = es.length := by rfl)
    (hn : (assignEach es X.env).length = es.length := by rfl) (hst : (assignEach es X.env).findIdx? (·.1) = none := by rfl) : PG X (.Tuple es k pos) ((tG X.K ca) (gTup ts)) :=
  ⟨fun pins s σ H v u Q I r h0 => by
    obtain ⟨w, env, d, e', e, sk, m, rp, hg, q⟩ := h0
    subst e
    cases rp with
    | @tup a vs ds hq ra =>
      have hlen := gAll_length hg
      exact (pg_tup hc h (n := es.length) hn hst).run pins s σ w.H _ u Q I r ⟨a, vs, rfl, hq, by rw [ra.length, hlen, hl], ⟨w, env, ds, e', rfl, sk, m, ra, hg, q⟩⟩
    | @lst a vs ds hq hM ra =>
      have hlen := gAll_length hg
      exact (pg_lst hc h (n := es.length) hn hst).run pins s σ w.H _ u Q I r ⟨a, vs, rfl, .inl (.inl hq), by rw [ra.length, hlen, hl], ⟨w, env, ds, e', rfl, sk, m, ra, hg, q⟩⟩
    | _ => cases hg⟩
/-- target = value -/
def sAsg (g : Tgt) (f : Den) : DenS := fun e S => match f e S with
  | .ok d S1 => (match g d e S1 with | some e1 => .next e1 S1 | none => .bad)
  | .err c v S1 => .err c v e S1
  | .bad => .bad
theorem s_asg {tg : Expr} {t : Tgt} (he : PE X a ((tE X.K ca W) f)) (hg : PG X tg ((tG X.K ca) t)) (hs : swapsWithSole [tg] a pos.line X.env = pure false := by rfl) (hw : swappedStores [tg] a X.env = pure none := by rfl)
    (h1 : (assignEach [tg] X.env).map (·.2) = [assign tg X.env] := by rfl) : PS X (.Assign [tg] a pos) ((tS X.K ca W) (sAsg t f)) := PS.imp (ps_asg he hg hs hw h1) fun U σ H ⟨w, env, e, s, m, h⟩ =>
  tE_then (k := fun d S1 => match t d env S1 with | some e1 => RS.next e1 S1 | none => RS.bad) e s m h fun w1 d v s1 m1 r x q => by
    cases z : t d env w1.S with
    | none => rw [z] at q; exact q.elim
    | some e1 =>
      rw [z] at q
      exact ⟨w1, env, d, e1, rfl, s1, m1, r, z, fun σ' m' => Aft.here (w' := w1) q (.refl w1) s1 σ' m'⟩
/-- a, b = x, y -/
def sPar (i j : Nat) (f g : Den) : DenS := fun e S => match f e S with
  | .ok d S1 => (match g e S1 with | .ok d2 S2 => .next ((e.set i (some d)).set j (some d2)) S2 | .err c v S2 => .err c v e S2 | .bad => .bad)
  | .err c v S1 => .err c v e S1
  | .bad => .bad
theorem s_par {i j : Nat} {x y : Str} {px py pt : Pos} {kt k2 pt2} (hc : X.calm = true) (hN : X.N.Nodup) (hi : X.N[i]? = some x) (hj : X.N[j]? = some y) (hij : i ≠ j)
    (hx : X.env.scope.names.lookup x = some .local) (hy : X.env.scope.names.lookup y = some .local) (ha : PE X a ((tE X.K ca W) f)) (hb : PE X b ((tE X.K ca W) g))
    (hw : swappedStores [.Tuple [.Name x px, .Name y py] kt pt] (.Tuple [a, b] k2 pt2) X.env = pure (some [x, y])) (hst : starEach [a, b] X.env = (false, eval a X.env) :: starEach [b] X.env := by rfl) (hst2 : starEach [b] X.env = (false, eval b X.env) :: starEach [] X.env := by rfl)
    (hs : swapsWithSole [.Tuple [.Name x px, .Name y py] kt pt] (.Tuple [a, b] k2 pt2) pos.line X.env = pure false := by rfl) :
    PS X (.Assign [.Tuple [.Name x px, .Name y py] kt pt] (.Tuple [a, b] k2 pt2) pos) ((tS X.K ca W) (sPar i j f g)) :=
  PS.imp (ps_par hc hN hi hj hij hx hy (pa_cons ha (pa_cons hb pa_nil hst2) hst) hw hs) fun U σ H ⟨w, env, e, s, m, h⟩ =>
    tE_then (k := fun d S1 => match g env S1 with | .ok d2 S2 => RS.next ((env.set i (some d)).set j (some d2)) S2 | .err c v S2 => RS.err c v env S2 | .bad => RS.bad) e s m h fun w1 d v s1 m1 r x q =>
      tE_then (f := g) (k := fun d2 S2 => RS.next ((env.set i (some d)).set j (some d2)) S2) rfl s1 m1 q fun w2 d2 v2 s2 m2 r2 x2 q2 =>
        ⟨v, v2, rfl, Aft.here (w' := w2) q2 (.refl w2) s2 _ ((m2.set i (r.mono x2 s1)).set j r2)⟩

/-! ### what a loop walks -/
theorem itl_ok {w : Wd} {a : Addr} {vs : List V} {ds : List D} (s : SOk X.K ca w) (h : w.H a = some (.lst vs)) (n : ¬ w.M a) (r : RepL X.K ca w vs ds) : ItOk X.K ca w (Itl X.K a) (wkL ds) where
  goes := fun i w2 d e s2 hi => by
    obtain ⟨v, hv, _⟩ := r.get (Option.some.inj hi)
    exact ⟨vs, v, .inl (.inl (e.keep _ _ h n)), hv⟩
  stops := fun i w2 e s2 hi => ⟨vs, .inl (.inl (e.keep _ _ h n)), by rw [r.length]; exact List.getElem?_eq_none_iff.mp (Option.some.inj hi)⟩
  yields := fun i w2 d x H' e s2 hi y => by
    obtain ⟨e1, y⟩ := y
    have q := y vs (.inl (.inl (e.keep _ _ h n)))
    obtain ⟨d', hd, rd⟩ := r.getV q
    have ed : some d' = some d := hd.symm.trans (Option.some.inj hi)
    cases ed
    exact ⟨w2, e1.symm, rfl, .refl w2, s2, rd.mono e s⟩
theorem itt_ok {w : Wd} {a : Addr} {vs : List V} {ds : List D} (s : SOk X.K ca w) (h : SqT X.K w.H a vs) (r : RepL X.K ca w vs ds) : ItOk X.K ca w (Itt X.K a) (wkL ds) where
  goes := fun i w2 d e s2 hi => by
    obtain ⟨v, hv, _⟩ := r.get (Option.some.inj hi)
    exact ⟨vs, v, e.sqT s h, hv⟩
  stops := fun i w2 e s2 hi => ⟨vs, e.sqT s h, by rw [r.length]; exact List.getElem?_eq_none_iff.mp (Option.some.inj hi)⟩
  yields := fun i w2 d x H' e s2 hi y => by
    obtain ⟨e1, y⟩ := y
    have q := y vs (e.sqT s h)
    obtain ⟨d', hd, rd⟩ := r.getV q
    have ed : some d' = some d := hd.symm.trans (Option.some.inj hi)
    cases ed
    exact ⟨w2, e1.symm, rfl, .refl w2, s2, rd.mono e s⟩
theorem fls_sq {K : PySem.W.Frag} {H : Hp} {a : Addr} {vs : List V} (h : (∃ o, H a = some (.frz o (.lst vs))) ∨ ∃ (o : Obj) (its : Array Value) (n : Nat), K.lookup a = some o ∧ o.cls = .type "list" ∧ o.dict = none ∧ o.data = .seq its n ∧ its.size ≤ sizeLine ∧ Vals vs its.toList) : SqL K H a vs := h.elim (fun ⟨o, q⟩ => .inl (.inr ⟨o, q⟩)) .inr
theorem repL_ints {K : PySem.W.Frag} {ca : Nat → Addr} {w : Wd} : ∀ is : List Int, RepL K ca w (is.map V.int) (is.map D.int)
  | [] => .nil
  | i :: is => .cons (.int i) (repL_ints is)
theorem itf_ok {w : Wd} {a : Addr} {is : List Int} (s : SOk X.K ca w) (h : (∃ o, w.H a = some (.frz o (.lst (is.map V.int)))) ∨ ∃ (o : Obj) (its : Array Value) (n : Nat), X.K.lookup a = some o ∧ o.cls = .type "list" ∧ o.dict = none ∧ o.data = .seq its n ∧ its.size ≤ sizeLine ∧ Vals (is.map V.int) its.toList) : ItOk X.K ca w (Itl X.K a) (wkL (is.map D.int)) := by
  have kp : ∀ w2, Ext w w2 → SqL X.K w2.H a (is.map V.int) := fun w2 e => by
    rcases h with ⟨o, q⟩ | q
    · exact .inl (.inr ⟨o, e.keep _ _ q (s.notM q fun _ z => by cases z)⟩)
    · exact .inr q
  exact {
    goes := fun i w2 d e s2 hi => by
      obtain ⟨v, hv, _⟩ := (repL_ints (K := X.K) (ca := ca) (w := w) is).get (Option.some.inj hi)
      exact ⟨_, v, kp w2 e, hv⟩
    stops := fun i w2 e s2 hi => ⟨_, kp w2 e, by rw [(repL_ints (K := X.K) (ca := ca) (w := w) is).length]; exact List.getElem?_eq_none_iff.mp (Option.some.inj hi)⟩
    yields := fun i w2 d x H' e s2 hi y => by
      obtain ⟨e1, y⟩ := y
      have q := y _ (kp w2 e)
      obtain ⟨d', hd, rd⟩ := (repL_ints (K := X.K) (ca := ca) (w := w) is).getV q
      have ed : some d' = some d := hd.symm.trans (Option.some.inj hi)
      cases ed
      exact ⟨w2, e1.symm, rfl, .refl w2, s2, rd.mono e s⟩ }
theorem wkR_of {n i : Nat} {S : Store} {o : Option D} (h : wkR n i S = some o) : ∃ xs, S[n]? = some (.lst xs) ∧ xs[i]? = o := by
  unfold wkR at h
  cases q : S[n]? with
  | none => rw [q] at h; cases h
  | some u =>
    cases u with
    | dead => rw [q] at h; cases h
    | lst xs => rw [q] at h; exact ⟨xs, rfl, Option.some.inj h⟩
theorem itref_ok {w : Wd} {n : Nat} (hn : n < w.S.length) : ItOk X.K ca w (Itl X.K (w.ρ n)) (wkR n) where
  goes := fun i w2 d e s2 hi => by
    obtain ⟨xs, hS, hx⟩ := wkR_of hi
    obtain ⟨vs, hv, r⟩ := s2.live n xs hS
    rw [e.rho n hn] at hv
    obtain ⟨v, hv2, _⟩ := r.get hx
    exact ⟨vs, v, .inl (.inl hv), hv2⟩
  stops := fun i w2 e s2 hi => by
    obtain ⟨xs, hS, hx⟩ := wkR_of hi
    obtain ⟨vs, hv, r⟩ := s2.live n xs hS
    rw [e.rho n hn] at hv
    exact ⟨vs, .inl (.inl hv), by rw [r.length]; exact List.getElem?_eq_none_iff.mp hx⟩
  yields := fun i w2 d x H' e s2 hi y => by
    obtain ⟨e1, y⟩ := y
    obtain ⟨xs, hS, hx⟩ := wkR_of hi
    obtain ⟨vs, hv, r⟩ := s2.live n xs hS
    rw [e.rho n hn] at hv
    have q := y vs (.inl (.inl hv))
    obtain ⟨d', hd, rd⟩ := r.getV q
    have ed : some d' = some d := hd.symm.trans hx
    cases ed
    exact ⟨w2, e1.symm, rfl, .refl w2, s2, rd⟩
theorem i_seq {tg : Expr} (ha : PE X a ((tE X.K ca W) f)) : PI X tg a (tIt X.K ca W (dSeq f)) := by
  refine ⟨fun pins s σ H R I h => ?_⟩
  obtain ⟨w, env, e, sk, m, h⟩ := h
  subst e
  have h' := Sat.bind h
  cases q : f env w.S with
  | bad => rw [q] at h'; exact h'.elim
  | err c v S1 =>
    rw [q] at h'
    exact (pi_list ha).run pins s σ w.H R I ⟨w, env, rfl, sk, m, by rw [q]; exact h'⟩
  | ok d S1 =>
    rw [q] at h'
    cases d with
    | lst xs =>
      refine (pi_list ha).run pins s σ w.H R I ⟨w, env, rfl, sk, m, ?_⟩
      rw [q]
      intro w1 hS x s1 v r
      cases r with
      | @lst a vs ds hq hM ra => exact ⟨a, rfl, ⟨vs, .inl (.inl hq)⟩, h' w1 hS x s1 _ (itl_ok s1 hq hM ra)⟩
    | fls is =>
      refine (pi_list ha).run pins s σ w.H R I ⟨w, env, rfl, sk, m, ?_⟩
      rw [q]
      intro w1 hS x s1 v r
      cases r with
      | @fls a is hq => exact ⟨a, rfl, ⟨is.map V.int, fls_sq hq⟩, h' w1 hS x s1 _ (itf_ok s1 hq)⟩
    | ref n =>
      refine (pi_list ha).run pins s σ w.H R I ⟨w, env, rfl, sk, m, ?_⟩
      rw [q]
      intro w1 hS x s1 v r
      subst hS
      cases r with
      | ref hn =>
        change Sat (match w1.S[n]? with | some (.lst xs) => Py.R.ok (wkR n, xs.length) w1.S | _ => Py.R.bad) _ _ at h'
        cases z : w1.S[n]? with
        | none => rw [z] at h'; exact h'.elim
        | some o =>
          cases o with
          | dead => rw [z] at h'; exact h'.elim
          | lst xs =>
            rw [z] at h'
            obtain ⟨vs, hv, _⟩ := s1.live n xs z
            exact ⟨_, rfl, ⟨vs, .inl (.inl hv)⟩, h' w1 rfl x s1 _ (itref_ok hn)⟩
    | tup xs =>
      refine (pi_tup ha).run pins s σ w.H R I ⟨w, env, rfl, sk, m, ?_⟩
      rw [q]
      intro w1 hS x s1 v r
      cases r with
      | @tup a vs ds hq ra => exact ⟨a, rfl, ⟨vs, hq⟩, h' w1 hS x s1 _ (itt_ok s1 hq ra)⟩
    | _ => exact h'.elim
theorem itr_ok {w : Wd} {lo : Int} {n : Nat} : ItOk X.K ca w (Itr lo n) (wkL (intsD lo n)) where
  goes := fun i w2 d e s2 hi => by
    have q := List.getElem?_eq_some_iff.mp (Option.some.inj hi)
    obtain ⟨q, _⟩ := q
    rw [intsD_length] at q
    exact q
  stops := fun i w2 e s2 hi => by
    have q := List.getElem?_eq_none_iff.mp (Option.some.inj hi)
    rw [intsD_length] at q
    exact q
  yields := fun i w2 d x H' e s2 hi y => by
    obtain ⟨e1, y⟩ := y
    subst y
    obtain ⟨q, _⟩ := List.getElem?_eq_some_iff.mp (Option.some.inj hi)
    rw [intsD_length] at q
    have ed : some (D.int (lo + (i : Int))) = some d := (intsD_get lo n i q).symm.trans (Option.some.inj hi)
    cases ed
    exact ⟨w2, e1.symm, rfl, .refl w2, s2, .int _⟩
theorem i_rng1 {tg : Expr} {p : Pos} (hg : Gl X "range") (hm : X.mg "range" = none) (ha : PE X a ((tE X.K ca W) f)) (hs : starEach [a] X.env = [(false, eval a X.env)] := by rfl) : PI X tg (.Call (.Name "range" p) [a] [] pos) (tIt X.K ca W (dRng1 f)) := by
  refine ⟨fun pins s σ H R I h => (pi_range1 hg hm (pa_cons ha pa_nil hs) hs).run pins s σ H R I ?_⟩
  obtain ⟨w, env, e, sk, m, h⟩ := h
  refine ⟨w, env, e, sk, m, (Sat.bind h).mono (fun d S1 q => ?_) fun _ _ _ q => q⟩
  intro w1 hS x s1 v r
  cases r with
  | int j =>
    by_cases hj : inR j = true
    · simp only [hj, if_true] at q
      obtain ⟨h1, h2⟩ := inR_ok hj
      exact ⟨j, rfl, h1, h2, q w1 hS x s1 _ itr_ok⟩
    · simp only [hj] at q
      exact q.elim
  | _ => exact q.elim
theorem i_rng2 {tg : Expr} {p : Pos} (hg : Gl X "range") (hm : X.mg "range" = none) (ha : PE X a ((tE X.K ca W) f)) (hb : PE X b ((tE X.K ca W) g)) (hs : starEach [a, b] X.env = [(false, eval a X.env), (false, eval b X.env)] := by rfl) (hs2 : starEach [b] X.env = [(false, eval b X.env)] := by rfl) :
    PI X tg (.Call (.Name "range" p) [a, b] [] pos) (tIt X.K ca W (dRng2 f g)) := by
  refine ⟨fun pins s σ H R I h => (pi_range2 hg hm (pa_cons ha (pa_cons hb pa_nil hs2) (by rw [hs, hs2])) hs hs2).run pins s σ H R I ?_⟩
  obtain ⟨w, env, e, sk, m, h⟩ := h
  refine tE_bind (Qb := fun w => fun (wn : Walk × Nat) S' => Aft X.K ca w S' fun w' => ∀ J, ItOk X.K ca w' J wn.1 → R J w'.H) e sk m h (fun e q => q.later e) fun w1 d v s1 m1 r e1 h1 => ?_
  refine tE_bind (Qb := fun w => fun (wn : Walk × Nat) S' => Aft X.K ca w S' fun w' => ∀ J, ItOk X.K ca w' J wn.1 → R J w'.H) rfl s1 m1 h1 (fun e q => q.later e) fun w2 d2 v2 s2 m2 r2 e2 h2 => ?_
  cases r with
  | int i =>
    cases r2 with
    | int j =>
      by_cases hj : (inR i && inR j) = true
      · simp only [hj, if_true] at h2
        rw [Bool.and_eq_true] at hj
        obtain ⟨h1, h3⟩ := inR_ok hj.1
        obtain ⟨h4, h5⟩ := inR_ok hj.2
        exact ⟨i, j, rfl, ⟨h1, h3, h4, h5⟩, Aft.here (w' := w2) h2 (.refl w2) s2 _ itr_ok⟩
      · simp only [hj] at h2
        exact h2.elim
    | _ => exact h2.elim
  | _ => exact h2.elim

/-! ### for, while -/
theorem s_for {tg iter : Expr} {body : List Stmt} {gi : DenI} {t : Tgt} (hp : PassesOwn (model X.prog X.w) X.A X.env X.xe) (hc : X.calm = true) (hi : PI X tg iter (tIt X.K ca W gi)) (hg : PG X tg ((tG X.K ca) t)) (hb : PSs X body ((tS X.K ca W) F))
    (hs : ∀ x, foldedSetIterable iter X.env x = pure x := by intro _; rfl) : PS X (.For tg iter body [] pos) ((tS X.K ca W) (sFor t gi F)) := PS.imp (ps_for hp hc hi hg hb hs) fun U σ H ⟨w, env, e, s, m, h⟩ => by
  refine ⟨w, env, e, s, m, ?_⟩
  unfold sFor at h
  cases q : gi env w.S with
  | bad => rw [q] at h; exact h
  | err c v S1 =>
    rw [q] at h
    intro w1 hS x s1 cls dd ex
    exact h w1 hS x s1 σ cls dd (m.mono x s) ex
  | ok wn S1 =>
    obtain ⟨wk, n⟩ := wn
    rw [q] at h
    dsimp only at h
    intro w1 hS x1 s1 J hJ
    subst hS
    refine ⟨fun i k σ H => ∃ w2 env2, w2.H = H ∧ Ext w1 w2 ∧ SOk X.K ca w2 ∧ Sim X.K ca w2 env2 σ ∧ SatS X.K ca (forW t F wk k i env2 w2.S) w2 U W,
      ⟨n, w1, env, rfl, .refl w1, s1, m.mono x1 s, h.later x1⟩, ?_⟩
    rintro i k σ2 H2 ⟨w2, env2, rfl, x2, s2, m2, h2⟩
    cases k with
    | zero =>
      unfold forW at h2
      cases z : wk i w2.S with
      | none => rw [z] at h2; exact h2.elim
      | some o =>
        cases o with
        | some d => rw [z] at h2; exact h2.elim
        | none =>
          rw [z] at h2
          exact .inl ⟨hJ.stops i w2 x2 s2 z, Aft.here (w' := w2) h2 (.refl w2) s2 _ m2⟩
    | succ k =>
      unfold forW at h2
      cases z : wk i w2.S with
      | none => rw [z] at h2; exact h2.elim
      | some o =>
        cases o with
        | none =>
          rw [z] at h2
          exact .inl ⟨hJ.stops i w2 x2 s2 z, Aft.here (w' := w2) h2 (.refl w2) s2 _ m2⟩
        | some d =>
          rw [z] at h2
          dsimp only at h2
          refine .inr ⟨hJ.goes i w2 d x2 s2 z, fun σ' H' => ∃ w3 env3, w3.H = H' ∧ Ext w1 w3 ∧ SOk X.K ca w3 ∧ Sim X.K ca w3 env3 σ' ∧ SatS X.K ca (forW t F wk k (i + 1) env3 w3.S) w3 U W,
            fun σ' H' z => ⟨k, Nat.lt_succ_self k, z⟩, fun v H' y => ?_⟩
          obtain ⟨w3, eH, eS, x3, s3, rd⟩ := hJ.yields i w2 d v H' x2 s2 z y
          rw [← eS] at h2
          cases zt : t d env2 w3.S with
          | none => rw [zt] at h2; exact h2.elim
          | some e1 =>
            rw [zt] at h2
            dsimp only at h2
            refine ⟨w3, env2, d, e1, eH, s3, m2.mono x3 s2, rd, zt, fun σ3 m3 => ⟨w3, e1, eH, s3, m3, ?_⟩⟩
            cases zb : F e1 w3.S with
            | bad => rw [zb] at h2; exact h2.elim
            | next e2 S2 =>
              rw [zb] at h2
              intro w4 hS x4 s4 σ4 m4
              subst hS
              exact ⟨w4, e2, rfl, x2.trans (x3.trans x4), s4, m4, SatS.later h2 (x3.trans x4)⟩
            | cont e2 S2 =>
              rw [zb] at h2
              intro w4 hS x4 s4 σ4 m4
              subst hS
              exact ⟨w4, e2, rfl, x2.trans (x3.trans x4), s4, m4, SatS.later h2 (x3.trans x4)⟩
            | brk e2 S2 =>
              rw [zb] at h2
              exact Aft.later h2 x3
            | ret d2 S2 =>
              rw [zb] at h2
              exact Aft.later h2 x3
            | err c x e2 S2 =>
              rw [zb] at h2
              exact Aft.later h2 x3
theorem s_while {c : Expr} {body : List Stmt} {t : DenT} (hp : PassesOwn (model X.prog X.w) X.A X.env X.xe) (hc : PT X c ((tT X.K ca W) t)) (hb : PSs X body ((tS X.K ca W) F)) : PS X (.While c body [] pos) ((tS X.K ca W) (sWhile t F)) :=
  PS.imp (ps_while hp hc hb) fun U σ H ⟨w, env, e, s, m, h⟩ => by
    have hn : sWhile t F env w.S ≠ .bad := fun z => by rw [z] at h; exact h
    obtain ⟨n, hn⟩ := sWhile_some hn
    rw [← hn] at h
    refine ⟨fun k σ H => ∃ w2 env2, w2.H = H ∧ SOk X.K ca w2 ∧ Sim X.K ca w2 env2 σ ∧ SatS X.K ca (whileN t F k env2 w2.S) w2 U W, ⟨n, w, env, e, s, m, h⟩, ?_⟩
    rintro k σ2 H2 ⟨w2, env2, rfl, s2, m2, h2⟩
    cases k with
    | zero => exact h2.elim
    | succ k =>
      unfold whileN at h2
      refine ⟨w2, env2, rfl, s2, m2, ?_⟩
      cases z : t env2 w2.S with
      | bad => rw [z] at h2; exact h2
      | err c v S1 =>
        rw [z] at h2
        intro w3 hS x s3 cls dd ex
        exact h2 w3 hS x s3 σ2 cls dd (m2.mono x s2) ex
      | ok b S1 =>
        rw [z] at h2
        intro w3 hS x3 s3
        subst hS
        cases b with
        | false => exact iteF (Aft.here (w' := w3) h2 x3 s3 _ (m2.mono x3 s2))
        | true =>
          refine iteT ⟨fun σ' H' => ∃ w4 env4, w4.H = H' ∧ SOk X.K ca w4 ∧ Sim X.K ca w4 env4 σ' ∧ SatS X.K ca (whileN t F k env4 w4.S) w4 U W, fun σ' H' z => ⟨k, Nat.lt_succ_self k, z⟩, w3, env2, rfl, s3, m2.mono x3 s2, ?_⟩
          simp only at h2
          cases zb : F env2 w3.S with
          | bad => rw [zb] at h2; exact h2.elim
          | next e2 S2 =>
            rw [zb] at h2
            intro w4 hS x4 s4 σ4 m4
            subst hS
            exact ⟨w4, e2, rfl, s4, m4, SatS.later h2 (x3.trans x4)⟩
          | cont e2 S2 =>
            rw [zb] at h2
            intro w4 hS x4 s4 σ4 m4
            subst hS
            exact ⟨w4, e2, rfl, s4, m4, SatS.later h2 (x3.trans x4)⟩
          | brk e2 S2 =>
            rw [zb] at h2
            exact Aft.later h2 x3
          | ret d2 S2 =>
            rw [zb] at h2
            exact Aft.later h2 x3
          | err c x e2 S2 =>
            rw [zb] at h2
            exact Aft.later h2 x3

/-! ### calls -/
/-- the promise of the def number i with n parameters -/
def spF (K : PySem.W.Frag) (ca : Nat → Addr) (Γ : Calls) (i n : Nat) : Sp := fun vs H Q E => ∃ w ds, w.H = H ∧ vs.length = n ∧ SOk K ca w ∧ RepL K ca w vs ds ∧ Sat (Γ i ds w.S) (QV K ca w Q) fun c x S => Aft K ca w S fun w' => ∀ cls dd, ExIn K ca w' cls dd c x → E cls dd w'.H
theorem e_call {Γ : Calls} {i n k : Nat} {fa : Addr} {fd : FuncData} {ps : List Str} {x : Str} {p : Pos} {es : List Expr} (Fn : FnOk X.prog X.w X.K X.mg X.base (L2.CX X.prog X.w) k fa fd ps (spF X.K ca Γ i n)) (hr : Room k X.A) (hg : Gl X x) (hm : X.mg x = some (.ref fa))
    (hk : PySem.W.keepIn X.K (.ref fa) = true) (hb : Binds X.K fd ps []) (tk : Takes X W) (ha : PA X (a :: es) ((tEs X.K ca W) gs)) (hl : Len gs n) (hdb : (x == ("__debug__" : Str)) = false := by decide)
    (he : starEach (a :: es) X.env = (false, eval a X.env) :: starEach es X.env := by rfl) (hpl : (backTo pos (starEach es X.env)).any (·.1) = false := by rfl) : PE X (.Call (.Name x p) (a :: es) [] pos) ((tE X.K ca W) (eCall Γ i gs)) :=
  PE.imp (pe_callS Fn hr hg hm hk hb (fun σ => passAt tk σ) ha hdb he hpl) fun σ H Q ⟨w, env, e, s, m, h⟩ => by
    have hlen : ∀ ds S', gs env w.S = .ok ds S' → ds.length = n := fun ds S' q => hl _ _ _ _ q
    refine ⟨w, env, e, s, m, ?_⟩
    unfold eCall at h
    cases q : gs env w.S with
    | bad => rw [q] at h; exact h
    | err c v S1 => rw [q] at h; exact h
    | ok ds S1 =>
      rw [q] at h
      intro w1 hS x1 s1 vs r
      subst hS
      exact ⟨w1, ds, rfl, by rw [r.length, hlen _ _ q], s1, r, h.mono (fun d S z => QV.later x1 z) fun c v S z => Aft.later z x1⟩
theorem e_call0 {Γ : Calls} {i k : Nat} {fa : Addr} {fd : FuncData} {ps : List Str} {x : Str} {p : Pos} (Fn : FnOk X.prog X.w X.K X.mg X.base (L2.CX X.prog X.w) k fa fd ps (spF X.K ca Γ i 0)) (hr : Room k X.A) (hg : Gl X x) (hm : X.mg x = some (.ref fa))
    (hk : PySem.W.keepIn X.K (.ref fa) = true) (hb : Binds X.K fd ps []) (tk : Takes X W) (hdb : (x == ("__debug__" : Str)) = false := by decide) : PE X (.Call (.Name x p) [] [] pos) ((tE X.K ca W) (eCall Γ i dNil)) := by
  refine ⟨fun pins s σ H Q I h => ?_⟩
  obtain ⟨w, env, e, sk, m, h⟩ := h
  refine wpAny_Call_Name_kw (ld_glob I hg hm ?_ hdb)
  refine PySem.W.callWith_K0 I.kIn hk (run_fnS (us := []) (vs := []) Fn hr hb (passAt tk σ) I .nil ?_)
  exact ⟨w, [], e, rfl, sk, .nil, h⟩
end

/-- a def of the text, by its body -/
theorem fn_body {P : Program} {w : World} {K : PySem.W.Frag} {ca : Nat → Addr} {mg : Str → Option Value} {base : Heap} {x qual : Str} {params : Arguments} {body : List Stmt} {scope : Scope} {dvs : List V} {kws : List (Str × V)} {f : Addr} {fd : FuncData} {N ps : List Str} {k i : Nat} {Γ' : Calls} {F : DenS}
    (Fd : FunD K x qual params body scope dvs kws f fd) (S : FnScope N ps scope) (hΓ : ∀ args St, args.length = ps.length → Γ' i args St = runBody F N.length args St)
    (hb : ∀ (cdv : Value) (A : Around) (outer : List PySem.Env) (s : Shared) (H : Hp) (E : XK), Room k (A.deeper (envOfC qual scope s.heap.objs.size f cdv)) →
      PSs (cxOf (L2.CX P w) P w K mg base N qual scope f cdv A outer s H E) body (tS K ca (fun cls d _ H => E cls d H) F)) :
    FnOk P w K mg base (L2.CX P w) (k + 1) f fd ps (spF K ca Γ' i ps.length) := by
  refine Fd.ok S (fun vs H Q E h => ?_) (fun cdv A outer s H vs Q E hr h => ?_)
  · obtain ⟨_, _, _, hl, _⟩ := h
    exact hl
  · obtain ⟨w0, ds, e, hl, sk, r, h⟩ := h
    refine ⟨tS K ca (fun cls d _ H => E cls d H) F, hb cdv A outer s H E hr, ?_⟩
    have hpl : ps.length ≤ N.length := by have := congrArg List.length S.pre; rw [List.length_take] at this; omega
    have hd : ds.length = ps.length := by rw [← r.length]; exact hl
    rw [hΓ ds w0.S hd] at h
    refine ⟨w0, ds.map some ++ List.replicate (N.length - ds.length) none, e, sk, ⟨?_, fun j d q => ?_⟩, ?_⟩
    · unfold L2.start
      rw [List.length_append, List.length_append, List.length_map, List.length_map, List.length_replicate, List.length_replicate, r.length]
    · unfold L2.start
      have hlen := r.length
      by_cases hj : j < ds.length
      · rw [List.getElem?_append_left (by simpa using hj), List.getElem?_map] at q
        cases z : ds[j]? with
        | none => rw [z] at q; cases q
        | some d' =>
          rw [z] at q
          have e2 : d' = d := by simpa using q
          subst e2
          obtain ⟨v, hv, rv⟩ := r.get z
          refine ⟨v, ?_, rv⟩
          rw [List.getElem?_append_left (by rw [List.length_map, hlen]; exact hj), List.getElem?_map, hv]
          rfl
      · rw [List.getElem?_append_right (by simpa using hj), List.getElem?_replicate] at q
        split at q <;> cases q
    · unfold runBody at h
      cases z : F (ds.map some ++ List.replicate (N.length - ds.length) none) w0.S with
      | next e1 S1 =>
        rw [z] at h
        exact fun w1 hS x1 s1 σ' m1 => h w1 hS x1 s1 .non .non
      | ret d S1 => rw [z] at h; exact h
      | err c v e1 S1 =>
        rw [z] at h
        exact fun w1 hS x1 s1 σ' cls dd m1 ex => h w1 hS x1 s1 cls dd ex
      | brk e1 S1 => rw [z] at h; exact h.elim
      | cont e1 S1 => rw [z] at h; exact h.elim
      | bad => rw [z] at h; exact h.elim
end Py

set_option maxHeartbeats 4000000
/-! PyE: exceptions: raised, caught and kept as data. -/
namespace Py
open PySem PySem.Spec PyProof.Rows L2

/-! ### an exception that has landed is tracked from then on -/
section
variable {X : Cx} {pins : List (Addr × Obj)} {σ : St} {H : Hp} {s : Shared}
theorem exk_ok {P : Program} {w : World} {H : Hp} {h : Heap} {a C d : Addr} {oe : Obj} {vs : Array Value} (he : h.get? a = some oe) (h1 : oe.cls = .ref C) (h2 : oe.dict = some d) (h3 : oe.data = .fields vs) : ObjOk P w H h a (exk a C d) :=
  ⟨⟨oe, vs, he, h1, h2, h3⟩, ⟨oe, he⟩, fun g1 g2 z k => by
    obtain ⟨o, us, q, r⟩ := z
    exact ⟨o, us, k _ q, r⟩⟩
theorem _root_.L2.Inv.track {a C d : Addr} {oe : Obj} {vs : Array Value} (I : Inv X pins σ H s) (n0 : X.s_0.heap.get? a = none) (npin : ∀ p ∈ X.pn ++ pins, p.1 ≠ a) (he : s.heap.get? a = some oe) (h1 : oe.cls = .ref C) (h2 : oe.dict = some d) (h3 : oe.data = .fields vs)
    (na : H a = none) (nL : a ≠ X.env.locals) : Inv X pins σ (upd H a (exk a C d)) s where
  ok := I.ok
  os := I.os
  bare := I.bare
  base := {
    keep := fun b o e n hb hx => I.base.keep b o e n hb hx
    slot := fun b o e n hb hx => I.base.slot b o e n hb hx
    free := fun b o e n hx => by
      have hb : b ≠ a := fun z => by rw [z, n0] at e; cases e
      rw [upd_ne hb]
      exact I.base.free b o e n hx
    there := fun b o e hx => I.base.there b o e hx
    tups := fun b xs e => by
      have q := I.base.tups b xs e
      rw [upd_ne (ne_of_none q na)]; exact q
    frzs := fun b o xs e => by
      have q := I.base.frzs b o xs e
      rw [upd_ne (ne_of_none q na)]; exact q
    tbls := fun b ps e => by
      obtain ⟨more, q⟩ := I.base.tbls b ps e
      exact ⟨more, by rw [upd_ne (ne_of_none q na)]; exact q⟩ }
  loc := I.loc
  cell := I.cell
  free := by rw [upd_ne (Ne.symm nL)]; exact I.free
  freeC := fun x c e => by
    have hc : c ≠ a := fun z => by
      obtain ⟨v, o, ho, hd⟩ := I.cell x c e
      rw [z, he] at ho
      cases ho
      rw [h3] at hd
      cases hd
    rw [upd_ne hc]
    exact I.freeC x c e
  pin := fun p hp => by
    obtain ⟨e, n, ne, nf, dd⟩ := I.pin p hp
    exact ⟨e, by rw [upd_ne (npin p hp)]; exact n, ne, nf, dd⟩
  hok := fun b u e => by
    by_cases hb : b = a
    · subst hb
      rw [upd_same] at e
      cases e
      exact exk_ok he h1 h2 h3
    · rw [upd_ne hb] at e
      exact (I.hok b u e).stay (fun c v _ q => q) (fun c q => by rw [upd_ne (ne_of_none q na)]; exact q) fun c xs q => by rw [upd_ne (ne_of_none q na)]; exact q
  len := I.len
theorem _root_.L2.Inv.toSuite (I : Inv X pins σ H s) (a : Addr) : Inv (X.suite a (X.pn ++ pins)) [] σ H s :=
  ⟨I.ok.suite _ _, I.os, I.bare, I.base, I.loc, I.cell, I.free, I.freeC, fun p hp => I.pin p (by rw [List.append_nil] at hp; exact hp), I.hok, I.len⟩
theorem _root_.L2.Inv.ofSuite {a : Addr} {pn' : List (Addr × Obj)} (I : Inv (X.suite a (X.pn ++ pins)) pn' σ H s) (ok : X.Ok) : Inv X pins σ H s :=
  ⟨ok, I.os, I.bare, I.base, I.loc, I.cell, I.free, I.freeC, fun p hp => I.pin p (List.mem_append_left _ hp), I.hok, I.len⟩
end

/-- a slot that may be none -/
def putO {α : Type} (i : Option Nat) (x : Option α) (l : List (Option α)) : List (Option α) := match i with | some i => l.set i x | none => l
/-- what a clause wishes of an exception of the body: it is an object of its own from then on; i: the slot of the clause's name -/
def wTrk (K : PySem.W.Frag) (c : Value) (i : Option Nat) (ts : TS) (Wout : WX) (U : Ends) : WX := fun cls dd σ H =>
  ∃ b, PySem.W.exmOne K cls c = some b ∧ (b = true → ∃ C d, cls = .ref C ∧ dd = some d ∧ ∀ a, H a = none →
      ts { nx := fun σ' H' => U.nx (putO i none σ') H', rt := U.rt, bk := fun σ' H' => U.bk (putO i none σ') H', ct := fun σ' H' => U.ct (putO i none σ') H' }
        (putO i (some (.ref a)) σ) (upd H a (exk a C d))) ∧
    (b = false → Wout cls dd σ H)
section
variable {X : Cx} {x : Str} {c : Value} {body suite : List Stmt} {b₀ : Stmt} {np pos pos' : Pos} {tb : WX → TS} {ts : TS} {Wout : WX}
/-- try: body / except x [as n]: suite -/
theorem ps_try_trk {nm : Option Str} {i : Option Nat} (hex : X.ex = []) (hs : X.stack = X.env :: X.outer) (hf : X.env.frame = some X.env.locals) (hN : X.N.Nodup)
    (hn : match nm, i with | some n, some i => X.N[i]? = some n ∧ X.env.kindOf n = some .local | none, none => True | _, _ => False) (hc : Names X x c) (tk : Takes X Wout)
    (hb : ∀ (W : WX) (pn : List (Addr × Obj)) (xe : Value → Shared → Prop), Takes (X.tr pn xe) W → PassesOwn (model X.prog X.w) X.A X.env xe → PSs (X.tr pn xe) body (tb W))
    (hsu : ∀ (a : Addr) (pn : List (Addr × Obj)), PSs (X.suite a pn) (b₀ :: suite) ts) :
    PS X (.Try body [.ExceptHandler (some (.Name x np)) nm (b₀ :: suite) pos'] [] [] pos) (fun U σ H => tb (wTrk X.K c i ts Wout U) U σ H) := by
  refine ⟨fun pins s σ H U I h => ?_⟩
  have ok := I.ok
  have hfr : X.A.frames = some (X.env :: X.outer) := by rw [ok.frames, hs]
  refine wpAny_Try_except ?_
  let xe2 : Value → Shared → Prop := fun e s₁ => wpAny (model X.prog X.w) X.A (noteFrame e X.env) (fun _ s₂ => wpAny (model X.prog X.w) X.A (setFlight e none) (fun _ s₃ =>
    wpAny (model X.prog X.w) X.A (handleBy e X.env [.ExceptHandler (some (.Name x np)) nm (b₀ :: suite) pos']) (SP X pins U) X.xe s₃) X.xe s₂) X.xe s₁
  have caught : Takes (X.tr (X.pn ++ pins) xe2) (wTrk X.K c i ts Wout U) := by
    intro u s' xx
    obtain ⟨a, B, sI, pins', σ1, H1, cls, dd, rfl, J', nb, up, sky, na, os, ag, b, hb1, hyes, hno⟩ := xx
    have J : Inv X pins σ1 H1 sI := J'.ofTry ok
    have sky' : Sky B (X.env :: X.outer) a (Zc cls dd) X.env.locals s'.heap := by rw [← hs]; exact sky
    show wpAny (model X.prog X.w) X.A (noteFrame (.ref a) X.env) _ _ _
    -- the ground does not have it
    have nB : B.get? a = none := by
      rcases sky' with ⟨_, q, _⟩ | q | q
      · exact q
      · exact q.2.1
      · exact q.2.1
    refine Sky.land Zc.steady hfr hf sky' fun h3 fl3 up3 => ?_
    have J3 : Inv X pins σ1 H1 { s' with heap := h3 } := J.landed nb fl3.1 (up.trans up3) os ag
    obtain ⟨oe3, vs3, he3, hz3, hd3⟩ := fl3.there
    have out : ∀ {h : Heap} {o : Obj} {vs : Array Value}, h.FunFrames B (X.env :: X.outer) → h.get? a = some o → o.data = .fields vs → a ∉ frs (X.env :: X.outer) := fun ff e dt hm => by
      obtain ⟨_, o', e', hnf⟩ := ff.mem hm
      rw [e] at e'; cases e'
      exact hnf _ dt
    have nfr := out fl3.2.2.1 he3 hd3
    have nL : a ≠ X.env.locals := fun z => nfr (List.mem_filterMap.mpr ⟨X.env, List.mem_cons_self, by rw [hf, z]⟩)
    have nI : sI.heap.get? a = none := by
      cases q : sI.heap.get? a with
      | none => rfl
      | some o =>
        have z := nb a o q (by rw [hs]; exact nfr)
        rw [nB] at z; cases z
    have n0 : X.s_0.heap.get? a = none := by
      cases q : X.s_0.heap.get? a with
      | none => rfl
      | some o =>
        obtain ⟨o', z⟩ := J.base.there a o q (by rw [hex]; simp)
        rw [nI] at z; cases z
    have npin : ∀ p ∈ X.pn ++ pins, p.1 ≠ a := fun p hp z => by
      have q := (J.pin p hp).1
      rw [z, nI] at q; cases q
    refine wpAny_handleBy_cons (codeAny_handlers_test ?_) (by intro q; cases q)
    have LT : PySem.W.Looks (model X.prog X.w) h3 (typeOf (.ref a)) cls := fun A Q E s k q => wpAny_typeOf_ref (k _ _ he3) (by rw [hz3.1]; exact q)
    have LM := PySem.W.exm_one (M := model X.prog X.w) (J3.kIn) LT hb1
    have S3 := J3.toSuite a
    have test : ∀ {Q : Value → Shared → Prop} {E : Value → Shared → Prop}, Q c { s' with heap := h3 } → wpAny (model X.prog X.w) (X.A.mark (some (.ref a))) (eval (.Name x np) X.env) Q E { s' with heap := h3 } := fun {Q E} q => by
      obtain ⟨hg, hdbg, hm | ⟨hm, hv, hnn⟩⟩ := hc
      · exact ld_glob (X := X.suite a (X.pn ++ pins)) S3 hg hm q hdbg
      · exact ld_blt (X := X.suite a (X.pn ++ pins)) S3 hg hm hv q hnn hdbg
    refine test (LM.here ?_)
    cases b with
    | true =>
      obtain ⟨C, d, rfl, rfl, hy⟩ := hyes rfl
      cases nm with
      | none =>
        cases i with
        | some i => exact hn.elim
        | none =>
          refine codeAny_handlers_suite ?_
          refine HandSPX.lands_againZ fl3 fun h4 fl4 up4 => ?_
          have J4 : Inv X pins σ1 H1 { s' with heap := h4 } := J.landed nb fl4.1 ((up.trans up3).trans up4) os ag
          obtain ⟨oe4, vs4, he4, hz4, hd4⟩ := fl4.there
          have T4 := (J4.track n0 npin he4 hz4.1 hz4.2 hd4 na nL).toSuite a
          refine wpAny_mono ((hsu a (X.pn ++ pins)).run [] _ _ _ _ T4 (hy a na)) (fun fl s6 hsp => ?_) (fun _ _ z => False.elim z)
          cases fl with
          | next =>
            obtain ⟨σ6, H6, S6, q6⟩ := hsp
            exact ⟨_, _, S6.ofSuite ok, q6⟩
          | brk =>
            obtain ⟨σ6, H6, S6, q6⟩ := hsp
            exact ⟨_, _, S6.ofSuite ok, q6⟩
          | cont =>
            obtain ⟨σ6, H6, S6, q6⟩ := hsp
            exact ⟨_, _, S6.ofSuite ok, q6⟩
          | ret u =>
            obtain ⟨v6, σ6, H6, S6, r6, q6⟩ := hsp
            exact ⟨_, _, _, S6.ofSuite ok, r6, q6⟩
      | some n =>
        cases i with
        | none => exact hn.elim
        | some i =>
          obtain ⟨hi, hln⟩ := hn
          refine codeAny_handlers_suite_as ?_
          refine HandSPX.lands_againZ fl3 fun h4 fl4 up4 => ?_
          have J4 : Inv X pins σ1 H1 { s' with heap := h4 } := J.landed nb fl4.1 ((up.trans up3).trans up4) os ag
          obtain ⟨oe4, vs4, he4, hz4, hd4⟩ := fl4.there
          have T4 := (J4.track n0 npin he4 hz4.1 hz4.2 hd4 na nL).toSuite a
          refine store_ok (X := X.suite a (X.pn ++ pins)) (v := .ref a) T4 hN hi (.inl hln) rfl (fun s5 S5 => ?_) (.inr hln)
          refine wpAny_mono ((hsu a (X.pn ++ pins)).run [] s5 _ _ _ S5 (hy a na)) (fun fl s6 hsp => ?_) (fun _ _ z => False.elim z)
          have fin : ∀ {σ6 : St} {H6 : Hp} {Q : Shared → Prop}, Inv (X.suite a (X.pn ++ pins)) [] σ6 H6 s6 → (∀ s7, Inv X pins (σ6.set i none) H6 s7 → Q s7) →
              wpAny (model X.prog X.w) X.A (do bindName X.env n .none; unbindBehindTheSuite X.env n pos') (fun _ s7 => Q s7) X.xe s6 := fun {σ6 H6 Q} S6 hq => gone_ok (S6.ofSuite ok) hN hi hln hq
          cases fl with
          | next =>
            obtain ⟨σ6, H6, S6, q6⟩ := hsp
            exact fin S6 fun s7 J7 => ⟨_, _, J7, q6⟩
          | brk =>
            obtain ⟨σ6, H6, S6, q6⟩ := hsp
            exact fin S6 fun s7 J7 => ⟨_, _, J7, q6⟩
          | cont =>
            obtain ⟨σ6, H6, S6, q6⟩ := hsp
            exact fin S6 fun s7 J7 => ⟨_, _, J7, q6⟩
          | ret u =>
            obtain ⟨v6, σ6, H6, S6, r6, q6⟩ := hsp
            exact fin S6 fun s7 J7 => ⟨_, _, _, J7, r6, q6⟩
    | false =>
      show wpAny _ X.A (handleBy (.ref a) X.env []) _ _ _
      refine wpAny_handleBy_nil ?_
      obtain ⟨k1, k2, k3, oe, vs, T, oT, ts', he, hz, hd, h1, hr⟩ := id fl3
      unfold PySem.passOn
      refine wpAny_bind (wpAny_field he hd h1 ?_)
      rw [if_neg (show ¬ ((Value.ref T == Value.none) = true) from by simp)]
      have on : wpAny (model X.prog X.w) X.A (setFlight (.ref a) X.env.frame) (fun _ s4 => wpAny (model X.prog X.w) X.A (throw (.ref a) : Sem Flow) (SP X pins U) X.xe s4) X.xe { s' with heap := h3 } := by
        rw [hf]
        refine HandSPX.setFlight_upZ fl3 fun h4 hh4 up4 => wpAny_throw (tk _ _ ?_)
        exact ⟨a, B, sI, pins, σ1, H1, cls, dd, rfl, J, nb, (up.trans up3).trans up4, .inr (.inr (by rw [hs]; exact hh4)), na, os, ag, hno rfl⟩
      first
        | exact wpAny_bind (wpAny_pure (wpAny_bind on))
        | exact wpAny_bind on
  refine wpAny_mono ((hb _ (X.pn ++ pins) xe2 caught PassesOwn.looking).run [] s σ H U (I.toTry _) h) (fun fl s1 hsp => ?_) (fun e s1 he => he)
  cases fl with
  | next =>
    obtain ⟨σ1, H1, J1, q⟩ := hsp
    exact wpAny_execs_nil ⟨σ1, H1, J1.ofTry ok, q⟩
  | brk =>
    obtain ⟨σ1, H1, J1, q⟩ := hsp
    exact ⟨σ1, H1, J1.ofTry ok, q⟩
  | cont =>
    obtain ⟨σ1, H1, J1, q⟩ := hsp
    exact ⟨σ1, H1, J1.ofTry ok, q⟩
  | ret u =>
    obtain ⟨v, σ1, H1, J1, r, q⟩ := hsp
    exact ⟨v, σ1, H1, J1.ofTry ok, r, q⟩
end

/-- try: F / except (a class that takes c where m c) [as the slot i]: G -/
def sTry (m : Nat → Option Bool) (i : Option Nat) (F G : DenS) : DenS := fun e S => match F e S with
  | .err c v e1 S1 => (match m c with
    | some true => (match G (putO i (some (.exc c v)) e1) S1 with
      | .next e2 S2 => .next (putO i none e2) S2
      | .brk e2 S2 => .brk (putO i none e2) S2
      | .cont e2 S2 => .cont (putO i none e2) S2
      | .ret d S2 => .ret d S2
      | _ => .bad)
    | some false => .err c v e1 S1
    | none => .bad)
  | r => r
section
variable {K : PySem.W.Frag} {ca : Nat → Addr}
theorem Sim.unset {w : Wd} {env : Env} {σ : St} (h : Sim K ca w env σ) (i : Nat) : Sim K ca w (env.set i none) (σ.set i none) := by
  refine ⟨by simp [h.1], fun j x q => ?_⟩
  by_cases hj : i = j
  · subst hj
    by_cases hl : i < env.length
    · rw [List.getElem?_set_self hl] at q; cases q
    · rw [List.getElem?_eq_none (by simpa using hl)] at q; cases q
  · rw [List.getElem?_set_ne hj] at q
    obtain ⟨u, a, b⟩ := h.2 j x q
    exact ⟨u, by rw [List.getElem?_set_ne hj]; exact a, b⟩
end
section
variable {X : Cx} {ca : Nat → Addr} {W : WX} {x : Str} {c : Value} {body suite : List Stmt} {b₀ : Stmt} {np pos pos' : Pos} {F G : DenS}
theorem s_try {nm : Option Str} {i : Option Nat} {m : Nat → Option Bool} (hm : ∀ k b, m k = some b → PySem.W.exmOne X.K (.ref (ca k)) c = some b) (hex : X.ex = []) (hs : X.stack = X.env :: X.outer) (hf : X.env.frame = some X.env.locals) (hN : X.N.Nodup)
    (hn : match nm, i with | some n, some i => X.N[i]? = some n ∧ X.env.kindOf n = some .local | none, none => True | _, _ => False) (hc : Names X x c) (tk : Takes X W)
    (hb : ∀ (W : WX) (pn : List (Addr × Obj)) (xe : Value → Shared → Prop), Takes (X.tr pn xe) W → PassesOwn (model X.prog X.w) X.A X.env xe → PSs (X.tr pn xe) body (tS X.K ca W F))
    (hsu : ∀ (a : Addr) (pn : List (Addr × Obj)), PSs (X.suite a pn) (b₀ :: suite) (tS X.K ca (fun _ _ _ _ => False) G)) :
    PS X (.Try body [.ExceptHandler (some (.Name x np)) nm (b₀ :: suite) pos'] [] [] pos) (tS X.K ca W (sTry m i F G)) :=
  PS.imp (ps_try_trk (i := i) (Wout := W) hex hs hf hN hn hc tk (fun W pn xe => hb W pn xe) hsu) fun U σ H ⟨w, env, e, s, mm, h⟩ => by
    refine ⟨w, env, e, s, mm, ?_⟩
    unfold sTry at h
    cases q : F env w.S with
    | next e1 S1 => rw [q] at h; exact h
    | brk e1 S1 => rw [q] at h; exact h
    | cont e1 S1 => rw [q] at h; exact h
    | ret d S1 => rw [q] at h; exact h
    | bad => rw [q] at h; exact h
    | err k v e1 S1 =>
      rw [q] at h
      dsimp only at h
      intro w1 hS x1 s1 σ1 cls dd m1 ex
      subst hS
      obtain ⟨rfl, d, vv, rfl, hd, nM, rv⟩ := ex
      cases hmk : m k with
      | none => rw [hmk] at h; exact h.elim
      | some b =>
        rw [hmk] at h
        refine ⟨b, hm k b hmk, fun hb => ⟨ca k, d, rfl, rfl, fun a ha => ?_⟩, fun hb => ?_⟩
        · subst hb
          dsimp only at h
          have x2 := Ext.alloc (w := w1) (o := exk a (ca k) d) ha
          have s2 := s1.alloc (X := X) (o := exk a (ca k) d) ha
          have re : Rep X.K ca ⟨upd w1.H a (exk a (ca k) d), w1.ρ, w1.S⟩ (.ref a) (.exc k v) := by
            refine .exc (d := d) upd_same (x2.keep _ _ hd nM) ?_ (x2.notM hd nM) (rv.mono x2 s1)
            exact fun z => s1.notM0 ha z
          have ha0 : ∀ (i : Option Nat), Sim X.K ca ⟨upd w1.H a (exk a (ca k) d), w1.ρ, w1.S⟩ (putO i (some (.exc k v)) e1) (putO i (some (.ref a)) σ1) := fun i => by
            cases i with
            | none => exact m1.mono x2 s1
            | some i => exact (m1.mono x2 s1).set i re
          refine ⟨_, _, rfl, s2, ha0 i, ?_⟩
          have fin : ∀ {e2 : Env} {σ2 : St} {w2 : Wd}, Sim X.K ca w2 e2 σ2 → Sim X.K ca w2 (putO i none e2) (putO i none σ2) := fun {e2 σ2 w2} z => by
            cases i with
            | none => exact z
            | some i => exact z.unset i
          cases zg : G (putO i (some (.exc k v)) e1) w1.S with
          | next e2 S2 =>
            rw [zg] at h
            intro w3 hS x3 s3 σ3 m3
            exact h w3 hS (x1.trans (x2.trans x3)) s3 _ (fin m3)
          | brk e2 S2 =>
            rw [zg] at h
            intro w3 hS x3 s3 σ3 m3
            exact h w3 hS (x1.trans (x2.trans x3)) s3 _ (fin m3)
          | cont e2 S2 =>
            rw [zg] at h
            intro w3 hS x3 s3 σ3 m3
            exact h w3 hS (x1.trans (x2.trans x3)) s3 _ (fin m3)
          | ret d2 S2 =>
            rw [zg] at h
            intro w3 hS x3 s3 v3 r3
            exact h w3 hS (x1.trans (x2.trans x3)) s3 _ r3
          | err c2 v2 e2 S2 => rw [zg] at h; exact h.elim
          | bad => rw [zg] at h; exact h.elim
        · subst hb
          exact h w1 rfl x1 s1 σ1 _ _ m1 ⟨rfl, d, vv, rfl, hd, nM, rv⟩
end

/-! ### raise C(e), C's own __init__ that of the base of all: ValueError.__init__(self, value); self.value = value -/
def spInit (K : PySem.W.Frag) : Sp := fun vs H Q _ => ∃ (a C : Addr) (v : V), vs = [.ref a, v] ∧ OexC K C ∧ H a = some (exo a C none) ∧ PySem.W.findIn K (.ref C) "value" = some none ∧
  ∀ d, H d = none → d ≠ a → Q .non (upd (upd H d (exd d [("value", v)])) a (exo a C (some d)))
/-- what the written part says of a class of errors; fI: where its __init__ stands -/
structure ExcT (K : PySem.W.Frag) (C fI : Addr) : Prop where
  oex : OexC K C
  init : PySem.W.findIn K (.ref C) "__init__" = some (some (.ref fI))
  noval : PySem.W.findIn K (.ref C) "value" = some none
section
variable {X : Cx} {ca : Nat → Addr} {W : WX} {x : Str} {p pos pos2 : Pos} {f : Den} {a : Expr}
theorem s_raise {c k : Nat} {fI : Addr} {fd : FuncData} {ps : List Str} (hc : X.calm = true) (tk : Takes X W) (T : ExcT X.K (ca c) fI) (tI : PySem.W.typeIn X.K (.ref fI) = some (.type "function")) (F1 : FnOk X.prog X.w X.K X.mg X.base (L2.CX X.prog X.w) k fI fd ps (spInit X.K))
    (hr : Room (k + 1) X.A) (hb : Binds X.K fd ps []) (hg : Gl X x) (hm : X.mg x = some (.ref (ca c))) (ha : PE X a (tE X.K ca W f)) (hdb : (x == ("__debug__" : Str)) = false := by decide)
    (he : starEach (a :: []) X.env = (false, eval a X.env) :: starEach [] X.env := by rfl) (hpl : (backTo pos (starEach [] X.env)).any (·.1) = false := by rfl) :
    PS X (.Raise (some (.Call (.Name x p) [a] [] pos)) none pos2) (tS X.K ca W (sRaise c f)) :=
  PS.imp (ps_raise hc tk (pmk_oex T.oex T.init tI F1 hr hb .nil passL hg hm (pa_cons ha pa_nil he) hdb he hpl)) fun U σ H ⟨w, env, e, s, m, h⟩ =>
    tE_then (k := fun d S1 => RS.err c d env S1) e s m h fun w1 d v s1 m1 r x1 q => by
      refine ⟨(by show 1 ≤ 1000; decide), fun a ha => ?_⟩
      refine ⟨a, ca c, v, rfl, T.oex, upd_same, T.noval, fun d0 hd0 hne => ?_⟩
      rw [upd_ne hne] at hd0
      refine ⟨rfl, d0, [("value", v)], upd_same, ?_, hd0, ?_⟩
      · rw [upd_ne hne]; exact upd_same
      · have eH : upd (del (upd (upd (upd w1.H a (exo a (ca c) none)) d0 (exd d0 [("value", v)])) a (exo a (ca c) (some d0))) a) d0 (.xd [("value", v)]) = upd w1.H d0 (.xd [("value", v)]) := by
          funext b
          by_cases hb : b = d0
          · subst hb; rw [upd_same, upd_same]
          · rw [upd_ne hb, upd_ne hb]
            by_cases hba : b = a
            · subst hba; rw [del_same, ha]
            · rw [del_ne hba, upd_ne hba, upd_ne hb, upd_ne hba]
        rw [eH]
        have x2 := Ext.alloc (w := w1) (o := .xd [("value", v)]) hd0
        have s2 := s1.alloc (X := X) (o := .xd [("value", v)]) hd0
        exact q ⟨upd w1.H d0 (.xd [("value", v)]), w1.ρ, w1.S⟩ rfl x2 s2 σ _ _ (m1.mono x2 s1) ⟨rfl, d0, v, rfl, upd_same, fun z => s1.notM0 hd0 z, r.mono x2 s1⟩
end

/-! ### the base's __init__ keeps its promise -/
theorem init_ok {P : Program} {w : World} {K : PySem.W.Frag} {mg : Str → Option Value} {base : Heap} {qual : Str} {params : Arguments} {scope : Scope} {kws : List (Str × V)} {f : Addr} {fd : FuncData} {p1 p2 p3 p4 p5 p6 p7 p8 p9 p10 : Pos}
    (Fd : FunD K "__init__" qual params [.Expr (.Call (.Attribute (.Name "ValueError" p1) "__init__" p2) [.Name "self" p3, .Name "value" p4] [] p5) p6, .Assign [.Attribute (.Name "self" p7) "value" p8] (.Name "value" p9) p10] scope [] kws f fd)
    (S : FnScope ["self", "value"] ["self", "value"] scope) (hn1 : scope.names.lookup ("self" : Str) = some .local) (hn2 : scope.names.lookup ("value" : Str) = some .local) (hg : ∀ env : PySem.Env, env.scope = scope → env.kindOf "ValueError" = some .globalImplicit)
    (hc : ∀ env : PySem.Env, ∃ pl, eval (.Call (.Attribute (.Name "ValueError" p1) "__init__" p2) [.Name "self" p3, .Name "value" p4] [] p5) env = (do
      let ov ← eval (.Name "ValueError" p1) env
      standAt p2.atName
      let (f, first) ← holding [ov] (getMethod ov "__init__" pl)
      callWith p5 f first (backTo p5 (starEach [.Name "self" p3, .Name "value" p4] env)) (backToKw p5 (keywordEach [] env))))
    (hm : mg "ValueError" = none) (vV : PySem.W.findCls K (.type "ValueError") (.type "type") "__init__" = some (.val (.builtin "ValueError.__init__"))) :
    FnOk P w K mg base (L2.CX P w) 1 f fd ["self", "value"] (spInit K) := by
  refine Fd.ok S (fun vs H Q E h => ?_) (fun cdv A outer s H vs Q E hr h => ?_)
  · obtain ⟨a, C, v, rfl, _⟩ := h
    rfl
  · have v0 : ∀ {pp : Pos}, PE (cxOf (L2.CX P w) P w K mg base ["self", "value"] qual scope f cdv A outer s H E) (.Name "self" pp) (tVar 0) := fun {pp} => pe_var rfl (.inl hn1)
    have v1 : ∀ {pp : Pos}, PE (cxOf (L2.CX P w) P w K mg base ["self", "value"] qual scope f cdv A outer s H E) (.Name "value" pp) (tVar 1) := fun {pp} => pe_var rfl (.inl hn2)
    obtain ⟨pl, hc⟩ := hc (cxOf (L2.CX P w) P w K mg base ["self", "value"] qual scope f cdv A outer s H E).env
    refine ⟨_, pss_cons (ps_expr (pe_veinit (pl := pl) (hg _ rfl) hm vV (pa_cons v0 (pa_cons v1 pa_nil)) hc)) (pss_one (ps_ost v0 v1)), ?_⟩
    obtain ⟨a, C, v, rfl, T, ha, hv, q⟩ := h
    refine ⟨_, rfl, _, rfl, a, C, [v], rfl, (by show 1 ≤ 1000; decide), T, ha, ?_⟩
    exact ⟨_, rfl, _, rfl, a, C, rfl, T, hv, .inl ⟨ha, fun dx h1 h2 => q dx h1 h2⟩⟩
end Py

set_option maxHeartbeats 4000000
/-! PyF: built-in functions, places, slices, what changes lists. -/
namespace Py
open PySem PySem.Spec PyProof.Rows L2

section
variable {X : Cx} {ca : Nat → Addr} {W : WX} {pos p : Pos} {f g h : Den} {gs hs : Dens} {a b e : Expr} {es : List Expr}

/-! ### calls of built-in functions -/
theorem fn_imp {o : OpN} (n : MuteN o) {σ : St} {H : Hp} {Q : VK} (h : tE X.K ca W (eFn o gs) σ H Q) : tCB (rON X.K ca o) (tEs X.K ca W gs) σ H Q := by
  obtain ⟨w, env, e, s, m, h⟩ := h
  refine tEs_bind (Qb := fun w => QV X.K ca w Q) e s m h (fun e q => QV.later e q) fun w1 ds vs s1 m1 r e1 h1 => ?_
  exact ⟨w1, ds, rfl, s1, r, h1.noErr (n _ _)⟩
theorem e_fnB {o : OpN} {id : String} {x : Str} (hc : CallR X (.builtin id) (rON X.K ca o)) (n : MuteN o) (hg : Gl X x) (hm : X.mg x = none) (hv : bootBuiltins x = some (.builtin id)) (ha : PA X (e :: es) (tEs X.K ca W gs)) (hn : x ≠ "__name__" := by decide) (hdb : (x == ("__debug__" : Str)) = false := by decide)
    (he : starEach (e :: es) X.env = (false, eval e X.env) :: starEach es X.env := by rfl) (hpl : (backTo pos (starEach es X.env)).any (·.1) = false := by rfl) : PE X (.Call (.Name x p) (e :: es) [] pos) (tE X.K ca W (eFn o gs)) :=
  PE.imp (pe_callB hc hg hm hv ha hn hdb he hpl) fun _ _ _ h => fn_imp n h
theorem e_fnT {o : OpN} {T : String} {x : Str} (hc : CallR X (.type T) (rON X.K ca o)) (n : MuteN o) (hg : Gl X x) (hm : X.mg x = none) (hv : bootBuiltins x = some (.type T)) (ha : PA X (e :: es) (tEs X.K ca W gs)) (hn : x ≠ "__name__" := by decide) (hdb : (x == ("__debug__" : Str)) = false := by decide)
    (he : starEach (e :: es) X.env = (false, eval e X.env) :: starEach es X.env := by rfl) (hpl : (backTo pos (starEach es X.env)).any (·.1) = false := by rfl) : PE X (.Call (.Name x p) (e :: es) [] pos) (tE X.K ca W (eFn o gs)) :=
  PE.imp (pe_callTy hc hg hm hv ha hn hdb he hpl) fun _ _ _ h => fn_imp n h
theorem e_fnM {o : OpN} {id : String} {x : Str} (hc : CallR X (.builtin id) (rON X.K ca o)) (n : MuteN o) (hg : Gl X x) (hm : X.mg x = some (.builtin id)) (ha : PA X (e :: es) (tEs X.K ca W gs)) (hdb : (x == ("__debug__" : Str)) = false := by decide)
    (he : starEach (e :: es) X.env = (false, eval e X.env) :: starEach es X.env := by rfl) (hpl : (backTo pos (starEach es X.env)).any (·.1) = false := by rfl) : PE X (.Call (.Name x p) (e :: es) [] pos) (tE X.K ca W (eFn o gs)) :=
  PE.imp (pe_callBfun hc hg hm ha hdb he hpl) fun _ _ _ h => fn_imp n h
end
/-- a built-in function that gives a fresh list -/
abbrev OpF := List D → Store → R (List D)
def dFn (o : OpF) (g : Dens) : Dens := fun e S => (g e S).bind fun as S1 => o as S1
def MuteF (o : OpF) : Prop := ∀ a S c v S', o a S ≠ .err c v S'
def rOF (K : PySem.W.Frag) (ca : Nat → Addr) (o : OpF) : List V → Hp → VK → Prop := fun xs H Q => ∃ w ds, w.H = H ∧ SOk K ca w ∧ RepL K ca w xs ds ∧ Sat (o ds w.S) (QF K ca w Q) fun _ _ _ => False
section
variable {X : Cx} {ca : Nat → Addr} {W : WX} {pos p : Pos} {f g h : Den} {gs hs : Dens} {a b e : Expr} {es : List Expr}
theorem fF_imp {o : OpF} (n : MuteF o) {σ : St} {H : Hp} {Q : VK} (h : tF X.K ca W (dFn o gs) σ H Q) : tCB (rOF X.K ca o) (tEs X.K ca W gs) σ H Q := by
  obtain ⟨w, env, e, s, m, h⟩ := h
  refine tEs_bind (Qb := fun w => QF X.K ca w Q) e s m h (fun e q => QF.later e q) fun w1 ds vs s1 m1 r e1 h1 => ?_
  exact ⟨w1, ds, rfl, s1, r, h1.noErr (n _ _)⟩
theorem f_fnT {o : OpF} {T : String} {x : Str} (hc : CallR X (.type T) (rOF X.K ca o)) (n : MuteF o) (hg : Gl X x) (hm : X.mg x = none) (hv : bootBuiltins x = some (.type T)) (ha : PA X (e :: es) (tEs X.K ca W gs)) (hn : x ≠ "__name__" := by decide) (hdb : (x == ("__debug__" : Str)) = false := by decide)
    (he : starEach (e :: es) X.env = (false, eval e X.env) :: starEach es X.env := by rfl) (hpl : (backTo pos (starEach es X.env)).any (·.1) = false := by rfl) : PE X (.Call (.Name x p) (e :: es) [] pos) (tF X.K ca W (dFn o gs)) :=
  PE.imp (pe_callTy hc hg hm hv ha hn hdb he hpl) fun _ _ _ h => fF_imp n h
theorem f_fnB {o : OpF} {id : String} {x : Str} (hc : CallR X (.builtin id) (rOF X.K ca o)) (n : MuteF o) (hg : Gl X x) (hm : X.mg x = none) (hv : bootBuiltins x = some (.builtin id)) (ha : PA X (e :: es) (tEs X.K ca W gs)) (hn : x ≠ "__name__" := by decide) (hdb : (x == ("__debug__" : Str)) = false := by decide)
    (he : starEach (e :: es) X.env = (false, eval e X.env) :: starEach es X.env := by rfl) (hpl : (backTo pos (starEach es X.env)).any (·.1) = false := by rfl) : PE X (.Call (.Name x p) (e :: es) [] pos) (tF X.K ca W (dFn o gs)) :=
  PE.imp (pe_callB hc hg hm hv ha hn hdb he hpl) fun _ _ _ h => fF_imp n h

theorem callImp {v : Value} {r r' : List V → Hp → VK → Prop} (hc : CallR X v r) (h : ∀ xs H Q, r' xs H Q → r xs H Q) : CallR X v r' := fun pins s σ H xs us Q I k q => hc pins s σ H xs us Q I k (h xs H Q q)
theorem opImp {f : Value → Value → Sem Value} {r r' : R2} (hc : OpR X f r) (h : ∀ x y H Q, r' x y H Q → r x y H Q) : OpR X f r' := fun pins s σ H x y v u Q I k l q => hc pins s σ H x y v u Q I k l (h x y H Q q)

theorem asL_rep {w : Wd} {v : V} {d : D} {xs : List D} (s : SOk X.K ca w) (r : Rep X.K ca w v d) (h : asL d w.S = some xs) : ∃ a vs, v = .ref a ∧ w.H a = some (.lst vs) ∧ RepL X.K ca w vs xs := by
  cases r with
  | lst h1 n r =>
    cases h
    exact ⟨_, _, rfl, h1, r⟩
  | @ref n hn =>
    unfold asL at h
    dsimp only at h
    cases q : w.S[n]? with
    | none => rw [q] at h; cases h
    | some o =>
      cases o with
      | dead => rw [q] at h; cases h
      | lst ys =>
        rw [q] at h
        cases h
        obtain ⟨vs, e, r⟩ := s.live n _ q
        exact ⟨_, vs, rfl, e, r⟩
  | _ => cases h
theorem asSq_rep {w : Wd} {v : V} {d : D} {xs : List D} (s : SOk X.K ca w) (r : Rep X.K ca w v d) (h : asSq d w.S = some xs) : ∃ a vs, v = .ref a ∧ (SqL X.K w.H a vs ∨ SqT X.K w.H a vs) ∧ RepL X.K ca w vs xs := by
  have key : asL d w.S = some xs → ∃ a vs, v = .ref a ∧ (SqL X.K w.H a vs ∨ SqT X.K w.H a vs) ∧ RepL X.K ca w vs xs := fun h => by
    obtain ⟨a, vs, e, q, r⟩ := asL_rep s r h
    exact ⟨a, vs, e, .inl (.inl (.inl q)), r⟩
  cases r with
  | tup h1 r =>
    cases h
    exact ⟨_, _, rfl, .inr h1, r⟩
  | @fls a is hq =>
    cases h
    exact ⟨a, _, rfl, .inl (fls_sq hq), repL_ints is⟩
  | _ => exact key h

/-! ### len, int, abs, max, min, gcd -/
end
def oLen : OpN := fun ds S => match ds with
  | [.str x] => if x.length ≤ sizeLine then .ok (.int x.length) S else .bad
  | [d] => (match asSq d S with | some xs => .ok (.int xs.length) S | none => .bad)
  | _ => .bad
def oInt : OpN := fun ds S => match ds with
  | [.int i] => .ok (.int i) S
  | [.bl b] => .ok (.int (b2i b)) S
  | _ => .bad
def oAbs : OpN := fun ds S => match ds with
  | [.int i] => .ok (.int i.natAbs) S
  | _ => .bad
def oMax2 : OpN := fun ds S => match ds with
  | [.int i, .int j] => .ok (.int (max i j)) S
  | _ => .bad
def oMin2 : OpN := fun ds S => match ds with
  | [.int i, .int j] => .ok (.int (min i j)) S
  | _ => .bad
def oGcd : OpN := fun ds S => match ds with
  | [.int i, .int j] => .ok (.int (Nat.gcd i.natAbs j.natAbs : Nat)) S
  | _ => .bad
def oTuple : OpN := fun ds S => match ds with
  | [.tup xs] => .ok (.tup xs) S
  | [d] => (match asL d S with | some xs => .ok (.tup xs) S | none => .bad)
  | _ => .bad
def oList : OpF := fun ds S => match ds with
  | [d] => (match asSq d S with | some xs => .ok xs S | none => .bad)
  | _ => .bad
def isInts : List D → Option (List Int)
  | [] => some []
  | .int i :: ds => (isInts ds).map (i :: ·)
  | _ => none
def isBls : List D → Option (List Bool)
  | [] => some []
  | .bl i :: ds => (isBls ds).map (i :: ·)
  | _ => none
/-- of one list -/
def lst1 {α β : Type} (isA : List D → Option (List α)) (k : List α → R β) (ds : List D) (S : Store) : R β := match ds with
  | [d] => (match (asL d S).bind isA with | some ns => k ns | none => .bad)
  | _ => .bad
def oSum : OpN := fun ds S => lst1 isInts (fun ns => .ok (.int ns.sum) S) ds S
def oAll : OpN := fun ds S => lst1 isBls (fun bs => .ok (.bl (bs.all id)) S) ds S
def oAny : OpN := fun ds S => lst1 isBls (fun bs => .ok (.bl (bs.any id)) S) ds S
def maxI : List Int → Int
  | [] => 0 | [x] => x | x :: xs => max x (maxI xs)
def minI : List Int → Int
  | [] => 0 | [x] => x | x :: xs => min x (minI xs)
def ne1 (k : List Int → R D) (ns : List Int) : R D := match ns with | [] => .bad | n :: ns => k (n :: ns)
def oMaxL : OpN := fun ds S => lst1 isInts (ne1 fun ns => .ok (.int (maxI ns)) S) ds S
def oMinL : OpN := fun ds S => lst1 isInts (ne1 fun ns => .ok (.int (minI ns)) S) ds S
theorem maxI_ok : ∀ {xs : List Int}, xs ≠ [] → maxI xs ∈ xs ∧ ∀ y ∈ xs, y ≤ maxI xs
  | [], h => absurd rfl h
  | [x], _ => by simp [maxI]
  | x :: y :: ys, _ => by
    have ih := maxI_ok (xs := y :: ys) (by simp)
    have e : maxI (x :: y :: ys) = max x (maxI (y :: ys)) := rfl
    rw [e]
    refine ⟨?_, fun z hz => ?_⟩
    · rcases Int.le_total x (maxI (y :: ys)) with l | l
      · rw [Int.max_eq_right l]; exact List.mem_cons_of_mem _ ih.1
      · rw [Int.max_eq_left l]; exact List.mem_cons_self
    · rcases List.mem_cons.mp hz with rfl | hz
      · exact Int.le_max_left _ _
      · exact Int.le_trans (ih.2 z hz) (Int.le_max_right _ _)
theorem minI_ok : ∀ {xs : List Int}, xs ≠ [] → minI xs ∈ xs ∧ ∀ y ∈ xs, minI xs ≤ y
  | [], h => absurd rfl h
  | [x], _ => by simp [minI]
  | x :: y :: ys, _ => by
    have ih := minI_ok (xs := y :: ys) (by simp)
    have e : minI (x :: y :: ys) = min x (minI (y :: ys)) := rfl
    rw [e]
    refine ⟨?_, fun z hz => ?_⟩
    · rcases Int.le_total x (minI (y :: ys)) with l | l
      · rw [Int.min_eq_left l]; exact List.mem_cons_self
      · rw [Int.min_eq_right l]; exact List.mem_cons_of_mem _ ih.1
    · rcases List.mem_cons.mp hz with rfl | hz
      · exact Int.min_le_left _ _
      · exact Int.le_trans (Int.min_le_right _ _) (ih.2 z hz)
section
variable {X : Cx} {ca : Nat → Addr}
theorem isInts_rep {w : Wd} : ∀ {vs : List V} {ds : List D} {ns : List Int}, RepL X.K ca w vs ds → isInts ds = some ns → vs = ns.map V.int
  | _, _, ns, .nil, h => by cases h; rfl
  | _, _, ns, .cons (d := d) (ds := ds) r t, h => by
    cases r <;> first | (cases h; done) | skip
    unfold isInts at h
    cases q : isInts ds with
    | none => rw [q] at h; cases h
    | some ms =>
      rw [q] at h
      cases h
      rw [isInts_rep t q]
      rfl
theorem isBls_rep {w : Wd} : ∀ {vs : List V} {ds : List D} {ns : List Bool}, RepL X.K ca w vs ds → isBls ds = some ns → vs = ns.map V.bl
  | _, _, ns, .nil, h => by cases h; rfl
  | _, _, ns, .cons (d := d) (ds := ds) r t, h => by
    cases r <;> first | (cases h; done) | skip
    unfold isBls at h
    cases q : isBls ds with
    | none => rw [q] at h; cases h
    | some ms =>
      rw [q] at h
      cases h
      rw [isBls_rep t q]
      rfl
theorem n_len : MuteN oLen := by
  intro a S c v S' h; revert h; unfold oLen; split <;> (try split) <;> simp
theorem n_int : MuteN oInt := by intro a S c v S' h; revert h; unfold oInt; split <;> simp
theorem n_abs : MuteN oAbs := by intro a S c v S' h; revert h; unfold oAbs; split <;> simp
theorem n_max2 : MuteN oMax2 := by intro a S c v S' h; revert h; unfold oMax2; split <;> simp
theorem n_min2 : MuteN oMin2 := by intro a S c v S' h; revert h; unfold oMin2; split <;> simp
theorem n_gcd : MuteN oGcd := by intro a S c v S' h; revert h; unfold oGcd; split <;> simp
theorem n_tuple : MuteN oTuple := by intro a S c v S' h; revert h; unfold oTuple; split <;> (try split) <;> simp
theorem n_list : MuteF oList := by intro a S c v S' h; revert h; unfold oList; split <;> (try split) <;> simp
theorem lst1_mute {α : Type} {isA : List D → Option (List α)} {k : List α → R D} {ds : List D} {S : Store} {c : Nat} {v : D} {S' : Store} (hk : ∀ ns, k ns ≠ .err c v S') : lst1 isA k ds S ≠ .err c v S' := by
  unfold lst1
  split
  · split
    · exact hk _
    · simp
  · simp
theorem n_sum : MuteN oSum := fun a S c v S' => lst1_mute (by simp)
theorem n_all : MuteN oAll := fun a S c v S' => lst1_mute (by simp)
theorem n_any : MuteN oAny := fun a S c v S' => lst1_mute (by simp)
theorem n_maxL : MuteN oMaxL := fun a S c v S' => lst1_mute fun ns => by cases ns <;> simp [ne1]
theorem n_minL : MuteN oMinL := fun a S c v S' => lst1_mute fun ns => by cases ns <;> simp [ne1]
theorem c_len : CallR X (.builtin "len") (rON X.K ca oLen) := callImp call_len fun xs H Q h => by
  obtain ⟨w, ds, e, s, r, h⟩ := h
  subst e
  have sq : ∀ {d : D} {v : V}, Rep X.K ca w v d → Sat (match asSq d w.S with | some xs => Py.R.ok (.int xs.length) w.S | none => .bad) (QV X.K ca w Q) (fun _ _ _ => False) → ∃ x n, [v] = [x] ∧ LenV X.K x w.H n ∧ Q (.int n) w.H := fun {d v} r h => by
    cases q : asSq d w.S with
    | none => rw [q] at h; exact h.elim
    | some ys =>
      rw [q] at h
      obtain ⟨a, vs, e, q1, r1⟩ := asSq_rep s r q
      subst e
      refine ⟨.ref a, ys.length, rfl, ?_, sat_here s h (.int _)⟩
      rcases q1 with q1 | q1
      · exact .inl ⟨vs, q1, r1.length.symm⟩
      · exact .inr ⟨vs, q1, r1.length.symm⟩
  unfold oLen at h
  cases r with
  | nil => exact h.elim
  | cons r t =>
    cases t with
    | cons _ _ => cases r <;> exact h.elim
    | nil =>
      cases r with
      | str x =>
        dsimp only at h
        by_cases hl : x.length ≤ sizeLine
        · rw [if_pos hl] at h
          exact ⟨.str x, x.length, rfl, ⟨hl, rfl⟩, sat_here s h (.int _)⟩
        · rw [if_neg hl] at h
          exact h.elim
      | non => exact sq .non h
      | bl b => exact sq (.bl b) h
      | int i => exact sq (.int i) h
      | tup a b => exact sq (.tup a b) h
      | lst a b c => exact sq (.lst a b c) h
      | ref a => exact sq (.ref a) h
      | fls a => exact sq (.fls a) h
      | dct a b c d => exact sq (.dct a b c d) h
      | exc a b c d e => exact sq (.exc a b c d e) h
theorem c_int : CallR X (.type "int") (rON X.K ca oInt) := callImp call_int1 fun xs H Q h => by
  obtain ⟨w, ds, e, s, r, h⟩ := h
  subst e
  unfold oInt at h
  cases r with
  | nil => exact h.elim
  | cons r t =>
    cases t with
    | cons _ _ => cases r <;> exact h.elim
    | nil =>
      cases r with
      | int i => exact .inl ⟨i, rfl, sat_here s h (.int _)⟩
      | bl b => exact .inr ⟨b, rfl, by have := sat_here s h (.int _); cases b <;> exact this⟩
      | _ => exact h.elim
theorem c_abs : CallR X (.builtin "abs") (rON X.K ca oAbs) := callImp call_abs fun xs H Q h => by
  obtain ⟨w, ds, e, s, r, h⟩ := h
  subst e
  unfold oAbs at h
  cases r with
  | nil => exact h.elim
  | cons r t =>
    cases t with
    | cons _ _ => cases r <;> exact h.elim
    | nil =>
      cases r with
      | int i =>
        refine ⟨i, rfl, ?_⟩
        have e : (if i < 0 then -i else i) = ((i.natAbs : Nat) : Int) := by split <;> omega
        rw [e]
        exact sat_here s h (.int _)
      | _ => exact h.elim
theorem two_ints {w : Wd} {xs : List V} {ds : List D} {o : OpN} {k : Int → Int → Int} (ho : ∀ ds S, o ds S = match ds with | [.int i, .int j] => .ok (.int (k i j)) S | _ => .bad) {Q : VK} (s : SOk X.K ca w) (r : RepL X.K ca w xs ds) (h : Sat (o ds w.S) (QV X.K ca w Q) fun _ _ _ => False) :
    ∃ i j, xs = [.int i, .int j] ∧ Q (.int (k i j)) w.H := by
  rw [ho] at h
  cases r with
  | nil => exact h.elim
  | cons r t =>
    cases t with
    | nil => cases r <;> exact h.elim
    | cons r2 t2 =>
      cases t2 with
      | cons _ _ => cases r <;> cases r2 <;> exact h.elim
      | nil =>
        cases r with
        | int i =>
          cases r2 with
          | int j => exact ⟨i, j, rfl, sat_here s h (.int _)⟩
          | _ => exact h.elim
        | _ => exact h.elim
theorem c_max2 (hc : X.calm = true) : CallR X (.builtin "max") (rON X.K ca oMax2) := callImp (call_max2 hc) fun xs H Q h => by
  obtain ⟨w, ds, e, s, r, h⟩ := h
  subst e
  obtain ⟨i, j, e, q⟩ := two_ints (k := fun i j => max i j) (fun ds S => rfl) s r h
  refine ⟨i, j, e, ?_⟩
  have e : (if j > i then j else i) = max i j := by split <;> omega
  rw [e]; exact q
theorem c_min2 (hc : X.calm = true) : CallR X (.builtin "min") (rON X.K ca oMin2) := callImp (call_min2 hc) fun xs H Q h => by
  obtain ⟨w, ds, e, s, r, h⟩ := h
  subst e
  obtain ⟨i, j, e, q⟩ := two_ints (k := fun i j => min i j) (fun ds S => rfl) s r h
  refine ⟨i, j, e, ?_⟩
  have e : (if j < i then j else i) = min i j := by split <;> omega
  rw [e]; exact q
theorem c_gcd : CallR X (.builtin "math.gcd") (rON X.K ca oGcd) := callImp cr_gcd fun xs H Q h => by
  obtain ⟨w, ds, e, s, r, h⟩ := h
  subst e
  exact two_ints (k := fun i j => ((Nat.gcd i.natAbs j.natAbs : Nat) : Int)) (fun ds S => rfl) s r h
theorem c_tuple : CallR X (.type "tuple") (rON X.K ca oTuple) := callImp call_tuple_of fun xs H Q h => by
  obtain ⟨w, ds, e, s, r, h⟩ := h
  subst e
  have sq : ∀ {d : D} {v : V}, Rep X.K ca w v d → Sat (match asL d w.S with | some xs => Py.R.ok (.tup xs) w.S | none => .bad) (QV X.K ca w Q) (fun _ _ _ => False) →
      ∃ p ys, [v] = [.ref p] ∧ ((SqL X.K w.H p ys ∧ ∀ l, w.H l = none → Q (.ref l) (upd w.H l (.tup ys))) ∨ (SqT X.K w.H p ys ∧ Q (.ref p) w.H)) := fun {d v} r h => by
    cases q : asL d w.S with
    | none => rw [q] at h; exact h.elim
    | some ys =>
      rw [q] at h
      obtain ⟨a, vs, e, q1, r1⟩ := asL_rep s r q
      subst e
      refine ⟨a, vs, rfl, .inl ⟨.inl (.inl q1), fun l hl => ?_⟩⟩
      have x := Ext.alloc (w := w) (o := .tup vs) hl
      exact h ⟨upd w.H l (.tup vs), w.ρ, w.S⟩ rfl x (s.alloc hl) (.ref l) (.tup (.inl (.inl upd_same)) (r1.mono x s))
  unfold oTuple at h
  cases r with
  | nil => exact h.elim
  | cons r t =>
    cases t with
    | cons _ _ => cases r <;> exact h.elim
    | nil =>
      cases r with
      | @tup a vs ds hq ra => exact ⟨a, vs, rfl, .inr ⟨hq, sat_here s h (.tup hq ra)⟩⟩
      | non => exact sq .non h
      | bl b => exact sq (.bl b) h
      | int i => exact sq (.int i) h
      | str x => exact sq (.str x) h
      | lst a b c => exact sq (.lst a b c) h
      | ref a => exact sq (.ref a) h
      | fls a => exact sq (.fls a) h
      | dct a b c d => exact sq (.dct a b c d) h
      | exc a b c d e => exact sq (.exc a b c d e) h
theorem c_list : CallR X (.type "list") (rOF X.K ca oList) := callImp call_list_of fun xs H Q h => by
  obtain ⟨w, ds, e, s, r, h⟩ := h
  subst e
  unfold oList at h
  cases r with
  | nil => exact h.elim
  | @cons v d _ _ r t =>
    cases t with
    | cons _ _ => exact h.elim
    | nil =>
      dsimp only at h
      cases q : asSq d w.S with
      | none => rw [q] at h; exact h.elim
      | some ys =>
        rw [q] at h
        obtain ⟨a, vs, e, q1, r1⟩ := asSq_rep s r q
        subst e
        refine ⟨a, vs, rfl, ?_, fun l hl => h w rfl (.refl w) s vs l r1 hl⟩
        rcases q1 with q1 | q1
        · exact .inl q1
        · exact .inr q1
/-- of a list of ints -/
theorem one_list {w : Wd} {xs : List V} {ds : List D} {Q : VK} {α : Type} {isA : List D → Option (List α)} {mk : α → V} {k : List α → Py.R D}
    (hA : ∀ {vs : List V} {ds : List D} {ns : List α}, RepL X.K ca w vs ds → isA ds = some ns → vs = ns.map mk) (s : SOk X.K ca w) (r : RepL X.K ca w xs ds)
    (h : Sat (lst1 isA k ds w.S) (QV X.K ca w Q) fun _ _ _ => False) :
    ∃ a ns, xs = [V.ref a] ∧ SqL X.K w.H a (ns.map mk) ∧ Sat (k ns) (QV X.K ca w Q) fun _ _ _ => False := by
  unfold lst1 at h
  cases r with
  | nil => exact h.elim
  | @cons v d _ _ r t =>
    cases t with
    | cons _ _ => exact h.elim
    | nil =>
      dsimp only at h
      cases q : asL d w.S with
      | none => rw [q] at h; exact h.elim
      | some ys =>
        rw [q] at h
        obtain ⟨a, vs, e, q1, r1⟩ := asL_rep s r q
        subst e
        cases q2 : isA ys with
        | none => rw [Option.bind_some, q2] at h; exact h.elim
        | some ns =>
          rw [Option.bind_some, q2] at h
          refine ⟨a, ns, rfl, ?_, h⟩
          rw [← hA r1 q2]
          exact .inl (.inl q1)
theorem c_sum (hc : X.calm = true) : CallR X (.builtin "sum") (rON X.K ca oSum) := callImp (cr_sum hc) fun xs H Q h => by
  obtain ⟨w, ds, e, s, r, h⟩ := h
  subst e
  obtain ⟨a, ns, e, q, h⟩ := one_list isInts_rep s r h
  exact ⟨a, ns, e, q, sat_here s h (.int _)⟩
theorem c_all (hc : X.calm = true) : CallR X (.builtin "all") (rON X.K ca oAll) := callImp (cr_all hc) fun xs H Q h => by
  obtain ⟨w, ds, e, s, r, h⟩ := h
  subst e
  obtain ⟨a, ns, e, q, h⟩ := one_list isBls_rep s r h
  exact ⟨a, ns, e, q, sat_here s h (.bl _)⟩
theorem c_any (hc : X.calm = true) : CallR X (.builtin "any") (rON X.K ca oAny) := callImp (cr_any hc) fun xs H Q h => by
  obtain ⟨w, ds, e, s, r, h⟩ := h
  subst e
  obtain ⟨a, ns, e, q, h⟩ := one_list isBls_rep s r h
  exact ⟨a, ns, e, q, sat_here s h (.bl _)⟩
theorem c_maxL (hc : X.calm = true) : CallR X (.builtin "max") (rON X.K ca oMaxL) := callImp (cr_max hc) fun xs H Q h => by
  obtain ⟨w, ds, e, s, r, h⟩ := h
  subst e
  obtain ⟨a, ns, e, q, h⟩ := one_list isInts_rep s r h
  cases ns with
  | nil => exact h.elim
  | cons n ns =>
    have z := maxI_ok (xs := n :: ns) (by simp)
    refine ⟨a, n :: ns, e, q, Nat.succ_pos _, fun m hm hle => ?_⟩
    have e : m = maxI (n :: ns) := Int.le_antisymm (z.2 m hm) (hle _ z.1)
    rw [e]
    exact sat_here s h (.int _)
theorem c_minL (hc : X.calm = true) : CallR X (.builtin "min") (rON X.K ca oMinL) := callImp (cr_min hc) fun xs H Q h => by
  obtain ⟨w, ds, e, s, r, h⟩ := h
  subst e
  obtain ⟨a, ns, e, q, h⟩ := one_list isInts_rep s r h
  cases ns with
  | nil => exact h.elim
  | cons n ns =>
    have z := minI_ok (xs := n :: ns) (by simp)
    refine ⟨a, n :: ns, e, q, Nat.succ_pos _, fun m hm hle => ?_⟩
    have e : m = minI (n :: ns) := Int.le_antisymm (hle _ z.1) (z.2 m hm)
    rw [e]
    exact sat_here s h (.int _)
end
end Py

set_option maxHeartbeats 4000000
/-! PyG: places, slices, what changes lists, keywords, constants of the module. -/
namespace Py
open PySem PySem.Spec PyProof.Rows L2

/-! ### d[i] -/
def oIdx : Op2 := fun a b S => match a, b with
  | .str z, .int i => if z.length ≤ sizeLine then (match atI z.cps.toList i with | some c => .ok (.str ⟨#[c]⟩) S | none => .bad) else .bad
  | d, .int i => (match (asSq d S).bind (atI · i) with | some v => .ok v S | none => .bad)
  | _, _ => .bad
theorem m_idx : Mute2 oIdx := by
  intro a b S c v S' h; revert h; unfold oIdx; split <;> (try split) <;> (try split) <;> simp
section
variable {X : Cx} {ca : Nat → Addr} {W : WX} {pos p : Pos} {f g h : Den} {gs hs : Dens} {a b e : Expr} {es : List Expr} {w : Wd}
theorem RepL.atI : ∀ {vs : List V} {ds : List D} {i : Int} {d : D}, RepL X.K ca w vs ds → L2.atI ds i = some d → ∃ v, L2.atI vs i = some v ∧ Rep X.K ca w v d := fun {vs ds i d} r h => by
  unfold L2.atI at h ⊢
  rw [r.length]
  cases q : ixN ds.length i with
  | none => rw [q] at h; cases h
  | some j =>
    rw [q] at h
    exact r.get h
theorem r_idx : IxR X (rO2 X.K ca oIdx) := by
  intro value slice pins s σ H x y v u Q I rx ry h hs
  refine ix_seq value slice pins s σ H x y v u Q I rx ry ?_ hs
  obtain ⟨w, dx, dy, e, sk, r1, r2, q⟩ := h
  subst e
  unfold oIdx at q
  have sq : ∀ {i : Int}, Rep X.K ca w x dx → y = .int i → Sat (match (asSq dx w.S).bind (L2.atI · i) with | some v => Py.R.ok v w.S | none => .bad) (QV X.K ca w Q) (fun _ _ _ => False) → rIx X.K x y w.H Q := fun {i} r ey h => by
    cases q : asSq dx w.S with
    | none => rw [q] at h; exact h.elim
    | some ys =>
      rw [q] at h
      rw [Option.bind_some] at h
      cases q2 : L2.atI ys i with
      | none => rw [q2] at h; exact h.elim
      | some d =>
        rw [q2] at h
        obtain ⟨a, vs, e, q1, r1⟩ := asSq_rep sk r q
        obtain ⟨v, hv, rv⟩ := r1.atI q2
        rcases q1 with q1 | q1
        · exact .inl ⟨a, vs, i, v, e, ey, q1, hv, sat_here sk h rv⟩
        · exact .inr (.inl ⟨a, vs, i, v, e, ey, q1, hv, sat_here sk h rv⟩)
  cases r2 with
  | int i =>
    cases r1 with
    | str z =>
      dsimp only at q
      by_cases hl : z.length ≤ sizeLine
      · rw [if_pos hl] at q
        cases q2 : L2.atI z.cps.toList i with
        | none => rw [q2] at q; exact q.elim
        | some c =>
          rw [q2] at q
          exact .inr (.inr ⟨z, i, c, rfl, rfl, hl, q2, sat_here sk q (.str _)⟩)
      · rw [if_neg hl] at q
        exact q.elim
    | non => exact sq .non rfl q
    | bl b => exact sq (.bl b) rfl q
    | int i => exact sq (.int i) rfl q
    | tup a b => exact sq (.tup a b) rfl q
    | lst a b c => exact sq (.lst a b c) rfl q
    | ref a => exact sq (.ref a) rfl q
    | fls a => exact sq (.fls a) rfl q
    | dct a b c d => exact sq (.dct a b c d) rfl q
    | exc a b c d e => exact sq (.exc a b c d e) rfl q
  | _ => cases r1 <;> exact q.elim
theorem e_idx (ha : PE X a (tE X.K ca W f)) (hb : PE X b (tE X.K ca W g)) (hs : PlainIx b) : PE X (.Subscript a b pos) (tE X.K ca W (eBin oIdx f g)) :=
  PE.imp (pe_ix r_idx ha hb hs) fun _ _ _ h => bin_imp m_idx h
end

/-! ### d[i:j] -/
def cutD (xs : List D) (lo hi : Option Int) : List D := (xs.drop (HT.sIx xs.length 0 lo)).take (HT.sIx xs.length xs.length hi - HT.sIx xs.length 0 lo)
abbrev DenO := Env → Store → R (Option Int)
def oNo : DenO := fun _ S => .ok none S
def oPart (f : Den) : DenO := fun e S => (f e S).bind fun d S1 => match d with | .int i => .ok (some i) S1 | _ => .bad
/-- of a tuple, of a list (as a value) -/
def eSl (f : Den) (lo hi : DenO) : Den := fun e S => (f e S).bind fun d S1 => (lo e S1).bind fun l S2 => (hi e S2).bind fun u S3 => match d with
  | .tup xs => .ok (.tup (cutD xs l u)) S3
  | .str z => if z.length ≤ sizeLine then .ok (.str (cutS z l u)) S3 else .bad
  | d => (match asL d S3 with | some xs => .ok (.lst (cutD xs l u)) S3 | none => .bad)
/-- of a list, to be changed -/
def dSl (f : Den) (lo hi : DenO) : Dens := fun e S => (f e S).bind fun d S1 => (lo e S1).bind fun l S2 => (hi e S2).bind fun u S3 =>
  match asL d S3 with | some xs => .ok (cutD xs l u) S3 | none => .bad
section
variable {X : Cx} {ca : Nat → Addr} {W : WX} {pos p p2 : Pos} {f g h : Den} {gs hs : Dens} {a b e : Expr} {es : List Expr} {w : Wd} {lo hi : Option Expr} {l u : DenO}
def QO (w : Wd) (K : PySem.W.Frag) (ca : Nat → Addr) (Q : Option Int → Hp → Prop) : Option Int → Store → Prop := fun o S => Aft K ca w S fun w' => Q o w'.H
def tO (K : PySem.W.Frag) (ca : Nat → Addr) (W : WX) (l : DenO) : TO := fun σ H Q => ∃ w env, w.H = H ∧ SOk K ca w ∧ Sim K ca w env σ ∧ Sat (l env w.S) (QO w K ca Q) (QE K ca w W σ)
theorem o_none : PO X none (tO X.K ca W oNo) := ⟨fun pins s σ H Q I h => po_none.run pins s σ H Q I (by
  obtain ⟨w, env, e, s, m, h⟩ := h
  subst e
  exact Aft.here (w' := w) h (.refl w) s)⟩
theorem o_some (ha : PE X a (tE X.K ca W f)) : PO X (some a) (tO X.K ca W (oPart f)) := ⟨fun pins s σ H Q I h => (po_some ha).run pins s σ H Q I (by
  obtain ⟨w, env, e, s, m, h⟩ := h
  refine ⟨w, env, e, s, m, (Sat.bind h).mono (fun d S1 q => ?_) fun _ _ _ q => q⟩
  intro w1 hS x s1 v r
  cases r with
  | int i => exact ⟨i, rfl, q w1 hS x s1⟩
  | _ => exact q.elim)⟩
theorem tO_bind {l : DenO} {σ : St} {H : Hp} {β : Type} {k : Option Int → Store → Py.R β} {w : Wd} {env : Env} {Qb : Wd → β → Store → Prop} {R : Option Int → Hp → Prop}
    (e : w.H = H) (s : SOk X.K ca w) (m : Sim X.K ca w env σ) (h : Sat ((l env w.S).bind k) (Qb w) (QE X.K ca w W σ))
    (hl : ∀ {w' : Wd} {b : β} {S : Store}, Ext w w' → Qb w b S → Qb w' b S)
    (hr : ∀ w1 b, SOk X.K ca w1 → Sim X.K ca w1 env σ → Ext w w1 → Sat (k b w1.S) (Qb w1) (QE X.K ca w1 W σ) → R b w1.H) :
    tO X.K ca W l σ H R := by
  refine ⟨w, env, e, s, m, (Sat.bind h).mono (fun d S1 q => ?_) fun c v S q => q⟩
  intro w1 hS e1 s1
  subst hS
  exact hr w1 d s1 (m.mono e1 s) e1 (q.mono (fun b S z => hl e1 z) fun c v S z => QE.later e1 z)
theorem RepL.cut {vs : List V} {ds : List D} (r : RepL X.K ca w vs ds) (lo hi : Option Int) : RepL X.K ca w (cutV vs lo hi) (cutD ds lo hi) := by
  unfold cutV cutD
  rw [r.length]
  exact (r.drop _).take _
theorem cut_all {xs : List D} {lo hi : Option Int} (h : HT.sIx xs.length 0 lo = 0 ∧ HT.sIx xs.length xs.length hi = xs.length) : cutD xs lo hi = xs := by
  unfold cutD
  rw [h.1, h.2, List.drop_zero, Nat.sub_zero, List.take_length]
theorem e_sl (ha : PE X a (tE X.K ca W f)) (hl : PO X lo (tO X.K ca W l)) (hu : PO X hi (tO X.K ca W u)) : PE X (.Subscript a (.Slice lo hi none p2) pos) (tE X.K ca W (eSl f l u)) :=
  PE.imp (pe_slice (sl_tupA.or (sl_list.or sl_str)) ha hl hu) fun σ H Q ⟨w, env, e, s, m, h⟩ => by
    refine tE_bind (Qb := fun w => QV X.K ca w Q) e s m h (fun e q => QV.later e q) fun w1 d v s1 m1 r e1 h1 => ?_
    refine tO_bind (Qb := fun w => QV X.K ca w Q) rfl s1 m1 h1 (fun e q => QV.later e q) fun w2 l s2 m2 e2 h2 => ?_
    refine tO_bind (Qb := fun w => QV X.K ca w Q) rfl s2 m2 h2 (fun e q => QV.later e q) fun w3 u s3 m3 e3 h3 => ?_
    have r3 := (r.mono e2 s1).mono e3 s2
    have lists : Sat (match asL d w3.S with | some xs => Py.R.ok (.lst (cutD xs l u)) w3.S | none => .bad) (QV X.K ca w3 Q) (QE X.K ca w3 W σ) → rSlL X.K v l u w3.H Q := fun h => by
      cases q : asL d w3.S with
      | none => rw [q] at h; exact h.elim
      | some ys =>
        rw [q] at h
        obtain ⟨b, vs, e, q1, r1⟩ := asL_rep s3 r3 q
        refine ⟨b, vs, e, .inl (.inl q1), fun p hp => ?_⟩
        have x := Ext.alloc (w := w3) (o := .lst (cutV vs l u)) hp
        exact h ⟨upd w3.H p (.lst (cutV vs l u)), w3.ρ, w3.S⟩ rfl x (s3.alloc hp) (.ref p) (.lst upd_same (fun m => s3.notM0 hp m) ((r1.cut l u).mono x s3))
    cases r3 with
    | @tup b vs ds hq ra =>
      refine .inl ⟨b, vs, rfl, hq, fun hz => ?_, fun hz p hp => ?_⟩
      · rw [ra.length] at hz
        have h3' : QV X.K ca w3 Q (.tup (cutD ds l u)) w3.S := h3
        rw [cut_all hz] at h3'
        exact sat_here s3 h3' (.tup hq ra)
      · have x := Ext.alloc (w := w3) (o := .tup (cutV vs l u)) hp
        exact h3 ⟨upd w3.H p (.tup (cutV vs l u)), w3.ρ, w3.S⟩ rfl x (s3.alloc hp) (.ref p) (.tup (.inl (.inl upd_same)) ((ra.cut l u).mono x s3))
    | non => exact .inr (.inl (lists h3))
    | bl b => exact .inr (.inl (lists h3))
    | int i => exact .inr (.inl (lists h3))
    | str z =>
      by_cases hz : z.length ≤ sizeLine
      · have h3' : Sat (if z.length ≤ sizeLine then Py.R.ok (.str (cutS z l u)) w3.S else .bad) (QV X.K ca w3 Q) (QE X.K ca w3 W σ) := h3
        rw [if_pos hz] at h3'
        exact .inr (.inr ⟨z, rfl, hz, sat_here s3 h3' (.str _)⟩)
      · have h3' : Sat (if z.length ≤ sizeLine then Py.R.ok (.str (cutS z l u)) w3.S else .bad) (QV X.K ca w3 Q) (QE X.K ca w3 W σ) := h3
        rw [if_neg hz] at h3'
        exact h3'.elim
    | lst a b c => exact .inr (.inl (lists h3))
    | ref a => exact .inr (.inl (lists h3))
    | fls a => exact .inr (.inl (lists h3))
    | dct a b c d => exact .inr (.inl (lists h3))
    | exc a b c d e => exact .inr (.inl (lists h3))
theorem f_sl (ha : PE X a (tE X.K ca W f)) (hl : PO X lo (tO X.K ca W l)) (hu : PO X hi (tO X.K ca W u)) : PE X (.Subscript a (.Slice lo hi none p2) pos) (tF X.K ca W (dSl f l u)) :=
  PE.imp (pe_slice sl_list ha hl hu) fun σ H Q ⟨w, env, e, s, m, h⟩ => by
    refine tE_bind (Qb := fun w => QF X.K ca w Q) e s m h (fun e q => QF.later e q) fun w1 d v s1 m1 r e1 h1 => ?_
    refine tO_bind (Qb := fun w => QF X.K ca w Q) rfl s1 m1 h1 (fun e q => QF.later e q) fun w2 l s2 m2 e2 h2 => ?_
    refine tO_bind (Qb := fun w => QF X.K ca w Q) rfl s2 m2 h2 (fun e q => QF.later e q) fun w3 u s3 m3 e3 h => ?_
    have r3 := (r.mono e2 s1).mono e3 s2
    cases q : asL d w3.S with
    | none => rw [q] at h; exact h.elim
    | some ys =>
      rw [q] at h
      obtain ⟨b, vs, e, q1, r1⟩ := asL_rep s3 r3 q
      exact ⟨b, vs, e, .inl (.inl q1), fun p hp => h w3 rfl (.refl w3) s3 _ p (r1.cut l u) hp⟩
end

/-! ### lists put together -/
/-- + of lists: as a value -/
def oCat : Op2 := fun a b S => match a, b with
  | .int i, .int j => .ok (.int (i + j)) S
  | a, b => (match asL a S, asL b S with
    | some xs, some ys => if xs.length + ys.length ≤ sizeLine then .ok (.lst (xs ++ ys)) S else .bad
    | _, _ => oAdd a b S)
def dCat (f g : Den) : Dens := fun e S => (f e S).bind fun a S1 => (g e S1).bind fun b S2 => match asL a S2, asL b S2 with
  | some xs, some ys => if xs.length + ys.length ≤ sizeLine then .ok (xs ++ ys) S2 else .bad
  | _, _ => .bad
theorem m_cat : Mute2 oCat := by
  intro a b S c v S' h; revert h; unfold oCat
  split
  · simp
  · split
    · split <;> simp
    · exact m_add a b S c v S'
/-- n times -/
def repD (n : Nat) (xs : List D) : List D := (List.replicate n xs).flatten
def repOk (xs : List D) (k : Int) : Bool := decide (-(2 ^ 63) ≤ k) && (decide (k < 2 ^ 63) && decide (xs.length * k.toNat ≤ sizeLine))
def dRep (f g : Den) : Dens := fun e S => (f e S).bind fun a S1 => (g e S1).bind fun b S2 => match asL a S2, b with
  | some xs, .int k => if repOk xs k then .ok (repD k.toNat xs) S2 else .bad
  | _, _ => .bad
def repTOk (xs : List D) (k : Int) : Bool := decide (xs ≠ [] ∧ 2 ≤ k ∧ k ≤ 1000 ∧ xs.length ≤ 1000)
/-- * : numbers, a list (as a value), a tuple -/
def oRep : Op2 := fun a b S => match a, b with
  | .int i, .int j => if mulOk i j then .ok (.int (i * j)) S else .bad
  | .tup xs, .int k => if xs.length = 0 then .bad else if 2 ≤ k ∧ k ≤ 1000 ∧ xs.length ≤ 1000 then .ok (.tup (repD k.toNat xs)) S else .bad
  | a, .int k => (match asL a S with | some xs => if repOk xs k then .ok (.lst (repD k.toNat xs)) S else .bad | none => .bad)
  | _, _ => .bad
theorem m_rep : Mute2 oRep := by
  intro a b S c v S' h; revert h; unfold oRep
  split <;> (try split) <;> (try split) <;> simp
section
variable {X : Cx} {ca : Nat → Addr} {W : WX} {pos p p2 : Pos} {f g h : Den} {a b e : Expr} {w : Wd}
theorem opOr {F : Value → Value → Sem Value} {r r' : R2} (h : OpR X F r) (h' : OpR X F r') : OpR X F (fun x y H Q => r x y H Q ∨ r' x y H Q) := by
  intro pins s σ H x y v u Q I rx ry q
  rcases q with q | q
  · exact h pins s σ H x y v u Q I rx ry q
  · exact h' pins s σ H x y v u Q I rx ry q
theorem r_cat : OpR X (binaryOp .Add) (rO2 X.K ca oCat) := opImp (opOr (r_add (ca := ca)) op_cat) fun x y H Q h => by
  obtain ⟨w, dx, dy, e, sk, r1, r2, q⟩ := h
  subst e
  unfold oCat at q
  split at q
  · exact .inl ⟨w, _, _, rfl, sk, r1, r2, q⟩
  · split at q
    · rename_i xs ys q1 q2
      by_cases hl : xs.length + ys.length ≤ sizeLine
      · rw [if_pos hl] at q
        obtain ⟨a, vs, e, h1, ra⟩ := asL_rep sk r1 q1
        obtain ⟨b, us, e2, h2, rb⟩ := asL_rep sk r2 q2
        refine .inr ⟨a, b, vs, us, e, e2, h1, h2, by rw [ra.length, rb.length]; exact hl, fun p hp => ?_⟩
        have x := Ext.alloc (w := w) (o := .lst (vs ++ us)) hp
        exact q ⟨upd w.H p (.lst (vs ++ us)), w.ρ, w.S⟩ rfl x (sk.alloc hp) (.ref p) (.lst upd_same (fun m => sk.notM0 hp m) ((ra.append rb).mono x sk))
      · rw [if_neg hl] at q
        exact q.elim
    · exact .inl ⟨w, _, _, rfl, sk, r1, r2, q⟩
theorem RepL.rep {vs : List V} {ds : List D} (r : RepL X.K ca w vs ds) : ∀ n : Nat, RepL X.K ca w (List.replicate n vs).flatten (repD n ds)
  | 0 => .nil
  | n + 1 => by
    unfold repD
    rw [List.replicate_succ, List.replicate_succ, List.flatten_cons, List.flatten_cons]
    exact r.append (r.rep n)
theorem r_rep : OpR X (binaryOp .Mult) (rO2 X.K ca oRep) := opImp (opOr (opOr (r_mul (ca := ca)) op_rep) op_repT) fun x y H Q h => by
  obtain ⟨w, dx, dy, e, sk, r1, r2, q⟩ := h
  subst e
  have lists : ∀ {k : Int}, y = .int k → Sat (match asL dx w.S with | some xs => if repOk xs k then Py.R.ok (.lst (repD k.toNat xs)) w.S else .bad | none => .bad) (QV X.K ca w Q) (fun _ _ _ => False) → rRep x y w.H Q := fun {k} ey q => by
    cases q1 : asL dx w.S with
    | none => rw [q1] at q; exact q.elim
    | some xs =>
      rw [q1] at q
      dsimp only at q
      by_cases hl : repOk xs k = true
      · rw [if_pos hl] at q
        unfold repOk at hl
        rw [Bool.and_eq_true, Bool.and_eq_true] at hl
        obtain ⟨a, vs, e, h1, ra⟩ := asL_rep sk r1 q1
        refine ⟨a, k, vs, e, ey, h1, of_decide_eq_true hl.1, of_decide_eq_true hl.2.1, by rw [ra.length]; exact of_decide_eq_true hl.2.2, fun p hp => ?_⟩
        have x := Ext.alloc (w := w) (o := .lst (List.replicate k.toNat vs).flatten) hp
        exact q ⟨upd w.H p (.lst (List.replicate k.toNat vs).flatten), w.ρ, w.S⟩ rfl x (sk.alloc hp) (.ref p) (.lst upd_same (fun m => sk.notM0 hp m) ((ra.rep _).mono x sk))
      · rw [if_neg hl] at q
        exact q.elim
  unfold oRep at q
  cases r2 with
  | int k =>
    cases r1 with
    | int i => exact .inl (.inl ⟨w, _, _, rfl, sk, .int i, .int k, q⟩)
    | @tup a vs ds hq ra =>
      dsimp only at q
      by_cases h0 : ds.length = 0
      · rw [if_pos h0] at q; exact q.elim
      · rw [if_neg h0] at q
        by_cases hk : 2 ≤ k ∧ k ≤ 1000 ∧ ds.length ≤ 1000
        · rw [if_pos hk] at q
          refine .inr ⟨a, k, vs, rfl, rfl, hq, fun z => h0 (by rw [← ra.length, z]; rfl), hk.1, hk.2.1, by rw [ra.length]; exact hk.2.2, fun p hp => ?_⟩
          have x := Ext.alloc (w := w) (o := .tup (List.replicate k.toNat vs).flatten) hp
          exact q ⟨upd w.H p (.tup (List.replicate k.toNat vs).flatten), w.ρ, w.S⟩ rfl x (sk.alloc hp) (.ref p) (.tup (.inl (.inl upd_same)) ((ra.rep _).mono x sk))
        · rw [if_neg hk] at q; exact q.elim
    | non => exact .inl (.inr (lists rfl q))
    | bl b => exact .inl (.inr (lists rfl q))
    | str x => exact .inl (.inr (lists rfl q))
    | lst a b c => exact .inl (.inr (lists rfl q))
    | ref a => exact .inl (.inr (lists rfl q))
    | fls a => exact .inl (.inr (lists rfl q))
    | dct a b c d => exact .inl (.inr (lists rfl q))
    | exc a b c d e => exact .inl (.inr (lists rfl q))
  | _ => cases r1 <;> exact q.elim
theorem f_cat (ha : PE X a (tE X.K ca W f)) (hb : PE X b (tE X.K ca W g)) : PE X (.BinOp a .Add b pos) (tF X.K ca W (dCat f g)) := PE.imp (pe_op op_cat ha hb) fun σ H Q ⟨w, env, e, s, m, h⟩ => by
  refine tE_bind (Qb := fun w => QF X.K ca w Q) e s m h (fun e q => QF.later e q) fun w1 d v s1 m1 r e1 h1 => ?_
  refine tE_bind (Qb := fun w => QF X.K ca w Q) rfl s1 m1 h1 (fun e q => QF.later e q) fun w2 d2 v2 s2 m2 r2 e2 h2 => ?_
  have r3 := r.mono e2 s1
  cases q1 : asL d w2.S with
  | none => rw [q1] at h2; exact h2.elim
  | some xs =>
    cases q2 : asL d2 w2.S with
    | none => rw [q1, q2] at h2; exact h2.elim
    | some ys =>
      rw [q1, q2] at h2
      dsimp only at h2
      by_cases hl : xs.length + ys.length ≤ sizeLine
      · rw [if_pos hl] at h2
        obtain ⟨a, vs, e, h1, ra⟩ := asL_rep s2 r3 q1
        obtain ⟨b, us, e2, h3, rb⟩ := asL_rep s2 r2 q2
        exact ⟨a, b, vs, us, e, e2, h1, h3, by rw [ra.length, rb.length]; exact hl, fun p hp => h2 w2 rfl (.refl w2) s2 _ p (ra.append rb) hp⟩
      · rw [if_neg hl] at h2
        exact h2.elim
theorem f_rep (ha : PE X a (tE X.K ca W f)) (hb : PE X b (tE X.K ca W g)) : PE X (.BinOp a .Mult b pos) (tF X.K ca W (dRep f g)) := PE.imp (pe_op op_rep ha hb) fun σ H Q ⟨w, env, e, s, m, h⟩ => by
  refine tE_bind (Qb := fun w => QF X.K ca w Q) e s m h (fun e q => QF.later e q) fun w1 d v s1 m1 r e1 h1 => ?_
  refine tE_bind (Qb := fun w => QF X.K ca w Q) rfl s1 m1 h1 (fun e q => QF.later e q) fun w2 d2 v2 s2 m2 r2 e2 h2 => ?_
  have r3 := r.mono e2 s1
  cases q1 : asL d w2.S with
  | none => rw [q1] at h2; exact h2.elim
  | some xs =>
    rw [q1] at h2
    cases r2 with
    | int k =>
      dsimp only at h2
      by_cases hl : repOk xs k = true
      · rw [if_pos hl] at h2
        unfold repOk at hl
        rw [Bool.and_eq_true, Bool.and_eq_true] at hl
        obtain ⟨a, vs, e, h1, ra⟩ := asL_rep s2 r3 q1
        exact ⟨a, k, vs, e, rfl, h1, of_decide_eq_true hl.1, of_decide_eq_true hl.2.1, by rw [ra.length]; exact of_decide_eq_true hl.2.2, fun p hp => h2 w2 rfl (.refl w2) s2 _ p (ra.rep _) hp⟩
      · rw [if_neg hl] at h2
        exact h2.elim
    | _ => exact h2.elim
end
end Py

set_option maxHeartbeats 4000000
/-! PyH: what changes lists, membership, calls with keywords, constants of the module. -/
namespace Py
open PySem PySem.Spec PyProof.Rows L2

/-! ### a list of the store is changed -/
/-- by k: what it then holds, and what is told -/
def chg (k : List D → Option (List D × D)) (d : D) (S : Store) : R D := match d with
  | .ref n => (match S[n]? with
    | some (.lst xs) => (match k xs with | some (ys, r) => .ok r (S.set n (.lst ys)) | none => .bad)
    | _ => .bad)
  | _ => .bad
theorem chg_mute {k : List D → Option (List D × D)} {d : D} {S : Store} {c : Nat} {v : D} {S' : Store} : chg k d S ≠ .err c v S' := by
  unfold chg
  split
  · split
    · split <;> simp
    · simp
  · simp
section
variable {X : Cx} {ca : Nat → Addr} {W : WX} {pos p apos : Pos} {f g h o i : Den} {gs hs : Dens} {a b e eo ei : Expr} {es : List Expr} {w : Wd}
theorem chg_ext {n : Nat} {xs ys : List D} {vs : List V} (s : SOk X.K ca w) (h : w.S[n]? = some (.lst xs)) (r : RepL X.K ca w vs ys) :
    let w' : Wd := ⟨upd w.H (w.ρ n) (.lst vs), w.ρ, w.S.set n (.lst ys)⟩
    Ext w w' ∧ SOk X.K ca w' := by
  intro w'
  have hM : w.M (w.ρ n) := ⟨n, xs, h, rfl⟩
  have hn : n < w.S.length := (List.getElem?_eq_some_iff.mp h).1
  have old : ∀ m zs, w'.S[m]? = some (.lst zs) → m = n ∨ w.S[m]? = some (.lst zs) := fun m zs q => by
    by_cases e : m = n
    · exact .inl e
    · refine .inr ?_
      have q' : (w.S.set n (.lst ys))[m]? = some (.lst zs) := q
      rwa [List.getElem?_set_ne (Ne.symm e)] at q'
  have x : Ext w w' := {
    keep := fun a o q nM => by
      have : a ≠ w.ρ n := fun z => nM (by rw [z]; exact hM)
      show upd w.H (w.ρ n) (.lst vs) a = some o
      rw [upd_ne this]; exact q
    fresh := fun a m => by
      obtain ⟨k, zs, q, e⟩ := m
      rcases old k zs q with rfl | q
      · exact .inl (by rw [← e]; exact hM)
      · exact .inl ⟨k, zs, q, e⟩
    rho := fun _ _ => rfl
    len := by show w.S.length ≤ (w.S.set n (.lst ys)).length; rw [List.length_set]; exact Nat.le_refl _ }
  refine ⟨x, ?_, ?_⟩
  · intro m zs q
    by_cases e : m = n
    · subst e
      have q' : (w.S.set m (.lst ys))[m]? = some (.lst zs) := q
      rw [List.getElem?_set_self hn] at q'
      have e2 : O.lst ys = O.lst zs := Option.some.inj q'
      injection e2 with e2
      subst e2
      exact ⟨vs, upd_same, r.mono x s⟩
    · rcases old m zs q with z | q0
      · exact absurd z e
      · obtain ⟨us, hu, ru⟩ := s.live m zs q0
        refine ⟨us, ?_, ru.mono x s⟩
        show upd w.H (w.ρ n) (.lst vs) (w.ρ m) = _
        rw [upd_ne (fun z => e (s.inj m n zs xs q0 h z))]
        exact hu
  · intro m k zs us q1 q2 e
    have one : ∀ m zs, w'.S[m]? = some (O.lst zs) → ∃ ts, w.S[m]? = some (O.lst ts) := fun m zs q => by
      rcases old m zs q with rfl | q
      · exact ⟨_, h⟩
      · exact ⟨_, q⟩
    obtain ⟨t1, k1⟩ := one m zs q1
    obtain ⟨t2, k2⟩ := one k us q2
    exact s.inj m k t1 t2 k1 k2 e
theorem chg_of {k : List D → Option (List D × D)} {d : D} {v : V} {Q : D → Store → Prop} {E : Nat → D → Store → Prop} (s : SOk X.K ca w) (r : Rep X.K ca w v d) (h : Sat (chg k d w.S) Q E) :
    ∃ n xs ys z vs, v = .ref (w.ρ n) ∧ w.S[n]? = some (.lst xs) ∧ w.H (w.ρ n) = some (.lst vs) ∧ RepL X.K ca w vs xs ∧ k xs = some (ys, z) ∧ Q z (w.S.set n (.lst ys)) := by
  unfold chg at h
  cases r with
  | @ref n hn =>
    dsimp only at h
    cases q : w.S[n]? with
    | none => rw [q] at h; exact h.elim
    | some o =>
      cases o with
      | dead => rw [q] at h; exact h.elim
      | lst xs =>
        rw [q] at h
        dsimp only at h
        cases q2 : k xs with
        | none => rw [q2] at h; exact h.elim
        | some yz =>
          obtain ⟨ys, z⟩ := yz
          rw [q2] at h
          obtain ⟨vs, hv, rv⟩ := s.live n xs q
          exact ⟨n, xs, ys, z, vs, rfl, q, hv, rv, q2, h⟩
  | _ => exact h.elim
end
def kSet (i v : D) : List D → Option (List D × D) := fun xs => match i with | .int j => (ixN xs.length j).map fun m => (xs.set m v, .non) | _ => none
def kApp (v : D) : List D → Option (List D × D) := fun xs => if xs.length < sizeLine then some (xs ++ [v], .non) else none
def kPop : List D → Option (List D × D) := fun xs => xs.getLast?.map fun v => (xs.dropLast, v)
def kPopAt (i : D) : List D → Option (List D × D) := fun xs => match i with | .int j => if inR j then (ixN xs.length j).bind fun m => xs[m]?.map fun v => (xs.eraseIdx m, v) else none | _ => none
def kIns (i v : D) : List D → Option (List D × D) := fun xs => match i with | .int j => if xs.length < sizeLine ∧ 0 ≤ j ∧ j < 2 ^ 62 then some (xs.take j.toNat ++ [v] ++ xs.drop j.toNat, .non) else none | _ => none
def kExt (zs : List D) : List D → Option (List D × D) := fun xs => if xs.length + zs.length ≤ sizeLine then some (xs ++ zs, .non) else none
/-- o[i] = v: v, o, i in this order -/
def eSetI (f o i : Den) : Den := fun e S => (f e S).bind fun v S1 => (o e S1).bind fun d S2 => (i e S2).bind fun k S3 => chg (kSet k v) d S3
def eApp (o f : Den) : Den := fun e S => (o e S).bind fun d S1 => (f e S1).bind fun v S2 => chg (kApp v) d S2
def ePop (o : Den) : Den := fun e S => (o e S).bind fun d S1 => chg kPop d S1
def ePopAt (o i : Den) : Den := fun e S => (o e S).bind fun d S1 => (i e S1).bind fun k S2 => chg (kPopAt k) d S2
def eIns (o i f : Den) : Den := fun e S => (o e S).bind fun d S1 => (i e S1).bind fun k S2 => (f e S2).bind fun v S3 => chg (kIns k v) d S3
def eExt (o f : Den) : Den := fun e S => (o e S).bind fun d S1 => (f e S1).bind fun v S2 => match asL v S2 with | some zs => chg (kExt zs) d S2 | none => .bad
section
variable {X : Cx} {ca : Nat → Addr} {W : WX} {pos p apos cpos : Pos} {f g h o i : Den} {gs hs : Dens} {a b e eo ei : Expr} {es : List Expr} {w : Wd}
theorem s_setI (ha : PE X a (tE X.K ca W f)) (ho : PE X eo (tE X.K ca W o)) (hi : PE X ei (tE X.K ca W i))
    (has : ∀ v, assign (.Subscript eo ei p) X.env v = (do
      let ov ← holding [v] (eval eo X.env)
      let iv ← holding [v, ov] (eval ei X.env)
      standAt p
      holding [v, ov, iv] (setItem ov iv v)
      release [v, ov, iv] []) := by intro _; rfl)
    (hs : swapsWithSole [.Subscript eo ei p] a pos.line X.env = pure false := by rfl) (hw : swappedStores [.Subscript eo ei p] a X.env = pure none := by rfl)
    (h1 : (assignEach [.Subscript eo ei p] X.env).map (·.2) = [assign (.Subscript eo ei p) X.env] := by rfl) : PS X (.Assign [.Subscript eo ei p] a pos) (tS X.K ca W (sExpr (eSetI f o i))) :=
  PS.imp (ps_asg ha (pg_sub ho hi set_list has) hs hw h1) fun U σ H ⟨w, env, e, s, m, h⟩ => by
    have key : SatS X.K ca (match (f env w.S).bind fun v S1 => (o env S1).bind fun d S2 => (i env S2).bind fun k S3 => chg (kSet k v) d S3 with | .ok d S1 => RS.next env S1 | .err c v S1 => .err c v env S1 | .bad => .bad) w U W := h
    refine tE_then (k := fun v S1 => match ((o env S1).bind fun d S2 => (i env S2).bind fun k S3 => chg (kSet k v) d S3) with | .ok d S1 => RS.next env S1 | .err c v S1 => .err c v env S1 | .bad => .bad) e s m (by
      cases q : f env w.S with
      | ok d S1 => rw [q] at key; exact key
      | err c v S1 => rw [q] at key; exact key
      | bad => rw [q] at key; exact key) fun w1 v vv s1 m1 r1 x1 q1 => ?_
    refine tE_then (f := o) (k := fun d S2 => match ((i env S2).bind fun k S3 => chg (kSet k v) d S3) with | .ok d S1 => RS.next env S1 | .err c v S1 => .err c v env S1 | .bad => .bad) rfl s1 m1 (by
      cases q : o env w1.S with
      | ok d S1 => rw [q] at q1; exact q1
      | err c v S1 => rw [q] at q1; exact q1
      | bad => rw [q] at q1; exact q1) fun w2 d dv s2 m2 r2 x2 q2 => ?_
    refine tE_then (f := i) (k := fun k S3 => match (chg (kSet k v) d S3) with | .ok d S1 => RS.next env S1 | .err c v S1 => .err c v env S1 | .bad => .bad) rfl s2 m2 (by
      cases q : i env w2.S with
      | ok d S1 => rw [q] at q2; exact q2
      | err c v S1 => rw [q] at q2; exact q2
      | bad => rw [q] at q2; exact q2) fun w3 k kv s3 m3 r3 x3 q3 => ?_
    have q4 : Sat (chg (kSet k v) d w3.S) (fun _ S => SatS X.K ca (.next env S) w3 U W) (fun _ _ _ => False) := by
      cases q : chg (kSet k v) d w3.S with
      | ok d S1 => rw [q] at q3; exact q3
      | err c v S1 => exact absurd q chg_mute
      | bad => rw [q] at q3; exact q3
    obtain ⟨n, xs, ys, z, vs, e1, e2, e3, e4, e5, q5⟩ := chg_of s3 (r2.mono x3 s2) q4
    unfold kSet at e5
    cases r3 with
    | int j =>
      dsimp only at e5
      cases q : ixN xs.length j with
      | none => rw [q] at e5; cases e5
      | some t =>
        rw [q] at e5
        cases e5
        refine ⟨_, vs, j, t, e1, rfl, e3, by rw [e4.length]; exact q, ?_⟩
        have rv := (r1.mono x2 s1).mono x3 s2
        obtain ⟨y, sy⟩ := chg_ext (ys := xs.set t v) (vs := vs.set t vv) s3 e2 (e4.set t rv)
        exact q5 _ rfl y sy σ (m3.mono y s3)
    | _ => cases e5
theorem tyL {w : Wd} {a : Addr} {vs : List V} (h : w.H a = some (.lst vs)) : tyV X.K "list" (.ref a) w.H := .inl ⟨rfl, vs, .inl (.inl h)⟩
theorem isL_of {w : Wd} {d : D} {v : V} (s : SOk X.K ca w) (r : Rep X.K ca w v d) (n : Nat) (hd : d = .ref n) (xs : List D) (h : w.S[n]? = some (.lst xs)) : tyV X.K "list" v w.H := by
  subst hd
  cases r with
  | ref hn =>
    obtain ⟨vs, hv, _⟩ := s.live n xs h
    exact tyL (X := X) hv
/-- a receiver that is a list of the store at its own time -/
def rcv (o : Den) : Den := fun e S => (o e S).bind fun d S1 => match d with | .ref n => (match S1[n]? with | some (.lst _) => .ok d S1 | _ => .bad) | _ => .bad
theorem rcv_imp {σ : St} {H : Hp} {Q : VK} (h : tE X.K ca W (rcv o) σ H Q) : tE X.K ca W o σ H fun x H1 => tyV X.K "list" x H1 ∧ Q x H1 := by
  obtain ⟨w, env, e, s, m, h⟩ := h
  refine tE_bind (Qb := fun w => QV X.K ca w Q) e s m h (fun e q => QV.later e q) fun w1 d v s1 m1 r e1 h1 => ?_
  cases r with
  | @ref n hn =>
    dsimp only at h1
    cases q : w1.S[n]? with
    | none => rw [q] at h1; exact h1.elim
    | some u =>
      cases u with
      | dead => rw [q] at h1; exact h1.elim
      | lst xs =>
        rw [q] at h1
        exact ⟨isL_of s1 (.ref hn) n rfl xs q, sat_here s1 h1 (.ref hn)⟩
  | _ => exact h1.elim
theorem e_app (ho : PE X eo (tE X.K ca W o)) (ha : PE X a (tE X.K ca W f))
    (hbase : attributeBase eo "append" X.env (eval eo X.env) = eval eo X.env := by rfl)
    (hfew : ((backTo cpos (starEach [a] X.env)).all (fun x => !x.1) && (backToKw cpos (keywordEach [] X.env)).all (fun x => x.1.isSome)
      && decide ([a].length + ([] : List Keyword).length + (if ([] : List Keyword).isEmpty then 0 else 1) < 30)) = true := by rfl)
    (hline : (apos.endLine == cpos.line) = true := by rfl) (hs : starEach [a] X.env = (false, eval a X.env) :: starEach [] X.env := by rfl) (hplain : (backTo cpos (starEach [] X.env)).any (·.1) = false := by rfl) :
    PE X (.Call (.Attribute eo "append" apos) [a] [] cpos) (tE X.K ca W (eApp (rcv o) f)) :=
  PE.imp (pe_bm PySem.F.plainAttrs_list PySem.F.slot_list_append PySem.F.type_list_append mt_append ho (pa_cons ha pa_nil hs) hbase hfew hline hs hplain) fun σ H Q ⟨w, env, e, s, m, h⟩ => by
    refine rcv_imp (tE_bind (Qb := fun w => QV X.K ca w Q) e s m h (fun e q => QV.later e q) fun w1 d v s1 m1 r e1 h1 => ?_)
    refine tE_bind (Qb := fun w => QV X.K ca w Q) rfl s1 m1 h1 (fun e q => QV.later e q) fun w2 d2 v2 s2 m2 r2 e2 h2 => ?_
    obtain ⟨n, xs, ys, z, vs, k1, k2, k3, k4, k5, q5⟩ := chg_of s2 (r.mono e2 s1) h2
    unfold kApp at k5
    by_cases hl : xs.length < sizeLine
    · rw [if_pos hl] at k5
      cases k5
      refine ⟨_, vs, v2, k1, rfl, k3, by rw [k4.length]; exact hl, ?_⟩
      obtain ⟨y, sy⟩ := chg_ext (ys := xs ++ [d2]) (vs := vs ++ [v2]) s2 k2 (k4.append (.cons r2 .nil))
      exact q5 _ rfl y sy .non .non
    · rw [if_neg hl] at k5
      cases k5
theorem e_pop (ho : PE X eo (tE X.K ca W o))
    (hbase : attributeBase eo "pop" X.env (eval eo X.env) = eval eo X.env := by rfl) (hline : (apos.endLine == cpos.line) = true := by rfl) :
    PE X (.Call (.Attribute eo "pop" apos) [] [] cpos) (tE X.K ca W (ePop o)) :=
  PE.imp (pe_bm0 PySem.F.plainAttrs_list PySem.F.slot_list_pop PySem.F.type_list_pop mt_pop ho hbase hline) fun σ H Q ⟨w, env, e, s, m, h⟩ => by
    refine tE_bind (Qb := fun w => QV X.K ca w Q) e s m h (fun e q => QV.later e q) fun w2 d v s2 m2 r e1 h2 => ?_
    obtain ⟨n, xs, ys, z, vs, k1, k2, k3, k4, k5, q5⟩ := chg_of s2 r h2
    unfold kPop at k5
    cases q : xs.getLast? with
    | none => rw [q] at k5; cases k5
    | some l =>
      rw [q] at k5
      cases k5
      rw [List.getLast?_eq_getElem?] at q
      obtain ⟨y, hy, ry⟩ := k4.get q
      have rd : RepL X.K ca w2 vs.dropLast xs.dropLast := by
        rw [List.dropLast_eq_take, List.dropLast_eq_take, k4.length]
        exact k4.take _
      obtain ⟨y1, sy⟩ := chg_ext (ys := xs.dropLast) (vs := vs.dropLast) s2 k2 rd
      subst k1
      exact ⟨tyL (X := X) k3, _, vs, y, rfl, rfl, k3, by rw [k4.length]; exact hy, q5 _ rfl y1 sy y (ry.mono y1 s2)⟩
theorem e_popAt (ho : PE X eo (tE X.K ca W o)) (ha : PE X a (tE X.K ca W f))
    (hbase : attributeBase eo "pop" X.env (eval eo X.env) = eval eo X.env := by rfl)
    (hfew : ((backTo cpos (starEach [a] X.env)).all (fun x => !x.1) && (backToKw cpos (keywordEach [] X.env)).all (fun x => x.1.isSome)
      && decide ([a].length + ([] : List Keyword).length + (if ([] : List Keyword).isEmpty then 0 else 1) < 30)) = true := by rfl)
    (hline : (apos.endLine == cpos.line) = true := by rfl) (hs : starEach [a] X.env = (false, eval a X.env) :: starEach [] X.env := by rfl) (hplain : (backTo cpos (starEach [] X.env)).any (·.1) = false := by rfl) :
    PE X (.Call (.Attribute eo "pop" apos) [a] [] cpos) (tE X.K ca W (ePopAt (rcv o) f)) :=
  PE.imp (pe_bm PySem.F.plainAttrs_list PySem.F.slot_list_pop PySem.F.type_list_pop mt_popAt ho (pa_cons ha pa_nil hs) hbase hfew hline hs hplain) fun σ H Q ⟨w, env, e, s, m, h⟩ => by
    refine rcv_imp (tE_bind (Qb := fun w => QV X.K ca w Q) e s m h (fun e q => QV.later e q) fun w1 d v s1 m1 r e1 h1 => ?_)
    refine tE_bind (Qb := fun w => QV X.K ca w Q) rfl s1 m1 h1 (fun e q => QV.later e q) fun w2 d2 v2 s2 m2 r2 e2 h2 => ?_
    obtain ⟨n, xs, ys, z, vs, k1, k2, k3, k4, k5, q5⟩ := chg_of s2 (r.mono e2 s1) h2
    unfold kPopAt at k5
    cases r2 with
    | int j =>
      dsimp only at k5
      by_cases hj : inR j = true
      · rw [if_pos hj] at k5
        obtain ⟨j1, j2⟩ := inR_ok hj
        cases q : ixN xs.length j with
        | none => rw [q] at k5; cases k5
        | some t =>
          rw [q, Option.bind_some] at k5
          cases q2 : xs[t]? with
          | none => rw [q2] at k5; cases k5
          | some l =>
            rw [q2] at k5
            cases k5
            obtain ⟨y, hy, ry⟩ := k4.get q2
            have rd : RepL X.K ca w2 (vs.eraseIdx t) (xs.eraseIdx t) := by
              rw [List.eraseIdx_eq_take_drop_succ, List.eraseIdx_eq_take_drop_succ]
              exact (k4.take _).append (k4.drop _)
            obtain ⟨y1, sy⟩ := chg_ext (ys := xs.eraseIdx t) (vs := vs.eraseIdx t) s2 k2 rd
            exact ⟨_, vs, j, t, y, k1, rfl, k3, by omega, by omega, by rw [k4.length]; exact (ixN_seq q).1, hy, q5 _ rfl y1 sy y (ry.mono y1 s2)⟩
      · rw [if_neg hj] at k5
        cases k5
    | _ => cases k5
theorem e_ins (ho : PE X eo (tE X.K ca W o)) (ha : PE X a (tE X.K ca W i)) (hb : PE X b (tE X.K ca W f))
    (hbase : attributeBase eo "insert" X.env (eval eo X.env) = eval eo X.env := by rfl)
    (hfew : ((backTo cpos (starEach [a, b] X.env)).all (fun x => !x.1) && (backToKw cpos (keywordEach [] X.env)).all (fun x => x.1.isSome)
      && decide ([a, b].length + ([] : List Keyword).length + (if ([] : List Keyword).isEmpty then 0 else 1) < 30)) = true := by rfl)
    (hline : (apos.endLine == cpos.line) = true := by rfl) (hs : starEach [a, b] X.env = (false, eval a X.env) :: starEach [b] X.env := by rfl) (hs2 : starEach [b] X.env = (false, eval b X.env) :: starEach [] X.env := by rfl) (hplain : (backTo cpos (starEach [b] X.env)).any (·.1) = false := by rfl) :
    PE X (.Call (.Attribute eo "insert" apos) [a, b] [] cpos) (tE X.K ca W (eIns (rcv o) i f)) :=
  PE.imp (pe_bm PySem.F.plainAttrs_list PySem.F.slot_list_insert PySem.F.type_list_insert mt_insert ho (pa_cons ha (pa_cons hb pa_nil hs2) hs) hbase hfew hline hs hplain) fun σ H Q ⟨w, env, e, s, m, h⟩ => by
    refine rcv_imp (tE_bind (Qb := fun w => QV X.K ca w Q) e s m h (fun e q => QV.later e q) fun w1 d v s1 m1 r e1 h1 => ?_)
    refine tE_bind (Qb := fun w => QV X.K ca w Q) rfl s1 m1 h1 (fun e q => QV.later e q) fun w2 d2 v2 s2 m2 r2 e2 h2 => ?_
    refine tE_bind (f := f) (Qb := fun w => QV X.K ca w Q) rfl s2 m2 h2 (fun e q => QV.later e q) fun w3 d3 v3 s3 m3 r3 e3 h3 => ?_
    obtain ⟨n, xs, ys, z, vs, k1, k2, k3, k4, k5, q5⟩ := chg_of s3 ((r.mono e2 s1).mono e3 s2) h3
    unfold kIns at k5
    cases r2 with
    | int j =>
      dsimp only at k5
      by_cases hj : xs.length < sizeLine ∧ 0 ≤ j ∧ j < 2 ^ 62
      · rw [if_pos hj] at k5
        cases k5
        obtain ⟨y1, sy⟩ := chg_ext (ys := xs.take j.toNat ++ [d3] ++ xs.drop j.toNat) (vs := vs.take j.toNat ++ [v3] ++ vs.drop j.toNat) s3 k2 (((k4.take _).append (.cons r3 .nil)).append (k4.drop _))
        exact ⟨_, vs, j, v3, k1, rfl, k3, by rw [k4.length]; exact hj.1, hj.2.1, by omega, q5 _ rfl y1 sy .non .non⟩
      · rw [if_neg hj] at k5
        cases k5
    | _ => cases k5
theorem e_ext (ho : PE X eo (tE X.K ca W o)) (ha : PE X a (tE X.K ca W f))
    (hbase : attributeBase eo "extend" X.env (eval eo X.env) = eval eo X.env := by rfl)
    (hfew : ((backTo cpos (starEach [a] X.env)).all (fun x => !x.1) && (backToKw cpos (keywordEach [] X.env)).all (fun x => x.1.isSome)
      && decide ([a].length + ([] : List Keyword).length + (if ([] : List Keyword).isEmpty then 0 else 1) < 30)) = true := by rfl)
    (hline : (apos.endLine == cpos.line) = true := by rfl) (hs : starEach [a] X.env = (false, eval a X.env) :: starEach [] X.env := by rfl) (hplain : (backTo cpos (starEach [] X.env)).any (·.1) = false := by rfl) :
    PE X (.Call (.Attribute eo "extend" apos) [a] [] cpos) (tE X.K ca W (eExt (rcv o) f)) :=
  PE.imp (pe_bm PySem.F.plainAttrs_list PySem.F.slot_list_extend PySem.F.type_list_extend mt_extend ho (pa_cons ha pa_nil hs) hbase hfew hline hs hplain) fun σ H Q ⟨w, env, e, s, m, h⟩ => by
    refine rcv_imp (tE_bind (Qb := fun w => QV X.K ca w Q) e s m h (fun e q => QV.later e q) fun w1 d v s1 m1 r e1 h1 => ?_)
    refine tE_bind (Qb := fun w => QV X.K ca w Q) rfl s1 m1 h1 (fun e q => QV.later e q) fun w2 d2 v2 s2 m2 r2 e2 h2 => ?_
    cases q : asL d2 w2.S with
    | none => rw [q] at h2; exact h2.elim
    | some zs =>
      rw [q] at h2
      obtain ⟨b, us, f1, f2, f3⟩ := asL_rep s2 r2 q
      obtain ⟨n, xs, ys, z, vs, k1, k2, k3, k4, k5, q5⟩ := chg_of s2 (r.mono e2 s1) h2
      unfold kExt at k5
      by_cases hl : xs.length + zs.length ≤ sizeLine
      · rw [if_pos hl] at k5
        cases k5
        subst f1
        refine ⟨_, b, vs, us, k1, rfl, k3, f2, by rw [k4.length, f3.length]; exact hl, ?_⟩
        obtain ⟨y, sy⟩ := chg_ext (ys := xs ++ zs) (vs := vs ++ us) s2 k2 (k4.append f3)
        exact q5 _ rfl y sy .non .non
      · rw [if_neg hl] at k5
        cases k5
end

/-! ### x += e, xs[i] += e -/
def sAug (i : Nat) (o : Int → Int → Int) (f : Den) : DenS := fun e S => match e[i]? with
  | some (some (.int a)) => (match f e S with | .ok (.int b) S1 => .next (e.set i (some (.int (o a b)))) S1 | .err c v S1 => .err c v e S1 | _ => .bad)
  | _ => .bad
def optR {α β : Type} (x : Option α) (k : α → R β) : R β := match x with | some a => k a | none => .bad
def asI : D → Option Int | .int i => some i | _ => none
def augGet (d j : D) (S : Store) : Option Int := match d, j with
  | .ref n, .int j => if 0 ≤ j ∧ j < 2 ^ 62 then (match S[n]? with
    | some (.lst xs) => (match xs[j.toNat]? with
      | some (.int a) => some a
      | _ => none)
    | _ => none) else none
  | _, _ => none
theorem augGet_of {d j : D} {S : Store} {a : Int} (h : augGet d j S = some a) : ∃ n i xs, d = .ref n ∧ j = .int i ∧ 0 ≤ i ∧ i < 2 ^ 62 ∧ S[n]? = some (.lst xs) ∧ xs[i.toNat]? = some (.int a) := by
  unfold augGet at h
  split at h
  · rename_i n i
    split at h
    · rename_i hi
      split at h
      · rename_i xs hx
        split at h
        · rename_i c hc
          cases h
          exact ⟨n, i, xs, rfl, rfl, hi.1, hi.2, hx, hc⟩
        · cases h
      · cases h
    · cases h
  · cases h
def augF (f : Den) (k : Int → Int → Int) (d j : D) (e : Env) (a : Int) (S : Store) : R D := (f e S).bind fun b S3 => optR (asI b) fun b => chg (kSet j (.int (k a b))) d S3
def augJ (f : Den) (k : Int → Int → Int) (d j : D) (e : Env) (S : Store) : R D := optR (augGet d j S) fun a => augF f k d j e a S
def eAugI (o i : Den) (k : Int → Int → Int) (f : Den) : Den := fun e S => (o e S).bind fun d S1 => (i e S1).bind fun j S2 => augJ f k d j e S2
section
variable {X : Cx} {ca : Nat → Addr} {W : WX} {pos p pos' apos cpos : Pos} {f g h o i : Den} {gs hs : Dens} {a b e eo ei : Expr} {es : List Expr} {w : Wd}
theorem s_aug {i : Nat} {x : Str} {op : Operator} {k : Int → Int → Int} (ho : PIp X op (ipI k)) (hN : X.N.Nodup) (hi : X.N[i]? = some x) (hx : Loc X.env.scope x) (he : PE X a (tE X.K ca W f))
    (hf : X.fn x = true ∨ X.env.scope.names.lookup x = some .local := by first | exact .inl rfl | exact .inr rfl | assumption) : PS X (.AugAssign (.Name x pos') op a pos) (tS X.K ca W (sAug i k f)) :=
  PS.imp (ps_aug hN hi hx he ho hf) fun U σ H ⟨w, env, e, s, m, h⟩ => by
    unfold sAug at h
    cases q : env[i]? with
    | none => rw [q] at h; exact h.elim
    | some od =>
      cases od with
      | none => rw [q] at h; exact h.elim
      | some d =>
        rw [q] at h
        cases d with
        | int a =>
          obtain ⟨v, hv, rv⟩ := m.2 i _ q
          cases rv
          refine ⟨_, hv, ?_⟩
          dsimp only at h
          refine tE_then (k := fun d S1 => match d with | .int b => RS.next (env.set i (some (.int (k a b)))) S1 | _ => .bad) e s m (by
            cases q2 : f env w.S with
            | ok d S1 => rw [q2] at h; cases d <;> exact h
            | err c v S1 => rw [q2] at h; exact h
            | bad => rw [q2] at h; exact h) fun w1 d v s1 m1 r x1 q => ?_
          cases r with
          | int b => exact ⟨a, b, rfl, rfl, Aft.here (w' := w1) q (.refl w1) s1 _ (m1.set i (.int _))⟩
          | _ => exact q.elim
        | _ => exact h.elim
/-- the item of a list at a place from 0 on -/
theorem get_list0 : PGet X (fun x y H Q => ∃ p xs i v, x = .ref p ∧ y = .int i ∧ SqL X.K H p xs ∧ 0 ≤ i ∧ i < 2 ^ 63 ∧ xs[i.toNat]? = some v ∧ Q v H) := by
  intro pins s σ H x y v u Q I rx ry h
  obtain ⟨p, xs, i, z, rfl, rfl, hq, h0, h1, he, q⟩ := h
  cases rx
  obtain ⟨t, rfl⟩ := ry
  obtain ⟨its, r, pl, hz⟩ := I.list hq
  obtain ⟨w, ew, rw'⟩ := r.get he
  exact wpAny_getItem_list pl.isList h0 h1 (by simpa using ew) ⟨z, H, I, rw', q⟩
/-- a reading of a Den given as a statement -/
def rs (env : Env) (r : R D) : RS := match r with | .ok _ S1 => .next env S1 | .err c v S1 => .err c v env S1 | .bad => .bad
theorem rs_then {w : Wd} {env : Env} {σ : St} {H : Hp} {R : V → Hp → Prop} {U : Ends} {k : D → Store → Py.R D} (e : w.H = H) (s : SOk X.K ca w) (m : Sim X.K ca w env σ)
    (h : SatS X.K ca (rs env ((f env w.S).bind k)) w U W)
    (hr : ∀ w1 d v, SOk X.K ca w1 → Sim X.K ca w1 env σ → Rep X.K ca w1 v d → Ext w w1 → SatS X.K ca (rs env (k d w1.S)) w1 U W → R v w1.H) : tE X.K ca W f σ H R :=
  tE_then (k := fun d S => rs env (k d S)) e s m (by
    cases q : f env w.S with
    | ok d S1 => rw [q] at h; exact h
    | err c v S1 => rw [q] at h; exact h
    | bad => rw [q] at h; exact h) hr
theorem s_augI {op : Operator} {k : Int → Int → Int} (hop : PIp X op (ipI k)) (ho : PE X eo (tE X.K ca W o)) (hi : PE X ei (tE X.K ca W i)) (he : PE X a (tE X.K ca W f))
    (ha : ∀ ov iv new, augStore ei ov iv new = (do holding [new, ov, iv] (setItem ov iv new); release [new, ov, iv] []; pure .next) := by intros; rfl) : PS X (.AugAssign (.Subscript eo ei p) op a pos) (tS X.K ca W (sExpr (eAugI o i k f))) :=
  PS.imp (ps_augS ho hi get_list0 he hop set_list ha) fun U σ H ⟨w, env, e, s, m, h⟩ => by
    refine rs_then e s m h fun w1 d dv s1 m1 r1 x1 q1 => ?_
    refine rs_then rfl s1 m1 q1 fun w2 j jv s2 m2 r2 x2 q2 => ?_
    have r1' := r1.mono x2 s1
    unfold augJ at q2
    cases z : augGet d j w2.S with
    | none => rw [z] at q2; exact q2.elim
    | some c =>
      rw [z] at q2
      obtain ⟨n, i, xs, rfl, rfl, h0, h1, hS, hx⟩ := augGet_of z
      obtain ⟨vs, hv, rv⟩ := s2.live n xs hS
      obtain ⟨cv, hc, rc⟩ := rv.get hx
      cases rc
      cases r2
      cases r1' with
      | ref hn =>
        refine ⟨_, vs, i, _, rfl, rfl, .inl (.inl hv), h0, by omega, hc, ?_⟩
        refine rs_then rfl s2 m2 q2 fun w3 b bv s3 m3 r3 x3 q3 => ?_
        cases r3 with
        | int b =>
          refine ⟨c, b, rfl, rfl, ?_⟩
          have q4 : Sat (chg (kSet (.int i) (.int (k c b))) (.ref n) w3.S) (fun _ S => SatS X.K ca (.next env S) w3 U W) (fun _ _ _ => False) := by
            have q3' : SatS X.K ca (rs env (chg (kSet (.int i) (.int (k c b))) (.ref n) w3.S)) w3 U W := q3
            cases q : chg (kSet (.int i) (.int (k c b))) (.ref n) w3.S with
            | ok d S1 => rw [q] at q3'; exact q3'
            | err c v S1 => exact absurd q chg_mute
            | bad => rw [q] at q3'; exact q3'
          have rr : Rep X.K ca w3 (.ref (w2.ρ n)) (.ref n) := (Rep.ref (K := X.K) (ca := ca) hn).mono x3 s2
          obtain ⟨n', xs', ys, z', vs', e1, e2, e3, e4, e5, q5⟩ := chg_of s3 rr q4
          unfold kSet at e5
          dsimp only at e5
          cases q : ixN xs'.length i with
          | none => rw [q] at e5; cases e5
          | some t =>
            rw [q] at e5
            cases e5
            refine ⟨_, vs', i, t, e1, rfl, e3, by rw [e4.length]; exact q, ?_⟩
            obtain ⟨y, sy⟩ := chg_ext (ys := xs'.set t (.int (k c b))) (vs := vs'.set t (.int (k c b))) s3 e2 (e4.set t (.int _))
            exact q5 _ rfl y sy σ (m3.mono y s3)
        | _ => exact q3.elim
end
end Py

set_option maxHeartbeats 4000000
/-! PyI: what only the value reaches, comprehensions, enumerate, zip, calls by keyword, constants of the module, membership. -/
namespace Py
open PySem PySem.Spec PyProof.Rows L2

/-! ### tidy -/
section
variable {K : PySem.W.Frag} {ca : Nat → Addr} {w w1 w2 : Wd}
mutual
theorem mapR_rep {g : Nat → Option D} (hH : w2.H = w1.H) (hM : ∀ a, w2.M a → w1.M a) (hg : ∀ n d', n < w1.S.length → g n = some d' → Rep K ca w2 (.ref (w1.ρ n)) d') : ∀ {v : V} {d d' : D}, Rep K ca w1 v d → mapR g d = some d' → Rep K ca w2 v d'
  | _, _, d', .non, e => by unfold mapR at e; cases e; exact .non
  | _, _, d', .bl b, e => by unfold mapR at e; cases e; exact .bl b
  | _, _, d', .int i, e => by unfold mapR at e; cases e; exact .int i
  | _, _, d', .str x, e => by unfold mapR at e; cases e; exact .str x
  | _, _, d', .tup (ds := ds) h r, e => by
    unfold mapR at e
    cases q : mapRL g ds with
    | none => rw [q] at e; cases e
    | some es =>
      rw [q] at e
      cases e
      exact .tup (by rw [hH]; exact h) (mapRL_rep hH hM hg r q)
  | _, _, d', .lst (ds := ds) h n r, e => by
    unfold mapR at e
    cases q : mapRL g ds with
    | none => rw [q] at e; cases e
    | some es =>
      rw [q] at e
      cases e
      exact .lst (by rw [hH]; exact h) (fun m => n (hM _ m)) (mapRL_rep hH hM hg r q)
  | _, _, d', .ref (n := n) hn, e => by
    unfold mapR at e
    exact hg n d' hn e
  | _, _, d', .dct (ks := ks) (ds := ds) h n l r, e => by
    unfold mapR at e
    cases q : mapRL g ds with
    | none => rw [q] at e; cases e
    | some es =>
      rw [q] at e
      cases e
      exact .dct (by rw [hH]; exact h) (fun m => n (hM _ m)) l (mapRL_rep hH hM hg r q)
  | _, _, d', .fls h, e => by unfold mapR at e; cases e; exact .fls (by rw [hH]; exact h)
  | _, _, d', .exc (x := x) h1 h2 n1 n2 r, e => by
    unfold mapR at e
    cases q : mapR g x with
    | none => rw [q] at e; cases e
    | some es =>
      rw [q] at e
      cases e
      exact .exc (by rw [hH]; exact h1) (by rw [hH]; exact h2) (fun m => n1 (hM _ m)) (fun m => n2 (hM _ m)) (mapR_rep hH hM hg r q)
theorem mapRL_rep {g : Nat → Option D} (hH : w2.H = w1.H) (hM : ∀ a, w2.M a → w1.M a) (hg : ∀ n d', n < w1.S.length → g n = some d' → Rep K ca w2 (.ref (w1.ρ n)) d') : ∀ {vs : List V} {ds ds' : List D}, RepL K ca w1 vs ds → mapRL g ds = some ds' → RepL K ca w2 vs ds'
  | _, _, ds', .nil, e => by unfold mapRL at e; cases e; exact .nil
  | _, _, ds', .cons (d := d) (ds := ds) r t, e => by
    unfold mapRL at e
    cases q : mapR g d with
    | none => rw [q] at e; cases e
    | some y =>
      rw [q] at e
      cases q2 : mapRL g ds with
      | none => rw [q2] at e; cases e
      | some ys =>
        rw [q2] at e
        cases e
        exact .cons (mapR_rep hH hM hg r q) (mapRL_rep hH hM hg t q2)
end
def lowG (m : Nat) : Nat → Option D := fun k => if k < m then some (.ref k) else none
mutual
theorem rep_low : ∀ {v : V} {d : D}, Rep K ca w v d → mapR (lowG w.S.length) d = some d
  | _, _, .non => by unfold mapR; rfl
  | _, _, .bl b => by unfold mapR; rfl
  | _, _, .int i => by unfold mapR; rfl
  | _, _, .str x => by unfold mapR; rfl
  | _, _, .tup h r => by unfold mapR; rw [repL_low r]; rfl
  | _, _, .lst h n r => by unfold mapR; rw [repL_low r]; rfl
  | _, _, .ref hn => by unfold mapR; exact if_pos hn
  | _, _, .fls h => by unfold mapR; rfl
  | _, _, .dct h n l r => by unfold mapR; rw [repL_low r]; rfl
  | _, _, .exc h1 h2 n1 n2 r => by unfold mapR; rw [rep_low r]; rfl
theorem repL_low : ∀ {vs : List V} {ds : List D}, RepL K ca w vs ds → mapRL (lowG w.S.length) ds = some ds
  | _, _, .nil => by unfold mapRL; rfl
  | _, _, .cons r t => by unfold mapRL; rw [rep_low r, repL_low t]; rfl
end
theorem cut_world (x : Ext w w1) (s : SOk K ca w) (s1 : SOk K ca w1) (ho : Old w.S w1.S) :
    let w2 : Wd := ⟨w1.H, w1.ρ, w1.S.take w.S.length⟩
    Ext w w2 ∧ SOk K ca w2 ∧ (∀ a, w2.M a → w1.M a) ∧ (∀ n d', n < w1.S.length → resN w.S.length w1.S 9 n = some d' → Rep K ca w2 (.ref (w1.ρ n)) d') := by
  intro w2
  have hlen : w2.S.length = w.S.length := by
    show (w1.S.take w.S.length).length = w.S.length
    rw [List.length_take]
    exact Nat.min_eq_left x.len
  have at2 : ∀ n o, w2.S[n]? = some o → n < w.S.length ∧ w1.S[n]? = some o := fun n o q => by
    have hn : n < w2.S.length := (List.getElem?_eq_some_iff.mp q).1
    rw [hlen] at hn
    refine ⟨hn, ?_⟩
    have q' : (w1.S.take w.S.length)[n]? = some o := q
    rwa [List.getElem?_take_of_lt hn] at q'
  have hM : ∀ a, w2.M a → w1.M a := fun a ⟨n, xs, q, e⟩ => ⟨n, xs, (at2 n _ q).2, e⟩
  have low : ∀ n d', n < w1.S.length → lowG w.S.length n = some d' → Rep K ca w2 (.ref (w1.ρ n)) d' := fun n d' _ e => by
    unfold lowG at e
    by_cases hn : n < w.S.length
    · rw [if_pos hn] at e
      cases e
      exact Rep.ref (w := w2) (by rw [hlen]; exact hn)
    · rw [if_neg hn] at e; cases e
  have e2 : Ext w w2 := {
    keep := fun a o q nM => x.keep a o q nM
    fresh := fun a m => x.fresh a (hM a m)
    rho := fun n hn => x.rho n hn
    len := Nat.le_of_eq hlen.symm }
  have s2 : SOk K ca w2 := {
    live := fun n xs q => by
      obtain ⟨hn, q1⟩ := at2 n _ q
      obtain ⟨vs, hv, rv⟩ := s1.live n xs q1
      refine ⟨vs, hv, ?_⟩
      have hl : mapRL (lowG w.S.length) xs = some xs := by
        rcases ho n hn with z | ⟨ys, z, zl⟩
        · rw [q1] at z
          obtain ⟨us, _, ru⟩ := s.live n xs z.symm
          exact repL_low ru
        · rw [q1] at z
          cases z
          exact zl
      exact mapRL_rep (w1 := w1) (w2 := w2) rfl hM low rv hl
    inj := fun n m xs ys q1 q2 e => s1.inj n m xs ys (at2 n _ q1).2 (at2 m _ q2).2 e }
  refine ⟨e2, s2, hM, ?_⟩
  have all : ∀ f n d', n < w1.S.length → resN w.S.length w1.S f n = some d' → Rep K ca w2 (.ref (w1.ρ n)) d' := by
    intro f
    induction f with
    | zero =>
      intro n d' hn e
      exact low n d' hn e
    | succ f ih =>
      intro n d' hn e
      unfold resN at e
      by_cases hl : n < w.S.length
      · rw [if_pos hl] at e
        exact low n d' hn (by unfold lowG; rw [if_pos hl]; exact e)
      · rw [if_neg hl] at e
        cases q : w1.S[n]? with
        | none => rw [q] at e; cases e
        | some o =>
          cases o with
          | dead => rw [q] at e; cases e
          | lst xs =>
            rw [q] at e
            dsimp only at e
            cases q2 : mapRL (resN w.S.length w1.S f) xs with
            | none => rw [q2] at e; cases e
            | some ys =>
              rw [q2] at e
              cases e
              obtain ⟨vs, hv, rv⟩ := s1.live n xs q
              refine .lst hv (fun ⟨k, zs, qk, ek⟩ => ?_) (mapRL_rep (w1 := w1) (w2 := w2) rfl hM ih rv q2)
              obtain ⟨hk, qk1⟩ := at2 k _ qk
              have := s1.inj k n zs xs qk1 q ek
              omega
  exact all 9
theorem tidy_imp {r : R D} {Q : VK} {RR : Value → Option Addr → Hp → Prop} (s : SOk K ca w) (h : Sat (tidy w.S r) (QV K ca w Q) (fun c x S => Aft K ca w S fun w' => ∀ cls dd, ExIn K ca w' cls dd c x → RR cls dd w'.H)) :
    Sat r (QV K ca w Q) (fun c x S => Aft K ca w S fun w' => ∀ cls dd, ExIn K ca w' cls dd c x → RR cls dd w'.H) := by
  cases r with
  | bad => exact h
  | ok d S' =>
    unfold tidy at h
    dsimp only at h
    by_cases hl : S'.length ≤ w.S.length
    · rw [if_pos hl] at h; exact h
    · rw [if_neg hl] at h
      cases q : res w.S.length S' d with
      | none => rw [q] at h; exact h
      | some d' =>
        rw [q] at h
        dsimp only at h
        by_cases ho : Old w.S S'
        · rw [if_pos ho] at h
          intro w1 hS x s1 v rv
          subst hS
          obtain ⟨x2, s2, hM, hg⟩ := cut_world x s s1 ho
          exact h ⟨w1.H, w1.ρ, w1.S.take w.S.length⟩ rfl x2 s2 v (mapR_rep (w1 := w1) (w2 := ⟨w1.H, w1.ρ, w1.S.take w.S.length⟩) rfl hM hg rv q)
        · rw [if_neg ho] at h; exact h
  | err c d S' =>
    unfold tidy at h
    dsimp only at h
    by_cases hl : S'.length ≤ w.S.length
    · rw [if_pos hl] at h; exact h
    · rw [if_neg hl] at h
      cases q : res w.S.length S' d with
      | none => rw [q] at h; exact h
      | some d' =>
        rw [q] at h
        dsimp only at h
        by_cases ho : Old w.S S'
        · rw [if_pos ho] at h
          intro w1 hS x s1 cls dd ex
          subst hS
          obtain ⟨x2, s2, hM, hg⟩ := cut_world x s s1 ho
          obtain ⟨e1, a, v, e2, e3, e4, rv⟩ := ex
          exact h ⟨w1.H, w1.ρ, w1.S.take w.S.length⟩ rfl x2 s2 cls dd ⟨e1, a, v, e2, e3, fun m => e4 (hM _ m), mapR_rep (w1 := w1) (w2 := ⟨w1.H, w1.ρ, w1.S.take w.S.length⟩) rfl hM hg rv q⟩
        · rw [if_neg ho] at h; exact h
end
/-- a def whose own lists do not go out -/
theorem fn_tidy {P : Program} {w : World} {K : PySem.W.Frag} {ca : Nat → Addr} {mg : Str → Option Value} {base : Heap} {x qual : Str} {params : Arguments} {body : List Stmt} {scope : Scope} {dvs : List V} {kws : List (Str × V)} {f : Addr} {fd : FuncData} {N ps : List Str} {k i : Nat} {Γ' : Calls} {F : DenS}
    (Fd : FunD K x qual params body scope dvs kws f fd) (S : FnScope N ps scope) (hΓ : ∀ args St, args.length = ps.length → Γ' i args St = runTidy F N.length args St)
    (hb : ∀ (cdv : Value) (A : Around) (outer : List PySem.Env) (s : Shared) (H : Hp) (E : XK), Room k (A.deeper (envOfC qual scope s.heap.objs.size f cdv)) →
      PSs (cxOf (L2.CX P w) P w K mg base N qual scope f cdv A outer s H E) body (tS K ca (fun cls d _ H => E cls d H) F)) :
    FnOk P w K mg base (L2.CX P w) (k + 1) f fd ps (spF K ca Γ' i ps.length) := by
  have base0 := fn_body (Γ' := fun _ args St => runBody F N.length args St) (i := i) Fd S (fun _ _ _ => rfl) hb
  refine ⟨fun vs H Q E h => by obtain ⟨_, _, _, hl, _⟩ := h; exact hl, fun A outer s H args us vs Q E hr he hb r h => base0.run A outer s H args us vs Q E hr he hb r ?_⟩
  obtain ⟨w0, ds, e, hl, sk, r, h⟩ := h
  refine ⟨w0, ds, e, hl, sk, r, ?_⟩
  rw [hΓ ds w0.S (by rw [← r.length]; exact hl)] at h
  exact tidy_imp sk h

/-! ### targets of a comprehension -/
section
variable {X : Cx} {ca : Nat → Addr} {W : WX} {pos pos' p apos cpos : Pos} {f g h o i : Den} {gs hs : Dens} {a b e elt eo ei : Expr} {es ifs : List Expr} {w : Wd}
theorem wipe_get : ∀ (σ : St) (vs : List Nat) (i : Nat), (wipe σ vs)[i]? = if i ∈ vs then σ[i]?.map (fun _ => none) else σ[i]?
  | σ, [], i => by simp [wipe]
  | σ, v :: vs, i => by
    unfold wipe
    rw [List.getElem?_set]
    by_cases hv : v = i
    · subst hv
      rw [if_pos rfl, wipe_length]
      by_cases hl : v < σ.length
      · rw [if_pos hl, if_pos List.mem_cons_self, List.getElem?_eq_getElem hl]
        rfl
      · rw [if_neg hl, if_pos List.mem_cons_self, List.getElem?_eq_none (Nat.le_of_not_lt hl)]
        rfl
    · rw [if_neg hv, wipe_get σ vs i]
      have : (i ∈ v :: vs) ↔ i ∈ vs := by simp [Ne.symm hv]
      simp only [this]
theorem wipe_set {σ : St} {vs : List Nat} {i : Nat} {x : Option V} (h : i ∈ vs) : wipe (σ.set i x) vs = wipe σ vs := by
  apply List.ext_getElem?
  intro j
  rw [wipe_get, wipe_get]
  by_cases hj : j ∈ vs
  · rw [if_pos hj, if_pos hj, List.getElem?_set]
    by_cases e : i = j
    · subst e
      rw [if_pos rfl]
      by_cases hl : i < σ.length
      · rw [if_pos hl, List.getElem?_eq_getElem hl]; rfl
      · rw [if_neg hl, List.getElem?_eq_none (Nat.le_of_not_lt hl)]
    · rw [if_neg e]
  · rw [if_neg hj, if_neg hj, List.getElem?_set_ne (fun e => hj (by rw [← e]; exact h))]
theorem wipe_wipe {σ : St} {vs : List Nat} : wipe (wipe σ vs) vs = wipe σ vs := by
  apply List.ext_getElem?
  intro j
  rw [wipe_get, wipe_get]
  by_cases hj : j ∈ vs
  · rw [if_pos hj, if_pos hj, Option.map_map]; rfl
  · rw [if_neg hj, if_neg hj]
theorem Sim.wipe {env : Env} {σ : St} (h : Sim X.K ca w env σ) : ∀ vs : List Nat, Sim X.K ca w (wipeE env vs) (L2.wipe σ vs)
  | [] => h
  | v :: vs => (Sim.wipe h vs).unset v
def tGv (K : PySem.W.Frag) (ca : Nat → Addr) (vs : List Nat) (g : Tgt) : TG := fun v σ H Q => ∃ w env d e', w.H = H ∧ SOk K ca w ∧ Sim K ca w env σ ∧ Rep K ca w v d ∧ g d env w.S = some e' ∧ ∀ σ', Sim K ca w e' σ' → L2.wipe σ' vs = L2.wipe σ vs → Q σ' H
def tGvs (K : PySem.W.Frag) (ca : Nat → Addr) (vs : List Nat) (gs : List Tgt) : TGs := fun us σ H Q => ∃ w env ds e', w.H = H ∧ SOk K ca w ∧ Sim K ca w env σ ∧ RepL K ca w us ds ∧ gAll gs ds env w.S = some e' ∧ ∀ σ', Sim K ca w e' σ' → L2.wipe σ' vs = L2.wipe σ vs → Q σ' H
theorem gv_name {i : Nat} {vs : List Nat} {x : Str} (hv : i ∈ vs) (hN : X.N.Nodup) (hi : X.N[i]? = some x) (hx : Loc X.env.scope x) (hf : X.fn x = true ∨ X.env.scope.names.lookup x = some .local := by first | exact .inl rfl | exact .inr rfl | assumption) : PG X (.Name x pos) (tGv X.K ca vs (gNm i)) :=
  ⟨fun pins s σ H v u Q I r h => (pg_name hN hi hx hf).run pins s σ H v u Q I r (by
    obtain ⟨w, env, d, e', e, sk, m, rp, hg, q⟩ := h
    have he : e' = env.set i (some d) := (Option.some.inj hg).symm
    subst he
    exact q _ (m.set i rp) (wipe_set hv))⟩
theorem gvs_nil {vs : List Nat} : PGs X [] (tGvs X.K ca vs []) := ⟨fun pins s σ H us zs Q I r h => pgs_nil.run pins s σ H us zs Q I r (by
  obtain ⟨w, env, ds, e', e, sk, m, rp, hg, q⟩ := h
  cases rp with
  | nil =>
    have he : e' = env := (Option.some.inj hg).symm
    subst he
    exact ⟨rfl, q _ m rfl⟩
  | cons _ _ => cases hg)⟩
theorem gvs_cons {vs : List Nat} {t : Tgt} {ts : List Tgt} {es : List Expr} (h1 : PG X a (tGv X.K ca vs t)) (h2 : PGs X es (tGvs X.K ca vs ts))
    (hs : (assignEach (a :: es) X.env).map (·.2) = assign a X.env :: (assignEach es X.env).map (·.2) := by rfl) : PGs X (a :: es) (tGvs X.K ca vs (t :: ts)) :=
  ⟨fun pins s σ H us zs Q I r h => (pgs_cons h1 h2 hs).run pins s σ H us zs Q I r (by
    obtain ⟨w, env, ds, e', e, sk, m, rp, hg, q⟩ := h
    cases rp with
    | nil => cases hg
    | @cons v d us ds rv rt =>
      refine ⟨v, us, rfl, ?_⟩
      unfold gAll at hg
      cases z : t d env w.S with
      | none => rw [z] at hg; cases hg
      | some e1 =>
        rw [z] at hg
        exact ⟨w, env, d, e1, e, sk, m, rv, z, fun σ1 m1 k1 => ⟨w, e1, ds, e', e, sk, m1, rt, hg, fun σ2 m2 k2 => q σ2 m2 (k2.trans k1)⟩⟩)⟩
theorem gv_tup {vs : List Nat} {ts : List Tgt} {es : List Expr} {k : Nat} (hc : X.calm = true) (h : PGs X es (tGvs X.K ca vs ts)) (hl : ts.length = es.length := by rfl)
    (hn : (assignEach es X.env).length = es.length := by rfl) (hst : (assignEach es X.env).findIdx? (·.1) = none := by rfl) : PG X (.Tuple es k pos) (tGv X.K ca vs (gTup ts)) :=
  ⟨fun pins s σ H v u Q I r h0 => by
    obtain ⟨w, env, d, e', e, sk, m, rp, hg, q⟩ := h0
    subst e
    cases rp with
    | @tup a us ds hq ra =>
      have hlen := gAll_length hg
      exact (pg_tup hc h (n := es.length) hn hst).run pins s σ w.H _ u Q I r ⟨a, us, rfl, hq, by rw [ra.length, hlen, hl], ⟨w, env, ds, e', rfl, sk, m, ra, hg, q⟩⟩
    | @lst a us ds hq hM ra =>
      have hlen := gAll_length hg
      exact (pg_lst hc h (n := es.length) hn hst).run pins s σ w.H _ u Q I r ⟨a, us, rfl, .inl (.inl hq), by rw [ra.length, hlen, hl], ⟨w, env, ds, e', rfl, sk, m, ra, hg, q⟩⟩
    | _ => cases hg⟩

/-! ### the comprehension -/
abbrev W0 : WX := fun _ _ _ _ => False
theorem lc_core2 {vs : List Nat} {t : DenT} {g : Tgt} {wk : Walk} {J : It} {env : Env} {σ : St} {n : Nat} {Q : VK} (s : SOk X.K ca w) (m : Sim X.K ca w env σ) (hJ : ItOk X.K ca w J wk)
    (h : Sat ((lcW g t f wk (wipeE env vs) w.S.length n 0 (w.S ++ [.lst []])).bind fun _ S2 => .ok (.ref w.S.length) S2) (QV X.K ca w Q) (fun _ _ _ => False)) :
    ∀ D, w.H D = none → ∃ Wi : Nat → Nat → Hp → Prop, (∃ m, Wi 0 m (upd w.H D (.lst []))) ∧ ∀ i m H, Wi i m H →
      (J.stop i H ∧ Q (.ref D) H) ∨ (J.go i H ∧ ∃ Nx : Hp → Prop, (∀ H', Nx H' → ∃ m', m' < m ∧ Wi (i + 1) m' H') ∧ ∀ x H', J.yld i H x H' → tGv X.K ca vs g x (wipe σ vs) H' fun σ2 H2 => wipe σ2 vs = wipe σ vs ∧ tT X.K ca W0 t σ2 H2 fun b H3 =>
        if b = true then tE X.K ca W0 f σ2 H3 fun y H4 => ∃ acc, H4 D = some (.lst acc) ∧ acc.length < sizeLine ∧ Nx (upd H4 D (.lst (acc ++ [y]))) else Nx H3) := by
  intro A hA
  obtain ⟨x1, s1⟩ := new_ext (X := X) (ca := ca) (p := A) (vs := []) (ds := []) s hA .nil
  generalize hw1 : (⟨upd w.H A (.lst []), fun n => if n = w.S.length then A else w.ρ n, w.S ++ [.lst []]⟩ : Wd) = w1 at x1 s1
  have hn1 : w.S.length < w1.S.length := by rw [← hw1]; show _ < (w.S ++ [O.lst []]).length; rw [List.length_append]; exact Nat.lt_succ_self _
  have hρ : w1.ρ w.S.length = A := by rw [← hw1]; exact if_pos rfl
  have hS1 : w1.S = w.S ++ [.lst []] := by rw [← hw1]
  have hH1 : w1.H = upd w.H A (.lst []) := by rw [← hw1]
  refine ⟨fun i k H => ∃ w2, w2.H = H ∧ Ext w1 w2 ∧ SOk X.K ca w2 ∧ Sat (lcW g t f wk (wipeE env vs) w.S.length k i w2.S) (fun _ S2 => QV X.K ca w2 Q (.ref w.S.length) S2) (fun _ _ _ => False), ⟨n, w1, hH1, .refl w1, s1, ?_⟩, ?_⟩
  · rw [hS1]
    exact (Sat.bind h).mono (fun _ S2 q => QV.later x1 q) fun _ _ _ q => q
  rintro i k H ⟨w2, rfl, x2, s2, h2⟩
  have hA2 : w2.ρ w.S.length = A := (x2.rho _ hn1).trans hρ
  have stop : wk i w2.S = some none → QV X.K ca w2 Q (.ref w.S.length) w2.S → J.stop i w2.H ∧ Q (.ref A) w2.H := fun z q => by
    refine ⟨hJ.stops i w2 (x1.trans x2) s2 z, ?_⟩
    have rr : Rep X.K ca w2 (.ref (w2.ρ w.S.length)) (.ref w.S.length) := .ref (Nat.lt_of_lt_of_le hn1 x2.len)
    rw [hA2] at rr
    exact sat_here s2 q rr
  cases k with
  | zero =>
    unfold lcW at h2
    cases z : wk i w2.S with
    | none => rw [z] at h2; exact h2.elim
    | some o =>
      cases o with
      | some d => rw [z] at h2; exact h2.elim
      | none => rw [z] at h2; exact .inl (stop z h2)
  | succ k =>
    unfold lcW at h2
    cases z : wk i w2.S with
    | none => rw [z] at h2; exact h2.elim
    | some o =>
      cases o with
      | none => rw [z] at h2; exact .inl (stop z h2)
      | some d =>
        rw [z] at h2
        dsimp only at h2
        refine .inr ⟨hJ.goes i w2 d (x1.trans x2) s2 z, fun H' => ∃ w3, w3.H = H' ∧ Ext w1 w3 ∧ SOk X.K ca w3 ∧ Sat (lcW g t f wk (wipeE env vs) w.S.length k (i + 1) w3.S) (fun _ S2 => QV X.K ca w3 Q (.ref w.S.length) S2) (fun _ _ _ => False),
          fun H' q => ⟨k, Nat.lt_succ_self k, q⟩, fun x H' y => ?_⟩
        obtain ⟨w3, eH, eS, x3, s3, rd⟩ := hJ.yields i w2 d x H' (x1.trans x2) s2 z y
        rw [← eS] at h2
        cases zt : g d (wipeE env vs) w3.S with
        | none => rw [zt] at h2; exact h2.elim
        | some e1 =>
          rw [zt] at h2
          dsimp only at h2
          have mw := (m.mono (x1.trans (x2.trans x3)) s).wipe vs
          refine ⟨w3, _, d, e1, eH, s3, mw, rd, zt, fun σ2 m2 k2 => ⟨k2.trans wipe_wipe, w3, e1, eH, s3, m2, ?_⟩⟩
          cases zb : t e1 w3.S with
          | bad => rw [zb] at h2; exact h2.elim
          | err c v S1 => rw [zb] at h2; exact h2.elim
          | ok b S1 =>
            rw [zb] at h2
            intro w4 hS x4 s4
            subst hS
            cases b with
            | false =>
              exact iteF ⟨w4, rfl, x2.trans (x3.trans x4), s4, h2.mono (fun _ S2 q => QV.later (x3.trans x4) q) fun _ _ _ q => q⟩
            | true =>
              refine iteT ⟨w4, e1, rfl, s4, m2.mono x4 s3, ?_⟩
              dsimp only at h2
              cases zf : f e1 w4.S with
              | bad => rw [zf] at h2; exact h2.elim
              | err c v S1 => rw [zf] at h2; exact h2.elim
              | ok dy S2 =>
                rw [zf] at h2
                intro w5 hS x5 s5 yv ry
                subst hS
                dsimp only at h2
                cases zs : w5.S[w.S.length]? with
                | none => rw [zs] at h2; exact h2.elim
                | some u =>
                  cases u with
                  | dead => rw [zs] at h2; exact h2.elim
                  | lst acc =>
                    rw [zs] at h2
                    dsimp only at h2
                    by_cases hl : acc.length < sizeLine
                    · rw [if_pos hl] at h2
                      obtain ⟨us, hu, ru⟩ := s5.live _ acc zs
                      have e5 : w5.ρ w.S.length = A := (((x2.trans (x3.trans (x4.trans x5)))).rho _ hn1).trans hρ
                      obtain ⟨y6, s6⟩ := chg_ext (ys := acc ++ [dy]) (vs := us ++ [yv]) s5 zs (ru.append (.cons ry .nil))
                      rw [e5] at hu y6 s6
                      refine ⟨us, hu, by rw [ru.length]; exact hl, _, rfl, (x2.trans (x3.trans (x4.trans x5))).trans y6, s6, ?_⟩
                      exact h2.mono (fun _ S2 q => QV.later (x3.trans (x4.trans (x5.trans y6))) q) fun _ _ _ q => q
                    · rw [if_neg hl] at h2; exact h2.elim
theorem lcW_mute {g : Tgt} {t : DenT} {wk : Walk} {e0 : Env} {n : Nat} {c : Nat} {v : D} {S2 : Store} : ∀ (k i : Nat) (S : Store), lcW g t f wk e0 n k i S ≠ .err c v S2
  | 0, i, S => by unfold lcW; split <;> simp
  | k + 1, i, S => by
    unfold lcW
    split
    · simp
    · simp
    · split
      · simp
      · split
        · split
          · split
            · split
              · exact lcW_mute k _ _
              · simp
            · simp
          · simp
        · exact lcW_mute k _ _
        · simp
theorem lc_fin {g : Tgt} {t : DenT} {wk : Walk} {e0 : Env} {n k : Nat} {S : Store} {Q : D → Store → Prop} {E : Nat → D → Store → Prop} (h : Sat ((lcW g t f wk e0 n k 0 S).bind fun _ S2 => .ok (.ref n) S2) Q E) : Sat ((lcW g t f wk e0 n k 0 S).bind fun _ S2 => .ok (D.ref n) S2) Q (fun _ _ _ => False) := by
  cases z : lcW g t f wk e0 n k 0 S with
  | ok u S2 => rw [z] at h; exact h
  | err c v S2 => exact absurd z (lcW_mute k 0 S)
  | bad => rw [z] at h; exact h
theorem lc_impN {vs : List Nat} {gi : DenI} {t : DenT} {g : Tgt} {σ : St} {H : Hp} {Q : VK} (h : tE X.K ca W (eLcN vs gi g t f) σ H Q) : tLc (tIt X.K ca W gi) (tGv X.K ca vs g) (tT X.K ca W0 t) (tE X.K ca W0 f) vs σ H Q := by
  obtain ⟨w, env, e, s, m, h⟩ := h
  refine ⟨w, env, e, s, m, (Sat.bind h).mono (fun wn S1 q => ?_) fun _ _ _ q => q⟩
  intro w1 hS x1 s1 J hJ
  subst hS
  exact lc_core2 (n := wn.2) s1 (m.mono x1 s) hJ (lc_fin (q.mono (fun d S z => QV.later x1 z) fun c v S z => QE.later x1 z))
theorem lc_imp {vs : List Nat} {gi : DenI} {t : DenT} {g : Tgt} {σ : St} {H : Hp} {Q : VK} (h : tE X.K ca W (eLc vs gi g t f) σ H Q) : tLc (tIt X.K ca W gi) (tGv X.K ca vs g) (tT X.K ca W0 t) (tE X.K ca W0 f) vs σ H Q := by
  obtain ⟨w, env, e, s, m, h⟩ := h
  refine ⟨w, env, e, s, m, (Sat.bind h).mono (fun wn S1 q => ?_) fun _ _ _ q => q⟩
  intro w1 hS x1 s1 J hJ
  subst hS
  exact lc_core2 (n := wn.2) s1 (m.mono x1 s) hJ (lc_fin (tidy_imp (RR := fun cls dd H => W cls dd σ H) s1 (q.mono (fun d S z => QV.later x1 z) fun c v S z => QE.later x1 z)))
theorem pts0 : PTs X [] (tT X.K ca W0 tYesD) := ⟨fun pins s σ H Q I h => pts_nil.run pins s σ H Q I (by
  obtain ⟨w, env, e, s, m, h⟩ := h
  subst e
  exact Aft.here (w' := w) h (.refl w) s)⟩
theorem pts1 {t : DenT} (h : PT X a (tT X.K ca W0 t)) : PTs X [a] (tT X.K ca W0 t) := pts_one h
end
end Py

set_option maxHeartbeats 4000000
/-! PyJ: comprehensions as expressions, enumerate, zip, calls by keyword, constants of the module, membership, isinstance, an exception's value. -/
namespace Py
open PySem PySem.Spec PyProof.Rows L2

section
variable {X : Cx} {ca : Nat → Addr} {W : WX} {pos pos' p apos cpos spos py : Pos} {f g h o i : Den} {gs hs : Dens} {a b e elt eo ei tg iter : Expr} {es ifs : List Expr} {w : Wd}
theorem e_lc {scope : Scope} {own : List (Str × Nat)} {vs : List Nat} {gi : DenI} {t : DenT} {g : Tgt} (hc : X.calm = true) (hN : X.N.Nodup) (hv : own.map (·.2) = vs) (hi : PI X tg iter (tIt X.K ca W gi)) (ok : BlkOk X.N X.env.scope scope own)
    (hg : ∀ (s : Shared) (H : Hp) (C : Addr) (cl : List (Str × Addr)) (fp : List Addr), PG (X.blk s H scope (compEnvC scope cl C X.env) fp) tg (tGv X.K ca vs g))
    (ht : ∀ (s : Shared) (H : Hp) (C : Addr) (cl : List (Str × Addr)) (fp : List Addr), PTs (X.blk s H scope (compEnvC scope cl C X.env) fp) ifs (tT X.K ca W0 t))
    (he : ∀ (s : Shared) (H : Hp) (C : Addr) (cl : List (Str × Addr)) (fp : List Addr), PE (X.blk s H scope (compEnvC scope cl C X.env) fp) elt (tE X.K ca W0 f)) (hs : ∀ x, foldedSetIterable iter X.env x = pure x := by intro _; rfl) :
    PE X (.ListComp elt [⟨tg, iter, ifs, 0⟩] scope pos) (tE X.K ca W (eLc vs gi g t f)) := by
  subst hv
  exact PE.imp (pe_lc hc hN hi ok hg ht he hs) fun _ _ _ h => lc_imp h
theorem e_lcN {scope : Scope} {own : List (Str × Nat)} {vs : List Nat} {gi : DenI} {t : DenT} {g : Tgt} (hc : X.calm = true) (hN : X.N.Nodup) (hv : own.map (·.2) = vs) (hi : PI X tg iter (tIt X.K ca W gi)) (ok : BlkOk X.N X.env.scope scope own)
    (hg : ∀ (s : Shared) (H : Hp) (C : Addr) (cl : List (Str × Addr)) (fp : List Addr), PG (X.blk s H scope (compEnvC scope cl C X.env) fp) tg (tGv X.K ca vs g))
    (ht : ∀ (s : Shared) (H : Hp) (C : Addr) (cl : List (Str × Addr)) (fp : List Addr), PTs (X.blk s H scope (compEnvC scope cl C X.env) fp) ifs (tT X.K ca W0 t))
    (he : ∀ (s : Shared) (H : Hp) (C : Addr) (cl : List (Str × Addr)) (fp : List Addr), PE (X.blk s H scope (compEnvC scope cl C X.env) fp) elt (tE X.K ca W0 f)) (hs : ∀ x, foldedSetIterable iter X.env x = pure x := by intro _; rfl) :
    PE X (.ListComp elt [⟨tg, iter, ifs, 0⟩] scope pos) (tE X.K ca W (eLcN vs gi g t f)) := by
  subst hv
  exact PE.imp (pe_lc hc hN hi ok hg ht he hs) fun _ _ _ h => lc_impN h
theorem s_lc {scope : Scope} {own : List (Str × Nat)} {vs : List Nat} {gi : DenI} {t : DenT} {g : Tgt} {k : Nat} {y : Str} (hc : X.calm = true) (hN : X.N.Nodup) (hy : X.N[k]? = some y) (hyl : X.env.scope.names.lookup y = some .local)
    (hsw : swapsWith (.ListComp elt [⟨tg, iter, ifs, 0⟩] scope pos) (some (.Name y py)) spos.line X.env = pure true) (hv : own.map (·.2) = vs) (hi : PI X tg iter (tIt X.K ca W gi)) (ok : BlkOk X.N X.env.scope scope own)
    (hg : ∀ (s : Shared) (H : Hp) (C : Addr) (cl : List (Str × Addr)) (fp : List Addr), PG (X.blk s H scope (compEnvC scope cl C X.env) fp) tg (tGv X.K ca vs g))
    (ht : ∀ (s : Shared) (H : Hp) (C : Addr) (cl : List (Str × Addr)) (fp : List Addr), PTs (X.blk s H scope (compEnvC scope cl C X.env) fp) ifs (tT X.K ca W0 t))
    (he : ∀ (s : Shared) (H : Hp) (C : Addr) (cl : List (Str × Addr)) (fp : List Addr), PE (X.blk s H scope (compEnvC scope cl C X.env) fp) elt (tE X.K ca W0 f)) (hs : ∀ x, foldedSetIterable iter X.env x = pure x := by intro _; rfl) :
    PS X (.Assign [.Name y py] (.ListComp elt [⟨tg, iter, ifs, 0⟩] scope pos) spos) (tS X.K ca W (sSet k (eLc vs gi g t f))) := by
  subst hv
  exact s_setOf (ps_setLc hc hN hy hyl hsw hi ok hg ht he hs) fun _ _ _ h => lc_imp h
theorem s_lcN {scope : Scope} {own : List (Str × Nat)} {vs : List Nat} {gi : DenI} {t : DenT} {g : Tgt} {k : Nat} {y : Str} (hc : X.calm = true) (hN : X.N.Nodup) (hy : X.N[k]? = some y) (hyl : X.env.scope.names.lookup y = some .local)
    (hsw : swapsWith (.ListComp elt [⟨tg, iter, ifs, 0⟩] scope pos) (some (.Name y py)) spos.line X.env = pure true) (hv : own.map (·.2) = vs) (hi : PI X tg iter (tIt X.K ca W gi)) (ok : BlkOk X.N X.env.scope scope own)
    (hg : ∀ (s : Shared) (H : Hp) (C : Addr) (cl : List (Str × Addr)) (fp : List Addr), PG (X.blk s H scope (compEnvC scope cl C X.env) fp) tg (tGv X.K ca vs g))
    (ht : ∀ (s : Shared) (H : Hp) (C : Addr) (cl : List (Str × Addr)) (fp : List Addr), PTs (X.blk s H scope (compEnvC scope cl C X.env) fp) ifs (tT X.K ca W0 t))
    (he : ∀ (s : Shared) (H : Hp) (C : Addr) (cl : List (Str × Addr)) (fp : List Addr), PE (X.blk s H scope (compEnvC scope cl C X.env) fp) elt (tE X.K ca W0 f)) (hs : ∀ x, foldedSetIterable iter X.env x = pure x := by intro _; rfl) :
    PS X (.Assign [.Name y py] (.ListComp elt [⟨tg, iter, ifs, 0⟩] scope pos) spos) (tS X.K ca W (sSet k (eLcN vs gi g t f))) := by
  subst hv
  exact s_setOf (ps_setLc hc hN hy hyl hsw hi ok hg ht he hs) fun _ _ _ h => lc_impN h
end

/-! ### enumerate, zip -/
def lsW (d : D) (S : Store) : Option (Walk × Nat) := match d with
  | .lst xs => some (wkL xs, xs.length)
  | .ref n => (match S[n]? with | some (.lst xs) => some (wkR n, xs.length) | _ => none)
  | _ => none
def dEnumL (f : Den) : DenI := fun e S => (f e S).bind fun d S1 => optR (lsW d S1) fun w => .ok (wkE w.1, w.2) S1
def zipW (a b : D) (S : Store) : Option (Walk × Nat) := match a, b with
  | .tup xs, .tup ys => some (wkZ (wkL xs) (wkL ys), min xs.length ys.length)
  | a, b => (lsW a S).bind fun w => (lsW b S).map fun v => (wkZ w.1 v.1, min w.2 v.2)
def dZip2 (f g : Den) : DenI := fun e S => (f e S).bind fun a S1 => (g e S1).bind fun b S2 => optR (zipW a b S2) fun w => .ok w S2
section
variable {X : Cx} {ca : Nat → Addr} {W : WX} {pos pos' p apos cpos tpos : Pos} {f g h o i : Den} {gs hs : Dens} {a b e elt eo ei : Expr} {es elts : List Expr} {w : Wd}
theorem lsW_ok {d : D} {v : V} {wn : Walk × Nat} (s : SOk X.K ca w) (r : Rep X.K ca w v d) (h : lsW d w.S = some wn) : ∃ a vs, v = .ref a ∧ w.H a = some (.lst vs) ∧ ItOk X.K ca w (Itl X.K a) wn.1 := by
  cases r with
  | @lst a vs ds h1 n r =>
    cases h
    exact ⟨a, vs, rfl, h1, itl_ok s h1 n r⟩
  | @ref n hn =>
    unfold lsW at h
    dsimp only at h
    cases q : w.S[n]? with
    | none => rw [q] at h; cases h
    | some u =>
      cases u with
      | dead => rw [q] at h; cases h
      | lst xs =>
        rw [q] at h
        cases h
        obtain ⟨vs, hv, _⟩ := s.live n xs q
        exact ⟨_, vs, rfl, hv, itref_ok hn⟩
  | _ => cases h
theorem wkE_of {wk : Walk} {i : Nat} {S : Store} {d : D} (h : wkE wk i S = some (some d)) : ∃ x, wk i S = some (some x) ∧ d = .tup [.int i, x] := by
  unfold wkE at h
  cases q : wk i S with
  | none => rw [q] at h; cases h
  | some o =>
    cases o with
    | none => rw [q] at h; cases h
    | some x => rw [q] at h; cases h; exact ⟨x, rfl, rfl⟩
theorem wkE_end {wk : Walk} {i : Nat} {S : Store} (h : wkE wk i S = some none) : wk i S = some none := by
  unfold wkE at h
  cases q : wk i S with
  | none => rw [q] at h; cases h
  | some o =>
    cases o with
    | none => rfl
    | some x => rw [q] at h; cases h
theorem ite_ok {A : Addr} {wk : Walk} (h : ItOk X.K ca w (Itl X.K A) wk) : ItOk X.K ca w (Ite X.K A) (wkE wk) where
  goes := fun i w2 d e s2 hi => by
    obtain ⟨x, hx, _⟩ := wkE_of hi
    exact h.goes i w2 x e s2 hx
  stops := fun i w2 e s2 hi => h.stops i w2 e s2 (wkE_end hi)
  yields := fun i w2 d x H' e s2 hi y => by
    obtain ⟨z, hz, rfl⟩ := wkE_of hi
    obtain ⟨T, v, rfl, hT, rfl, hv⟩ := y
    obtain ⟨w3, e1, e2, x3, s3, r3⟩ := h.yields i w2 z v w2.H e s2 hz ⟨rfl, hv⟩
    have hT3 : w3.H T = none := by rw [e1]; exact hT
    have y3 := Ext.alloc (w := w3) (o := .tup [.int (i : Nat), v]) hT3
    refine ⟨⟨upd w3.H T (.tup [.int (i : Nat), v]), w3.ρ, w3.S⟩, by rw [← e1], e2, x3.trans y3, s3.alloc hT3, .tup (.inl (.inl upd_same)) (.cons (.int _) (.cons (r3.mono y3 s3) .nil))⟩
theorem wkZ_of {wk wl : Walk} {i : Nat} {S : Store} {d : D} (h : wkZ wk wl i S = some (some d)) : ∃ x y, wk i S = some (some x) ∧ wl i S = some (some y) ∧ d = .tup [x, y] := by
  unfold wkZ at h
  split at h
  · rename_i x y h1 h2
    cases h
    exact ⟨x, y, h1, h2, rfl⟩
  · cases h
  · cases h
  · cases h
theorem wkZ_end {wk wl : Walk} {i : Nat} {S : Store} (h : wkZ wk wl i S = some none) : (wk i S = some none ∧ ∃ o, wl i S = some o) ∨ (wl i S = some none ∧ ∃ x, wk i S = some (some x)) := by
  unfold wkZ at h
  split at h
  · cases h
  · rename_i o h1 h2
    exact .inl ⟨h1, o, h2⟩
  · rename_i x h1 h2
    exact .inr ⟨h2, x, h1⟩
  · cases h
theorem itz_ok {A B : Addr} {wk wl : Walk} (h : ItOk X.K ca w (Itl X.K A) wk) (k : ItOk X.K ca w (Itl X.K B) wl) : ItOk X.K ca w (Itz X.K A B) (wkZ wk wl) where
  goes := fun i w2 d e s2 hi => by
    obtain ⟨x, y, hx, hy, _⟩ := wkZ_of hi
    obtain ⟨xs, v, h1, h2⟩ := h.goes i w2 x e s2 hx
    obtain ⟨ys, u, k1, k2⟩ := k.goes i w2 y e s2 hy
    exact ⟨xs, ys, v, u, h1, k1, h2, k2⟩
  stops := fun i w2 e s2 hi => by
    rcases wkZ_end hi with ⟨hx, o, hy⟩ | ⟨hy, x, hx⟩
    · obtain ⟨xs, h1, h2⟩ := h.stops i w2 e s2 hx
      cases o with
      | none =>
        obtain ⟨ys, k1, k2⟩ := k.stops i w2 e s2 hy
        exact ⟨xs, ys, h1, k1, .inl h2⟩
      | some y =>
        obtain ⟨ys, u, k1, k2⟩ := k.goes i w2 y e s2 hy
        exact ⟨xs, ys, h1, k1, .inl h2⟩
    · obtain ⟨xs, v, h1, h2⟩ := h.goes i w2 x e s2 hx
      obtain ⟨ys, k1, k2⟩ := k.stops i w2 e s2 hy
      exact ⟨xs, ys, h1, k1, .inr k2⟩
  yields := fun i w2 d x H' e s2 hi y => by
    obtain ⟨z1, z2, h1, h2, rfl⟩ := wkZ_of hi
    obtain ⟨T, v, u, rfl, hT, rfl, hv, hu⟩ := y
    obtain ⟨w3, e1, e2, x3, s3, r3⟩ := h.yields i w2 z1 v w2.H e s2 h1 ⟨rfl, hv⟩
    obtain ⟨w4, f1, f2, x4, s4, r4⟩ := k.yields i w3 z2 u w3.H (e.trans x3) s3 (by rw [e2]; exact h2) ⟨rfl, by rw [e1]; exact hu⟩
    have hT4 : w4.H T = none := by rw [f1, e1]; exact hT
    have y4 := Ext.alloc (w := w4) (o := .tup [v, u]) hT4
    refine ⟨⟨upd w4.H T (.tup [v, u]), w4.ρ, w4.S⟩, by rw [← e1, ← f1], f2.trans e2, (x3.trans x4).trans y4, s4.alloc hT4, .tup (.inl (.inl upd_same)) (.cons ((r3.mono x4 s3).mono y4 s4) (.cons (r4.mono y4 s4) .nil))⟩
theorem itzT_ok {A B : Addr} {wk wl : Walk} (h : ItOk X.K ca w (Itt X.K A) wk) (k : ItOk X.K ca w (Itt X.K B) wl) : ItOk X.K ca w (RZ.ItzT X.K A B) (wkZ wk wl) where
  goes := fun i w2 d e s2 hi => by
    obtain ⟨x, y, hx, hy, _⟩ := wkZ_of hi
    obtain ⟨xs, v, h1, h2⟩ := h.goes i w2 x e s2 hx
    obtain ⟨ys, u, k1, k2⟩ := k.goes i w2 y e s2 hy
    exact ⟨xs, ys, v, u, h1, k1, h2, k2⟩
  stops := fun i w2 e s2 hi => by
    rcases wkZ_end hi with ⟨hx, o, hy⟩ | ⟨hy, x, hx⟩
    · obtain ⟨xs, h1, h2⟩ := h.stops i w2 e s2 hx
      cases o with
      | none =>
        obtain ⟨ys, k1, k2⟩ := k.stops i w2 e s2 hy
        exact ⟨xs, ys, h1, k1, .inl h2⟩
      | some y =>
        obtain ⟨ys, u, k1, k2⟩ := k.goes i w2 y e s2 hy
        exact ⟨xs, ys, h1, k1, .inl h2⟩
    · obtain ⟨xs, v, h1, h2⟩ := h.goes i w2 x e s2 hx
      obtain ⟨ys, k1, k2⟩ := k.stops i w2 e s2 hy
      exact ⟨xs, ys, h1, k1, .inr k2⟩
  yields := fun i w2 d x H' e s2 hi y => by
    obtain ⟨z1, z2, h1, h2, rfl⟩ := wkZ_of hi
    obtain ⟨T, v, u, rfl, hT, rfl, hv, hu⟩ := y
    obtain ⟨w3, e1, e2, x3, s3, r3⟩ := h.yields i w2 z1 v w2.H e s2 h1 ⟨rfl, hv⟩
    obtain ⟨w4, f1, f2, x4, s4, r4⟩ := k.yields i w3 z2 u w3.H (e.trans x3) s3 (by rw [e2]; exact h2) ⟨rfl, by rw [e1]; exact hu⟩
    have hT4 : w4.H T = none := by rw [f1, e1]; exact hT
    have y4 := Ext.alloc (w := w4) (o := .tup [v, u]) hT4
    refine ⟨⟨upd w4.H T (.tup [v, u]), w4.ρ, w4.S⟩, by rw [← e1, ← f1], f2.trans e2, (x3.trans x4).trans y4, s4.alloc hT4, .tup (.inl (.inl upd_same)) (.cons ((r3.mono x4 s3).mono y4 s4) (.cons (r4.mono y4 s4) .nil))⟩
theorem i_enum {kk : Nat} (hg : Gl X "enumerate") (hm : X.mg "enumerate" = none) (ha : PE X a (tE X.K ca W f)) (hs : starEach [a] X.env = [(false, eval a X.env)] := by rfl) :
    PI X (.Tuple elts kk tpos) (.Call (.Name "enumerate" p) [a] [] pos) (tIt X.K ca W (dEnumL f)) := by
  refine ⟨fun pins s σ H R I h => (pi_enum hg hm (pa_cons ha pa_nil hs) hs).run pins s σ H R I ?_⟩
  obtain ⟨w, env, e, sk, m, h⟩ := h
  refine ⟨w, env, e, sk, m, (Sat.bind h).mono (fun d S1 q => ?_) fun _ _ _ q => q⟩
  intro w1 hS x1 s1 v r
  subst hS
  cases z : lsW d w1.S with
  | none => rw [z] at q; exact q.elim
  | some wn =>
    rw [z] at q
    obtain ⟨A, vs, rfl, hA, ok⟩ := lsW_ok s1 r z
    exact ⟨A, vs, rfl, .inl (.inl hA), q w1 rfl x1 s1 _ (ite_ok ok)⟩
theorem i_zip {kk : Nat} (hg : Gl X "zip") (hm : X.mg "zip" = none) (ha : PE X a (tE X.K ca W f)) (hb : PE X b (tE X.K ca W g))
    (hs : starEach [a, b] X.env = (false, eval a X.env) :: starEach [b] X.env := by rfl) (hs2 : starEach [b] X.env = (false, eval b X.env) :: starEach [] X.env := by rfl) (hpl : (backTo pos (starEach [b] X.env)).any (·.1) = false := by rfl) :
    PI X (.Tuple elts kk tpos) (.Call (.Name "zip" p) [a, b] [] pos) (tIt X.K ca W (dZip2 f g)) := by
  refine ⟨fun pins s σ H R I h => (RZ.pi_zipA hg hm (pa_cons ha (pa_cons hb pa_nil hs2) hs) hs hpl).run pins s σ H R I ?_⟩
  obtain ⟨w, env, e, sk, m, h⟩ := h
  refine tE_bind (Qb := fun w => fun (wn : Walk × Nat) S' => Aft X.K ca w S' fun w' => ∀ J, ItOk X.K ca w' J wn.1 → R J w'.H) e sk m h (fun e q => q.later e) fun w1 d v s1 m1 r e1 h1 => ?_
  refine tE_bind (Qb := fun w => fun (wn : Walk × Nat) S' => Aft X.K ca w S' fun w' => ∀ J, ItOk X.K ca w' J wn.1 → R J w'.H) rfl s1 m1 h1 (fun e q => q.later e) fun w2 d2 v2 s2 m2 r2 e2 h2 => ?_
  have r' := r.mono e2 s1
  have lists : ((lsW d w2.S).bind fun w => (lsW d2 w2.S).map fun v => (wkZ w.1 v.1, min w.2 v.2)) = zipW d d2 w2.S → ∃ a b xs ys, [v, v2] = [.ref a, .ref b] ∧ ((SqL X.K w2.H a xs ∧ SqL X.K w2.H b ys ∧ R (Itz X.K a b) w2.H) ∨ (SqT X.K w2.H a xs ∧ SqT X.K w2.H b ys ∧ R (RZ.ItzT X.K a b) w2.H)) := fun ez => by
    rw [← ez] at h2
    cases z1 : lsW d w2.S with
    | none => rw [z1] at h2; exact h2.elim
    | some w1' =>
      cases z2 : lsW d2 w2.S with
      | none => rw [z1, z2] at h2; exact h2.elim
      | some w2' =>
        rw [z1, z2] at h2
        obtain ⟨A, vs, rfl, hA, ok⟩ := lsW_ok s2 r' z1
        obtain ⟨B, us, rfl, hB, ok2⟩ := lsW_ok s2 r2 z2
        exact ⟨A, B, vs, us, rfl, .inl ⟨.inl (.inl hA), .inl (.inl hB), Aft.here (w' := w2) h2 (.refl w2) s2 _ (itz_ok ok ok2)⟩⟩
  cases r' with
  | @tup A vs ds hA ra =>
    cases r2 with
    | @tup B us es hB rb =>
      exact ⟨A, B, vs, us, rfl, .inr ⟨hA, hB, Aft.here (w' := w2) h2 (.refl w2) s2 _ (itzT_ok (itt_ok s2 hA ra) (itt_ok s2 hB rb))⟩⟩
    | _ => exact lists rfl
  | _ => cases r2 <;> exact lists rfl
end

/-! ### calls by keyword -/
def perm {α : Type} (js : List Nat) (xs : List α) : List α := js.filterMap (xs[·]?)
def eCallP (Γ : Calls) (i : Nat) (js : List Nat) (g h : Dens) : Den := fun e S => (g e S).bind fun as S1 => (h e S1).bind fun bs S2 => Γ i (perm js (as ++ bs)) S2
section
variable {K : PySem.W.Frag} {ca : Nat → Addr} {w : Wd}
theorem perm_vals {vs : List V} {us : List Value} (r : Vals vs us) : ∀ js : List Nat, Vals (perm js vs) (perm js us)
  | [] => .nil
  | j :: js => by
    unfold perm
    rw [List.filterMap_cons, List.filterMap_cons]
    have ih := perm_vals r js
    unfold perm at ih
    have hl := r.length
    by_cases hj : j < vs.length
    · have hv : vs[j]? = some vs[j] := List.getElem?_eq_getElem hj
      obtain ⟨u, hu, ru⟩ := r.get hv
      rw [hv, hu]
      exact .cons ru ih
    · rw [List.getElem?_eq_none (Nat.le_of_not_lt hj), List.getElem?_eq_none (by omega)]
      exact ih
theorem perm_rep {vs : List V} {us : List D} (r : RepL K ca w vs us) : ∀ js : List Nat, RepL K ca w (perm js vs) (perm js us)
  | [] => .nil
  | j :: js => by
    unfold perm
    rw [List.filterMap_cons, List.filterMap_cons]
    have ih := perm_rep r js
    unfold perm at ih
    have hl := r.length
    by_cases hj : j < vs.length
    · have hv : vs[j]? = some vs[j] := List.getElem?_eq_getElem hj
      obtain ⟨u, hu, ru⟩ := r.getV hv
      rw [hv, hu]
      exact .cons ru ih
    · rw [List.getElem?_eq_none (Nat.le_of_not_lt hj), List.getElem?_eq_none (by omega)]
      exact ih
end
/-- how n positional values and keywords named ks bind -/
def BindsP (K : PySem.W.Frag) (fd : FuncData) (ps ks : List Str) (n : Nat) (js : List Nat) : Prop := ∀ (s : Shared) (us ws : List Value), us.length = n → ws.length = ks.length → BindsTo s fd ⟨us, ks.zip ws⟩ (ps.zip (perm js (us ++ ws)))
theorem bindsP {K : PySem.W.Frag} {x qual : Str} {params : Arguments} {body : List Stmt} {scope : Scope} {kws : List (Str × V)} {f : Addr} {fd : FuncData} {ps ks : List Str} {n : Nat} {js : List Nat} (F : FunD K x qual params body scope [] kws f fd)
    (h : ∀ (kV doc pm : Value) (an : Option Addr) (cdv ct : Value) (us ws : List Value), us.length = n → ws.length = ks.length → bindArgs (PySem.W.fnOf x qual params body scope .none kV doc pm an cdv ct) ⟨us, ks.zip ws⟩ = pure (ps.zip (perm js (us ++ ws)))) : BindsP K fd ps ks n js := by
  obtain ⟨oc, od, dV, kV, doc, pm, an, cdv, ct, osl, rfl, lk, hcd, hD, hK⟩ := F.ex
  rcases hD with ⟨_, rfl⟩ | ⟨e, _⟩
  · exact fun s us ws hl hk => .of_eq (h kV doc pm an cdv ct us ws hl hk)
  · exact absurd rfl e
def tEk (K : PySem.W.Frag) (ca : Nat → Addr) (W : WX) (f : Dens) : TA := tEs K ca W f
section
variable {X : Cx} {ca : Nat → Addr} {W : WX} {pos pos' p apos cpos tpos kpos : Pos} {f g h o i : Den} {gs hs : Dens} {a b e elt eo ei : Expr} {es elts : List Expr} {kws : List Keyword} {w : Wd} {nm : Option Str}
theorem k_nil : PK X [] (tEs X.K ca W dNil) := ⟨fun pos pins s σ H Q I h => pk_nil.run pos pins s σ H Q I (by
  obtain ⟨w, env, e, sk, m, h⟩ := h
  subst e
  exact Aft.here (w' := w) h (.refl w) sk [] .nil)⟩
theorem k_cons (ha : PE X a (tE X.K ca W f)) (hk : PK X kws (tEs X.K ca W gs)) : PK X (⟨nm, a, kpos⟩ :: kws) (tEs X.K ca W (dCons f gs)) := ⟨fun pos pins s σ H Q I h => (pk_cons ha hk).run pos pins s σ H Q I (by
  obtain ⟨w, env, e, s, m, h⟩ := h
  refine tE_bind (Qb := fun w => QL X.K ca w Q) e s m h (fun e q => QL.later e q) fun w1 d v s1 m1 r e1 h1 => ?_
  refine tEs_bind (Qb := fun w => QL X.K ca w Q) rfl s1 m1 h1 (fun e q => QL.later e q) fun w2 d2 v2 s2 m2 r2 e2 h2 => ?_
  exact Aft.here (w' := w2) h2 (.refl w2) s2 _ (.cons (r.mono e2 s1) r2))⟩
theorem run_P {pins : List (Addr × Obj)} {σ : St} {H : Hp} {s : Shared} {Q : VK} {us ws : List Value} {vs zs : List V} {k n : Nat} {fa : Addr} {fd : FuncData} {ps ks : List Str} {js : List Nat} {sp : Sp} {E : XK} (F : FnOk X.prog X.w X.K X.mg X.base (L2.CX X.prog X.w) k fa fd ps sp) (hr : Room k X.A)
    (hb : BindsP X.K fd ps ks n js) (hx : PassesAt (L2.CX X.prog X.w) X σ E) (I : Inv X pins σ H s) (r : Vals vs us) (rz : Vals zs ws) (l1 : vs.length = n) (l2 : zs.length = ks.length) (h : sp (perm js (vs ++ zs)) H Q E) :
    wpAny (model X.prog X.w) X.A (call (.ref fa) us (ks.zip ws)) (EP X pins σ Q) X.xe s := by
  have b := hb s us ws (by rw [← r.length]; exact l1) (by rw [← rz.length]; exact l2)
  refine wpAny_call (codeAny_mono (F.run X.A X.stack s H ⟨us, ks.zip ws⟩ _ _ Q E hr I.env0 b (perm_vals (r.append rz) js) h) fun r s' hq => ?_)
  cases r with
  | error e => exact hx pins H s e s' I hq
  | ok fl =>
    cases fl with
    | ret u => exact I.after hq
    | next => exact False.elim hq
    | brk => exact False.elim hq
    | cont => exact False.elim hq
theorem e_callP {Γ : Calls} {i k n l : Nat} {fa : Addr} {fd : FuncData} {ps ks : List Str} {js : List Nat} {x : Str} (Fn : FnOk X.prog X.w X.K X.mg X.base (L2.CX X.prog X.w) k fa fd ps (spF X.K ca Γ i l)) (hr : Room k X.A) (hg : Gl X x) (hm : X.mg x = some (.ref fa))
    (hk : PySem.W.keepIn X.K (.ref fa) = true) (hb : BindsP X.K fd ps ks n js) (tk : Takes X W) (ha : PA X (a :: es) (tEs X.K ca W gs)) (hkw : PK X kws (tEs X.K ca W hs)) (hl : Len gs n) (hl2 : Len hs ks.length) (hp : ∀ xs : List V, xs.length = n + ks.length → (perm js xs).length = l)
    (hall : (backToKw pos (keywordEach kws X.env)).all (·.1.isSome) = true := by rfl) (hks : (backToKw pos (keywordEach kws X.env)).filterMap (·.1) = ks := by rfl)
    (hdb : (x == ("__debug__" : Str)) = false := by decide) (he : starEach (a :: es) X.env = (false, eval a X.env) :: starEach es X.env := by rfl)
    (hpl : ((backTo pos (starEach (a :: es) X.env)).any (·.1) || (backToKw pos (keywordEach kws X.env)).any (·.1.isNone)) = false := by rfl) :
    PE X (.Call (.Name x p) (a :: es) kws pos) (tE X.K ca W (eCallP Γ i js gs hs)) := by
  refine ⟨fun pins s σ H Q I h => ?_⟩
  obtain ⟨w, env, e, sk, m, h⟩ := h
  unfold eCallP at h
  refine wpAny_Call_Name_kw (ld_glob I hg hm ?_ hdb)
  have rd : tEs X.K ca W gs σ H fun vs H1 => tEs X.K ca W hs σ H1 fun zs H2 => vs.length = n ∧ zs.length = ks.length ∧ spF X.K ca Γ i l (perm js (vs ++ zs)) H2 Q (fun cls d H' => W cls d σ H') := by
    have hl0 : ∀ ds S', gs env w.S = .ok ds S' → ds.length = n := fun ds S' q => hl _ _ _ _ q
    refine ⟨w, env, e, sk, m, ?_⟩
    cases q : gs env w.S with
    | bad => rw [q] at h; exact h
    | err c v S1 => rw [q] at h; exact h
    | ok ds S1 =>
      rw [q] at h
      intro w1 hS x1 s1 vs r
      subst hS
      have h1 : Sat ((hs env w1.S).bind fun bs S2 => Γ i (perm js (ds ++ bs)) S2) (QV X.K ca w1 Q) (QE X.K ca w1 W σ) := Sat.mono h (fun d S z => QV.later x1 z) (fun c v S z => QE.later x1 z)
      have hl1 : ∀ ds S', hs env w1.S = .ok ds S' → ds.length = ks.length := fun ds S' q => hl2 _ _ _ _ q
      refine ⟨w1, env, rfl, s1, m.mono x1 sk, ?_⟩
      cases q2 : hs env w1.S with
      | bad => rw [q2] at h1; exact h1
      | err c v S1 => rw [q2] at h1; exact h1
      | ok ds2 S2 =>
        rw [q2] at h1
        intro w2 hS x2 s2 zs r2
        subst hS
        have e1 : vs.length = n := by rw [r.length]; exact hl0 _ _ q
        have e2 : zs.length = ks.length := by rw [r2.length]; exact hl1 _ _ q2
        exact ⟨e1, e2, w2, _, rfl, hp _ (by rw [List.length_append, e1, e2]), s2, perm_rep ((r.mono x2 s1).append r2) js, Sat.mono h1 (fun d S z => QV.later x2 z) (fun c v S z => Aft.later z x2)⟩
  refine PySem.W.callWith_KW (h₀ := X.base) I.ok.mod.kin hk hall (thn (ha.run pos pins s σ H _ I rd) fun us s1 ⟨vs, H1, I1, r, q⟩ => ?_) hpl he
  refine thn (hkw.run pos pins s1 σ H1 _ I1 q) fun ws s2 ⟨zs, H2, I2, rz, l1, l2, q2⟩ => ⟨I2.kIn, ?_⟩
  rw [hks]
  exact run_P Fn hr hb (passAt tk σ) I2 r rz l1 l2 q2
theorem e_callP0 {Γ : Calls} {i k l : Nat} {fa : Addr} {fd : FuncData} {ps ks : List Str} {js : List Nat} {x : Str} (Fn : FnOk X.prog X.w X.K X.mg X.base (L2.CX X.prog X.w) k fa fd ps (spF X.K ca Γ i l)) (hr : Room k X.A) (hg : Gl X x) (hm : X.mg x = some (.ref fa))
    (hk : PySem.W.keepIn X.K (.ref fa) = true) (hb : BindsP X.K fd ps ks 0 js) (tk : Takes X W) (hkw : PK X kws (tEs X.K ca W hs)) (hl2 : Len hs ks.length) (hp : ∀ xs : List V, xs.length = ks.length → (perm js xs).length = l)
    (hall : (backToKw pos (keywordEach kws X.env)).all (·.1.isSome) = true := by rfl) (hks : (backToKw pos (keywordEach kws X.env)).filterMap (·.1) = ks := by rfl)
    (hdb : (x == ("__debug__" : Str)) = false := by decide)
    (hpl : ((backTo pos (starEach [] X.env)).any (·.1) || (backToKw pos (keywordEach kws X.env)).any (·.1.isNone)) = false := by rfl) :
    PE X (.Call (.Name x p) [] kws pos) (tE X.K ca W (eCallP Γ i js dNil hs)) := by
  refine ⟨fun pins s σ H Q I h => ?_⟩
  obtain ⟨w, env, e, sk, m, h⟩ := h
  have h0 : Sat ((hs env w.S).bind fun bs S2 => Γ i (perm js bs) S2) (QV X.K ca w Q) (QE X.K ca w W σ) := h
  refine wpAny_Call_Name_kw (ld_glob I hg hm ?_ hdb)
  have rd : tEs X.K ca W hs σ H fun zs H2 => zs.length = ks.length ∧ spF X.K ca Γ i l (perm js zs) H2 Q (fun cls d H' => W cls d σ H') := by
    have hl1 : ∀ ds S', hs env w.S = .ok ds S' → ds.length = ks.length := fun ds S' q => hl2 _ _ _ _ q
    refine ⟨w, env, e, sk, m, ?_⟩
    cases q2 : hs env w.S with
    | bad => rw [q2] at h0; exact h0
    | err c v S1 => rw [q2] at h0; exact h0
    | ok ds2 S2 =>
      rw [q2] at h0
      intro w2 hS x2 s2 zs r2
      subst hS
      have e2 : zs.length = ks.length := by rw [r2.length]; exact hl1 _ _ q2
      exact ⟨e2, w2, _, rfl, hp _ e2, s2, perm_rep r2 js, Sat.mono h0 (fun d S z => QV.later x2 z) (fun c v S z => Aft.later z x2)⟩
  refine PySem.W.callWith_KW0 (h₀ := X.base) I.ok.mod.kin hk hall (thn (hkw.run pos pins s σ H _ I rd) fun ws s2 ⟨zs, H2, I2, rz, l2, q2⟩ => ⟨I2.kIn, ?_⟩) hpl
  rw [hks]
  exact run_P (n := 0) Fn hr hb (passAt tk σ) I2 .nil rz rfl l2 q2

/-! ### constants of the module -/
theorem e_glob {x : Str} {v : V} {u : Value} {d : D} (hg : Gl X x) (hm : X.mg x = some u) (r : RelV v u) (rd : ∀ w : Wd, Rep X.K ca w v d) (hd : (x == ("__debug__" : Str)) = false := by decide) : PE X (.Name x pos) (tE X.K ca W (eC d)) :=
  e_c (pe_glob hg hm r hd) fun w _ => rd w
end
end Py

set_option maxHeartbeats 2000000
/-! PyJe: enumerate of a tuple. -/
namespace PyEn
open PySem PySem.Spec PyProof.Rows L2 RZ
theorem drawsT {prog : Program} {w : World} {A : Around} (hh : A.handled = none) (it l : Addr) (hne : l ≠ it) (items : Array Value) :
    Draws prog w A it [it, l] items.size (fun i v => items[i]? = some v) (fun i h => h.IsTupleIter it l i ∧ h.IsTuple l items) where
  live := fun _ _ st => let ⟨o, ho, _⟩ := st.1; ⟨o, ho⟩
  frame := fun _ _ _ st hk => ⟨st.1.at fun o e => hk it (by simp) o e, st.2.at fun o e => hk l (by simp) o e⟩
  item := fun i s Q E hi st hQ => by
    refine nextOf_tuple_item st.1 st.2 (x := items[i]) (by simp [hi]) fun h' hit' hs' => ?_
    exact hQ _ h' s.toks (by simp [hi]) ⟨hit', st.2.extBut hs'.extBut hne⟩ hs'
  done := fun s Q E st hE => nextOf_tuple_end hh st.1 st.2 (by simp) hE
/-- the tuple at a, each item in a new pair -/
def IteT (K : PySem.W.Frag) (a : Addr) : It :=
  ⟨fun i H => ∃ (xs : List V) (x : V), SqT K H a xs ∧ xs[i]? = some x, fun i H v H' => ∃ T x, v = .ref T ∧ H T = none ∧ H' = upd H T (.tup [.int (i : Nat), x]) ∧ ∀ xs, SqT K H a xs → xs[i]? = some x, fun i H => ∃ xs : List V, SqT K H a xs ∧ xs.length ≤ i⟩
set_option maxHeartbeats 2000000 in
theorem meets_enumT (l : Addr) (items : Array Value) :
    Meets (Builtin.«enumerate.__new__» ⟨[.type "enumerate", .ref l], []⟩) (fun _ R s => s.heap.IsTuple l items ∧
      R (.ok (.ret (.ref (s.heap.push { cls := .type "tuple_iterator", data := .fields #[.ref l, .int 0 0] }).objs.size)))
        { s with heap := (s.heap.push { cls := .type "tuple_iterator", data := .fields #[.ref l, .int 0 0] }).push { cls := .type "enumerate", data := .fields #[.none, .bool false, .ref s.heap.objs.size, rawInt 0, .none, .none] } }) :=
  .of_wp fun prog w A R s h => by
    obtain ⟨hp, g, d, tk, os⟩ := s; obtain ⟨hL, h⟩ := h
    have hsub := sub_enumerate
    have hL' : Heap.IsTuple (Shared.heap ⟨hp, g, d, tk, os⟩) l items := hL
    obtain ⟨o, ho, hc, n, hd⟩ := id hL
    wp_walk using AutoSeq1.wpAny_loadPart' ho
    refine wpAny_stack_any fun st => wpAny_pure ?_
    split
    · rename_i c _ _ _ _ _
      cases (c == Value.type "enumerate")
      · wp_walk using AutoSeq1.wpAny_loadPart' ho, wpAny_pyIter_tuple hL'
        exact ⟨_, rfl, h⟩
      · wp_walk using AutoSeq1.wpAny_loadPart' ho, wpAny_pyIter_tuple hL'
        exact ⟨_, rfl, h⟩
    · wp_walk using AutoSeq1.wpAny_loadPart' ho, wpAny_pyIter_tuple hL'
      exact ⟨_, rfl, h⟩
section
variable {prog : Program} {w : World} {A : Around} {E : Value → Shared → Prop} {s : Shared}
theorem call_enumT {l : Addr} {items : Array Value} {Q : Value → Shared → Prop} (hL : s.heap.IsTuple l items)
    (h : ∀ h', IsEnum h' (s.heap.objs.size + 1) s.heap.objs.size 0 .none → h'.IsTupleIter s.heap.objs.size l 0 → h'.objs.size = s.heap.objs.size + 2 →
      (∀ b o, s.heap.get? b = some o → h'.get? b = some o) → Q (.ref (s.heap.objs.size + 1)) { s with heap := h' }) :
    wpAny (model prog w) A (call (.type "enumerate") [.ref l]) Q E s := by
  refine callType_new F.called_enumerate (by decide) (F.typeCall_enumerate_1 _) (F.newCall_enumerate_1 _) (fun obj => F.args_object_init_2 obj _) F.entry_enumerate_new
    (meets_enumT l items) ⟨hL, ?_⟩
  have hz : (s.heap.push { cls := .type "tuple_iterator", data := .fields #[.ref l, .int 0 0] }).objs.size = s.heap.objs.size + 1 := Heap.size_push ..
  show _ ∧ _
  rw [hz]
  have he : IsEnum ((s.heap.push { cls := .type "tuple_iterator", data := .fields #[.ref l, .int 0 0] }).push
      { cls := .type "enumerate", data := .fields #[.none, .bool false, .ref s.heap.objs.size, rawInt 0, .none, .none] }) (s.heap.objs.size + 1) s.heap.objs.size 0 .none := by
    have := Heap.get?_push_size (s.heap.push { cls := .type "tuple_iterator", data := .fields #[.ref l, .int 0 0] })
      (o := { cls := .type "enumerate", data := .fields #[.none, .bool false, .ref s.heap.objs.size, rawInt 0, .none, .none] }) rfl
    rw [hz] at this; exact this
  exact ⟨⟨_, he, rfl⟩, h _ he ⟨_, Heap.get?_push_of_some _ (Heap.get?_push_size _ rfl), rfl, rfl⟩ (by rw [Heap.size_push, hz]) fun b o x => Heap.get?_push_of_some _ (Heap.get?_push_of_some _ x)⟩
theorem pyNext_enumT_end {e it l : Addr} {i : Nat} {items : Array Value} {old : Value} {Q : Option Value → Shared → Prop} (hh : A.handled = none)
    (he : IsEnum s.heap e it i old) (hit : s.heap.IsTupleIter it l i) (hl : s.heap.IsTuple l items) (hx : items[i]? = none)
    (hQ : ∀ h', Heap.ExtBut it s.heap h' → Q none { s with heap := h' }) : wpAny (model prog w) A (pyNext (.ref e)) Q E s := by
  have hT : s.TypeIs (.ref e) "enumerate" := ⟨_, he, rfl⟩
  unfold pyNext
  refine wpAny_bind (wpAny_attempt (wpAny_callSpecial?_slot (name := Str.ofString "__next__") hT F.slot_enumerate_next
    (wpAny_call_entry F.slot_enumerate_next hT F.entry_enumerate_next ?_ (F.args_enumerate_next_1 _))))
  show wpAny _ _ (field (.ref e) 2 >>= _) _ _ _
  refine wpAny_bind (wpAny_field he rfl (x := .ref it) rfl ?_)
  refine wpAny_bind (nextOf_tuple_end (A := A.in1) hh hit hl hx fun h' x he' hx' => ?_)
  obtain ⟨o, ho, hc⟩ := hx'
  refine wpAny_bind (wpAny_isInstance (T := "StopIteration") (b := true) ⟨o, ho, hc⟩ isSubtype_stop ?_)
  exact wpAny_pure (hQ _ he')
end
theorem turn_enumT {P : Program} {w : World} {K : PySem.W.Frag} {elts : List Expr} {kk : Nat} {tpos : Pos} (a e it : Addr) (hea : e ≠ a) (hia : a ≠ it) :
    Turn P w K (.Tuple elts kk tpos) (IteT K a) [e, it] e (fun i h => (∃ old, IsEnum h e it ((i : Nat) : Int) old) ∧ h.IsTupleIter it a i ∧ e ≠ it) where
  mem := by simp
  obj := fun i h st b hb => by
    obtain ⟨⟨old, he⟩, ⟨o, ho, hc, hd⟩, _⟩ := st
    have e' : b = e ∨ b = it := by simpa using hb
    rcases e' with z | z
    · rw [z]; exact ⟨_, he, fun v q => nomatch q⟩
    · rw [z]; exact ⟨o, ho, fun v q => by rw [hd] at q; cases q⟩
  keep := fun i h h' st k => let ⟨⟨old, he⟩, hi, hne⟩ := st; ⟨⟨old, k e (by simp) _ he⟩, hi.at fun o q => k it (by simp) o q, hne⟩
  item := by
    intro X hP hw hK hc i pins s σ H E I hf st hg
    subst hP hw hK
    obtain ⟨⟨old, he⟩, hit, hne⟩ := st
    obtain ⟨xs, x, hq, hx⟩ := hg
    obtain ⟨its, rv, p, hz⟩ := I.tuple hq
    obtain ⟨u, hu, ru⟩ := rv.get hx
    have hel : e < s.heap.objs.size := Heap.lt_size he
    have hil : it < s.heap.objs.size := by obtain ⟨_, q, _⟩ := hit; exact Heap.lt_size q
    have hlt : i < its.toArray.size := by
      have := (List.getElem?_eq_some_iff.mp hu).1
      simpa using this
    refine wpAny_pyNext_enum_itemD (drawsT (prog := X.prog) (w := X.w) (A := X.A.in1) (show X.A.in1.handled = none from I.ok.hd hc) it a hia its.toArray) he ⟨hit, p⟩ hlt hne (by simp [hne, hea]) fun u' h' tk hu' ho hst hT hsz hk => ?_
    have eu : u' = u := by
      have : its.toArray[i]? = some u := by simpa using hu
      rw [this] at hu'
      cases hu'; rfl
    subst eu
    refine ⟨_, rfl, wpAny_letOwnedTupleGo_enum (s := { s with heap := h', toks := tk + 1 }) ho fun h'' he' sb => ?_⟩
    have hT2 : h''.get? s.heap.objs.size = some { cls := .type "tuple", data := .seq #[.int i tk, u'] } := (sb.2 _ (Nat.ne_of_gt hel)).trans hT
    have new : ObjOk X.prog X.w (upd H s.heap.objs.size (.tup [.int (i : Nat), x])) h'' s.heap.objs.size (.tup [.int (i : Nat), x]) :=
      ⟨by show 2 ≤ sizeLine; decide, [.int i tk, u'], .cons ⟨_, rfl⟩ (.cons ru .nil), ⟨_, hT2, rfl, _, rfl⟩⟩
    have I1 : Inv X pins σ (upd H s.heap.objs.size (.tup [.int (i : Nat), x])) { s with heap := h'', toks := tk + 1 } :=
      I.turnedNew (ch := [e, it]) (fun b ob hb q => (sb.2 b (fun z => hb (by simp [z]))).trans (hk b ob (fun z => hb (by simp [z])) (fun z => hb (by simp [z])) q)) hf (Nat.le_refl _) new
    refine ⟨.ref s.heap.objs.size, _, I1, rfl, ⟨_, x, rfl, I.hok.fresh (Nat.le_refl _), rfl, fun ys hy => by rw [I.tuple_inj hy hq]; exact hx⟩, ⟨⟨u', ?_⟩, hst.1.at fun o q => (sb.2 it (Ne.symm hne)).trans q, hne⟩, fun b hb => ?_⟩
    · have e1 : ((i + 1 : Nat) : Int) = (i : Int) + 1 := by omega
      rw [e1]; exact he'
    · have hb' : b < s.heap.objs.size := by
        have e' : b = e ∨ b = it := by simpa using hb
        rcases e' with z | z
        · rw [z]; exact hel
        · rw [z]; exact hil
      rw [upd_ne (Nat.ne_of_lt hb')]
      exact (hf b hb).1
  done := by
    intro X hP hw hK hc i pins s σ H E I hf st hg
    subst hP hw hK
    obtain ⟨⟨old, he⟩, hit, hne⟩ := st
    obtain ⟨xs, hq, hx⟩ := hg
    obtain ⟨its, rv, p, hz⟩ := I.tuple hq
    obtain ⟨f0, f1, f2, f3, f4, f5⟩ := hf it (by simp)
    have hl := rv.length
    exact pyNext_enumT_end (I.ok.hd hc) he hit p (by simp; omega) fun h' eb => ⟨rfl, I.turned (t' := s.toks) (fun b o hb q => eb b o hb q) f0 f1 f3 f4 f5⟩
  self := fun A i s Q E st h => let ⟨⟨_, he⟩, _⟩ := st; wpAny_pyIter_enum he h
/-- enumerate of a list or of a tuple -/
def iEnumA (K : PySem.W.Frag) (ta : TA) : TI := fun σ H R => ta σ H fun vs H1 => ∃ a xs, vs = [.ref a] ∧ ((SqL K H1 a xs ∧ R (Ite K a) H1) ∨ (SqT K H1 a xs ∧ R (IteT K a) H1))
theorem pi_enumA {X : Cx} {e : Expr} {ta : TA} {p pos tpos : Pos} {elts : List Expr} {kk : Nat} (hg : Gl X "enumerate") (hm : X.mg "enumerate" = none) (ha : PA X [e] ta) (hs : starEach [e] X.env = [(false, eval e X.env)] := by rfl) :
    PI X (.Tuple elts kk tpos) (.Call (.Name "enumerate" p) [e] [] pos) (iEnumA X.K ta) := by
  refine ⟨fun pins s σ H R I h => ?_⟩
  refine Call_ (ld_blt I hg hm boot_enumerate (PyProof.Rows.callWith_type1 (thn (ha.run pos pins s σ H _ I h) fun us s1 ⟨vs, H1, I1, r1, q1⟩ => ?_) hs rfl))
  obtain ⟨a, xs, ex, q1⟩ := q1
  subst ex
  cases r1 with
  | cons r rr =>
    cases rr
    cases r
    have fresh2 : ∀ b, b ∈ [s1.heap.objs.size + 1, s1.heap.objs.size] → FpOk X pins H1 b := fun b hb => by
      have e' : b = s1.heap.objs.size + 1 ∨ b = s1.heap.objs.size := by simpa using hb
      have hle : s1.heap.objs.size ≤ b := by
        rcases e' with z | z
        · rw [z]; exact Nat.le_add_right _ _
        · rw [z]; exact Nat.le_refl _
      exact I1.fpOk hle (I1.hok.fresh hle)
    rcases q1 with ⟨hq, q⟩ | ⟨hq, q⟩
    · obtain ⟨its, rv, p', hz⟩ := I1.list hq
      refine call_enumerate_list p'.isList fun h' he hit hsz hk => wpAny_pyIter_enum he ?_
      have I2 : Inv X pins σ H1 { s1 with heap := h' } := I1.kept (t' := s1.toks) hk
      exact ⟨s1.heap.objs.size + 1, [s1.heap.objs.size + 1, s1.heap.objs.size], _, _, H1, rfl, I2, turn_enum a (s1.heap.objs.size + 1) s1.heap.objs.size, ⟨⟨.none, he⟩, hit, Nat.succ_ne_self _⟩, fresh2, q⟩
    · obtain ⟨its, rv, p', hz⟩ := I1.tuple hq
      obtain ⟨o1, ho1, _⟩ := id p'
      have hlt : a < s1.heap.objs.size := Heap.lt_size ho1
      refine call_enumT p' fun h' he hit hsz hk => wpAny_pyIter_enum he ?_
      have I2 : Inv X pins σ H1 { s1 with heap := h' } := I1.kept (t' := s1.toks) hk
      exact ⟨s1.heap.objs.size + 1, [s1.heap.objs.size + 1, s1.heap.objs.size], _, _, H1, rfl, I2, turn_enumT a (s1.heap.objs.size + 1) s1.heap.objs.size (Nat.ne_of_gt (Nat.lt_succ_of_lt hlt)) (Nat.ne_of_lt hlt), ⟨⟨.none, he⟩, hit, Nat.succ_ne_self _⟩, fresh2, q⟩
/-! ### tuple * k, k = 1 or k at most 0 -/
theorem tuple_mulS (l : Addr) (items : Array Value) (n : Nat) (dd : Option Addr) (sl : Array (Option Value)) (u : Tok) :
    Meets (Builtin.«tuple.__mul__» ⟨[.ref l, .int 1 u], []⟩) (fun _ R s => s.heap.get? l = some { cls := .type "tuple", dict := dd, data := .seq items n, slots := sl } ∧
      R (.ok (.ret (Value.ref l))) s) :=
  .of_wp fun prog w A R s h => by
    obtain ⟨hp, g, d, tk, os⟩ := s
    obtain ⟨hl, h⟩ := h
    have f1 := AutoSeq1.idx_int
    have c0 : (decide ((1 : Int) < -(2 ^ 63)) || decide ((1 : Int) ≥ 2 ^ 63)) = false := by decide
    have c1 : (items.isEmpty || (1 : Int) == 1) = true := by simp
    wp_walk using wpAny_loadPart' hl
    repeat (first
      | (refine wpAny_ite_false (decide_eq_false (by rw [c0]; exact Bool.false_ne_true)) ?_; wp_walk using wpAny_loadPart' hl)
      | (refine wpAny_ite_true (decide_eq_true (by rw [c1])) ?_; wp_walk using wpAny_loadPart' hl))
    exact ⟨_, rfl, h⟩
theorem tuple_mul0 (l : Addr) (items : Array Value) (n : Nat) (dd : Option Addr) (sl : Array (Option Value)) (x : Int) (u : Tok) (c0 : (decide (x < -(2 ^ 63)) || decide (x ≥ 2 ^ 63)) = false) (c1 : (items.isEmpty || x == 1) = false) (c2 : (decide (x ≤ 0) || items.isEmpty) = true) :
    Meets (Builtin.«tuple.__mul__» ⟨[.ref l, .int x u], []⟩) (fun _ R s => s.heap.get? l = some { cls := .type "tuple", dict := dd, data := .seq items n, slots := sl } ∧
      R (.ok (.ret (Value.ref s.heap.objs.size))) { s with heap := s.heap.push { cls := Value.type "tuple", data := Data.seq #[] }, toks := s.toks }) :=
  .of_wp fun prog w A R s h => by
    obtain ⟨hp, g, d, tk, os⟩ := s
    obtain ⟨hl, h⟩ := h
    have f1 := AutoSeq1.idx_int
    have hsz : (#[] : Array Value).size ≤ sizeLine := Nat.zero_le _
    wp_walk using wpAny_loadPart' hl
    repeat (first
      | (refine wpAny_ite_false (decide_eq_false (by rw [c0]; exact Bool.false_ne_true)) ?_; wp_walk using wpAny_loadPart' hl)
      | (refine wpAny_ite_false (decide_eq_false (by rw [c1]; exact Bool.false_ne_true)) ?_; wp_walk using wpAny_loadPart' hl)
      | (refine wpAny_ite_true (decide_eq_true (by rw [c2])) ?_; wp_walk using wpAny_loadPart' hl)
      | (refine wpAny_ite_false (decide_eq_false (Nat.not_lt.mpr hsz)) ?_; wp_walk using wpAny_loadPart' hl))
    exact ⟨_, rfl, h⟩
def rRepT1 (K : PySem.W.Frag) : R2 := fun x y H Q => ∃ l xs, x = .ref l ∧ y = .int 1 ∧ SqT K H l xs ∧ Q x H
def rRepT0 (K : PySem.W.Frag) : R2 := fun x y H Q => ∃ l k xs, x = .ref l ∧ y = .int k ∧ SqT K H l xs ∧ xs ≠ [] ∧ k ≤ 0 ∧ -1000 ≤ k ∧ ∀ p, H p = none → Q (.ref p) (upd H p (.tup []))
section
variable {X : Cx}
theorem op_repT1 : OpR X (binaryOp .Mult) (rRepT1 X.K) := by
  intro pins s σ H x y v u Q I rx ry h
  obtain ⟨l, xs, rfl, rfl, hT, q⟩ := h
  cases rx
  obtain ⟨t, rfl⟩ := ry
  obtain ⟨its, r, ⟨⟨cls, dd, data, sl⟩, ho, hc, n, hd⟩, hs⟩ := I.tuple hT
  simp only at hc hd
  subst hc hd
  refine wpAny_binaryOp_repeat_ref (T := "tuple") (U := "int") (by decide) ⟨_, ho, rfl⟩ (fun s' => typeIs_int s' 1 t) noFill_tuple_mul F.fills_int_mul F.slot_int_rmul repeat_tuple F.slot_int_index.lookup
    (call_meets F.slot_int_rmul (typeIs_int s 1 t) F.entry_int_rmul (F.args_int_rmul_2 _ _) (int_rmul_tuple 1 t l its.toArray n dd sl)
      ⟨ho, rfl, ⟨_, ho, rfl⟩, call_meets F.slot_tuple_mul ⟨_, ho, rfl⟩ F.entry_tuple_mul (F.args_tuple_mul_2 _ _) (tuple_mulS l its.toArray n dd sl t) ⟨ho, ?_⟩⟩)
  exact ⟨.ref l, H, I, rfl, q⟩
theorem op_repT0 : OpR X (binaryOp .Mult) (rRepT0 X.K) := by
  intro pins s σ H x y v u Q I rx ry h
  obtain ⟨l, k, xs, rfl, rfl, hT, hne, h1, h2, q⟩ := h
  cases rx
  obtain ⟨t, rfl⟩ := ry
  obtain ⟨its, r, ⟨⟨cls, dd, data, sl⟩, ho, hc, n, hd⟩, hs⟩ := I.tuple hT
  simp only at hc hd
  subst hc hd
  have hle : its.length = xs.length := r.length.symm
  have hn : its ≠ [] := fun e => hne (by
    rw [e] at hle
    exact List.eq_nil_of_length_eq_zero hle.symm)
  have hi : its.toArray.isEmpty = false := by
    cases its with
    | nil => exact absurd rfl hn
    | cons a b => rfl
  have c0 : (decide (k < -(2 ^ 63)) || decide (k ≥ 2 ^ 63)) = false := by
    rw [decide_eq_false (by omega), decide_eq_false (by omega)] <;> rfl
  have c1 : (its.toArray.isEmpty || k == 1) = false := by
    rw [hi, Bool.false_or]
    exact beq_eq_false_iff_ne.mpr (by omega)
  have c2 : (decide (k ≤ 0) || its.toArray.isEmpty) = true := by
    rw [hi, Bool.or_false]
    exact decide_eq_true (by omega)
  refine wpAny_binaryOp_repeat_ref (T := "tuple") (U := "int") (by decide) ⟨_, ho, rfl⟩ (fun s' => typeIs_int s' k t) noFill_tuple_mul F.fills_int_mul F.slot_int_rmul repeat_tuple F.slot_int_index.lookup
    (call_meets F.slot_int_rmul (typeIs_int s k t) F.entry_int_rmul (F.args_int_rmul_2 _ _) (int_rmul_tuple k t l its.toArray n dd sl)
      ⟨ho, rfl, ⟨_, ho, rfl⟩, call_meets F.slot_tuple_mul ⟨_, ho, rfl⟩ F.entry_tuple_mul (F.args_tuple_mul_2 _ _) (tuple_mul0 l its.toArray n dd sl k t c0 c1 c2) ⟨ho, ?_⟩⟩)
  refine ⟨.ref s.heap.objs.size, _, I.laid (t' := s.toks) (o := .tup []) (fun b ob q => Heap.get?_push_of_some _ q) (Nat.le_refl _) ?_, rfl, q _ (I.hok.fresh (Nat.le_refl _))⟩
  exact ⟨Nat.zero_le _, [], .nil, IsTup.new _ _⟩
end
end PyEn
namespace Py
open PySem PySem.Spec PyProof.Rows L2
section
variable {X : Cx} {ca : Nat → Addr} {W : WX} {pos pos' p apos cpos tpos : Pos} {f g h o i : Den} {a b e : Expr} {es elts : List Expr} {w : Wd}
def lsA (d : D) (S : Store) : Option (Walk × Nat) := match d with
  | .tup xs => some (wkL xs, xs.length)
  | d => lsW d S
def dEnumA (f : Den) : DenI := fun e S => (f e S).bind fun d S1 => optR (lsA d S1) fun w => .ok (wkE w.1, w.2) S1
theorem iteT_ok {A : Addr} {wk : Walk} (h : ItOk X.K ca w (Itt X.K A) wk) : ItOk X.K ca w (PyEn.IteT X.K A) (wkE wk) where
  goes := fun i w2 d e s2 hi => by
    obtain ⟨x, hx, _⟩ := wkE_of hi
    exact h.goes i w2 x e s2 hx
  stops := fun i w2 e s2 hi => h.stops i w2 e s2 (wkE_end hi)
  yields := fun i w2 d x H' e s2 hi y => by
    obtain ⟨z, hz, rfl⟩ := wkE_of hi
    obtain ⟨T, v, rfl, hT, rfl, hv⟩ := y
    obtain ⟨w3, e1, e2, x3, s3, r3⟩ := h.yields i w2 z v w2.H e s2 hz ⟨rfl, hv⟩
    have hT3 : w3.H T = none := by rw [e1]; exact hT
    have y3 := Ext.alloc (w := w3) (o := .tup [.int (i : Nat), v]) hT3
    refine ⟨⟨upd w3.H T (.tup [.int (i : Nat), v]), w3.ρ, w3.S⟩, by rw [← e1], e2, x3.trans y3, s3.alloc hT3, .tup (.inl (.inl upd_same)) (.cons (.int _) (.cons (r3.mono y3 s3) .nil))⟩
theorem i_enumA {kk : Nat} (hg : Gl X "enumerate") (hm : X.mg "enumerate" = none) (ha : PE X a (tE X.K ca W f)) (hs : starEach [a] X.env = [(false, eval a X.env)] := by rfl) :
    PI X (.Tuple elts kk tpos) (.Call (.Name "enumerate" p) [a] [] pos) (tIt X.K ca W (dEnumA f)) := by
  refine ⟨fun pins s σ H R I h => (PyEn.pi_enumA hg hm (pa_cons ha pa_nil hs) hs).run pins s σ H R I ?_⟩
  obtain ⟨w, env, e, sk, m, h⟩ := h
  refine ⟨w, env, e, sk, m, (Sat.bind h).mono (fun d S1 q => ?_) fun _ _ _ q => q⟩
  intro w1 hS x1 s1 v r
  subst hS
  have key : lsA d w1.S = lsW d w1.S → ∃ a xs, [v] = [.ref a] ∧ ((SqL X.K w1.H a xs ∧ R (Ite X.K a) w1.H) ∨ (SqT X.K w1.H a xs ∧ R (PyEn.IteT X.K a) w1.H)) := fun hA => by
    rw [hA] at q
    cases z : lsW d w1.S with
    | none => rw [z] at q; exact q.elim
    | some wn =>
      rw [z] at q
      obtain ⟨A, vs, rfl, hA, ok⟩ := lsW_ok s1 r z
      exact ⟨A, vs, rfl, .inl ⟨.inl (.inl hA), q w1 rfl x1 s1 _ (ite_ok ok)⟩⟩
  cases r with
  | @tup A vs ds hq ra => exact ⟨A, vs, rfl, .inr ⟨hq, q w1 rfl x1 s1 _ (iteT_ok (itt_ok s1 hq ra))⟩⟩
  | _ => exact key rfl
/-- * where a tuple is written out on the left -/
def oRepA : Op2 := fun a b S => match a, b with
  | .tup xs, .int k => if k = 1 then .ok (.tup xs) S else if xs.length ≠ 0 ∧ k ≤ 0 ∧ -1000 ≤ k then .ok (.tup []) S else oRep (.tup xs) (.int k) S
  | a, b => oRep a b S
theorem m_repA : Mute2 oRepA := by
  intro a b S c v S' h
  unfold oRepA at h
  split at h
  · split at h
    · cases h
    · split at h
      · cases h
      · exact m_rep _ _ _ _ _ _ h
  · exact m_rep _ _ _ _ _ _ h
theorem r_repA : OpR X (binaryOp .Mult) (rO2 X.K ca oRepA) := opImp (opOr (opOr (r_rep (ca := ca)) PyEn.op_repT1) PyEn.op_repT0) fun x y H Q h => by
  obtain ⟨w, dx, dy, e, sk, r1, r2, q⟩ := h
  subst e
  have old : oRepA dx dy w.S = oRep dx dy w.S → (rO2 X.K ca oRep x y w.H Q ∨ PyEn.rRepT1 X.K x y w.H Q) ∨ PyEn.rRepT0 X.K x y w.H Q := fun e => .inl (.inl ⟨w, dx, dy, rfl, sk, r1, r2, by rw [← e]; exact q⟩)
  cases r1 with
  | @tup a vs ds hq ra =>
    cases r2 with
    | int k =>
      by_cases h1 : k = 1
      · subst h1
        have e1 : oRepA (.tup ds) (.int 1) w.S = .ok (.tup ds) w.S := by unfold oRepA; dsimp only; rw [if_pos rfl]
        rw [e1] at q
        exact .inl (.inr ⟨a, vs, rfl, rfl, hq, q w rfl (.refl w) sk _ (.tup hq ra)⟩)
      · by_cases h2 : ds.length ≠ 0 ∧ k ≤ 0 ∧ -1000 ≤ k
        · have e1 : oRepA (.tup ds) (.int k) w.S = .ok (.tup []) w.S := by unfold oRepA; dsimp only; rw [if_neg h1, if_pos h2]
          rw [e1] at q
          refine .inr ⟨a, k, vs, rfl, rfl, hq, fun z => h2.1 (by rw [← ra.length, z]; rfl), h2.2.1, h2.2.2, fun p hp => ?_⟩
          have x := Ext.alloc (w := w) (o := .tup []) hp
          exact q ⟨upd w.H p (.tup []), w.ρ, w.S⟩ rfl x (sk.alloc hp) (.ref p) (.tup (.inl (.inl upd_same)) .nil)
        · exact old (by show (if k = 1 then _ else if ds.length ≠ 0 ∧ k ≤ 0 ∧ -1000 ≤ k then _ else _) = _; rw [if_neg h1, if_neg h2])
    | _ => exact old rfl
  | _ => exact old (by cases dy <;> rfl)
end
end Py

set_option maxHeartbeats 4000000
/-! PyK: classes of errors: what the written part says of them, isinstance, an exception's value. -/
namespace Py
open PySem PySem.Spec PyProof.Rows L2

inductive Ty where
  | int | bool | str | tuple | list | none | dict
  deriving DecidableEq
def Ty.name : Ty → String
  | .int => "int" | .bool => "bool" | .str => "str" | .tuple => "tuple" | .list => "list" | .none => "NoneType" | .dict => "dict"
def Ty.sub (a b : Ty) : Bool := match a, b with
  | .int, .int => true | .bool, .bool => true | .str, .str => true | .tuple, .tuple => true | .list, .list => true | .none, .none => true | .dict, .dict => true | .bool, .int => true | _, _ => false
theorem kit_tyty (a b : Ty) : kitB a.name b.name = some (a.sub b) := by cases a <;> cases b <;> decide +kernel
theorem kit_tyve (a : Ty) : kitB a.name "ValueError" = some false := by cases a <;> decide +kernel
/-- a class that is asked for -/
inductive Cl where
  | ty (t : Ty) | ve | own (c : Nat)
/-- what a value is -/
inductive Kd where
  | ty (t : Ty) | exc (c : Nat)
/-- anc: each class's own number and those of its ancestors -/
abbrev Anc := List (List Nat)
def kdOf (anc : Anc) (d : D) (S : Store) : Option Kd := match d with
  | .non => some (.ty .none) | .bl _ => some (.ty .bool) | .int _ => some (.ty .int) | .str _ => some (.ty .str) | .tup _ => some (.ty .tuple) | .lst _ => some (.ty .list) | .fls _ => some (.ty .list) | .dct _ _ => some (.ty .dict)
  | .ref n => (match S[n]? with | some (.lst _) => some (.ty .list) | _ => none)
  | .exc c _ => if c < anc.length then some (.exc c) else none
def isK (anc : Anc) (k : Kd) (c : Cl) : Bool := match k, c with
  | .ty a, .ty b => a.sub b
  | .ty _, _ => false
  | .exc _, .ty _ => false
  | .exc _, .ve => true
  | .exc k, .own c => (anc.getD k []).contains c
def Cl.okB (anc : Anc) : Cl → Bool
  | .own c => decide (c < anc.length) | _ => true
def eIsi (anc : Anc) (cs : List Cl) (f : Den) : Den := fun e S => (f e S).bind fun d S1 => optR (kdOf anc d S1) fun k => .ok (.bl (cs.any (isK anc k))) S1
def exVal (anc : Anc) (d : D) (S : Store) : R D := match d with | .exc c v => if c < anc.length then .ok v S else .bad | _ => .bad
def eVal (anc : Anc) (f : Den) : Den := fun e S => (f e S).bind fun d S1 => exVal anc d S1

/-! ### the facts -/
section
variable (K : PySem.W.Frag) (ca : Nat → Addr) (anc : Anc)
structure ClsOk : Prop where
  ee : ∀ k c, k < anc.length → c < anc.length → PySem.W.kitOne K (.ref (ca k)) (.ref (ca c)) = some ((anc.getD k []).contains c)
  ex : ∀ k c, k < anc.length → c < anc.length → PySem.W.exmOne K (.ref (ca k)) (.ref (ca c)) = some ((anc.getD k []).contains c)
  ev : ∀ k, k < anc.length → PySem.W.kitOne K (.ref (ca k)) (.type "ValueError") = some true
  xv : ∀ k, k < anc.length → PySem.W.exmOne K (.ref (ca k)) (.type "ValueError") = some true
  et : ∀ k, k < anc.length → ∀ t : Ty, PySem.W.kitOne K (.ref (ca k)) (.type t.name) = some false
  te : ∀ (t : Ty) c, c < anc.length → PySem.W.kitOne K (.type t.name) (.ref (ca c)) = some false
  oex : ∀ c, c < anc.length → OexC K (ca c)
  xf : ∀ c, c < anc.length → XfC K (ca c)
  cls : ∀ c, c < anc.length → (PySem.W.clsIn K (ca c)).isSome = true ∧ PySem.W.findIn K (.ref (ca c)) "__class__" = some (some (.builtin "object.__class__")) ∧ PySem.W.mroIn K (ca c) (.type "object") = some true
  get : PySem.W.specialIn K (.builtin "object.__class__") "__get__" = some (some (.builtin "getset_descriptor.__get__")) ∧ PySem.W.takesIn K (.builtin "object.__class__") = some true
  noval : ∀ c, c < anc.length → PySem.W.findIn K (.ref (ca c)) "value" = some none
def oexB (C : Addr) : Bool := (match K.lookup C with
  | some ⟨.type "type", _, .cls cd, sl⟩ => (match cd.mro, sl.toList with
    | .ref C' :: bm, [_, _, _, _, some (.builtin n), _] => (C' == C && n == "ValueError.__new__") && (!cd.hasDel && (cd.hasDict && PySem.HandSPX.refsVE bm))
    | _, _ => false)
  | _ => false) && (decide (PySem.W.findIn K (.ref C) "__setattr__" = some (some (.builtin "object.__setattr__"))) && (decide (PySem.W.subIn K (.ref C) (.type "BaseException") = some true) &&
    (decide (PySem.W.typeIn K (.ref C) = some (.type "type")) && PySem.W.keepIn K (.ref C))))
end
theorem oexB_ok {K : PySem.W.Frag} {C : Addr} (h : oexB K C = true) : OexC K C := by
  unfold oexB at h
  rw [Bool.and_eq_true, Bool.and_eq_true, Bool.and_eq_true, Bool.and_eq_true] at h
  obtain ⟨h1, h2, h3, h4, h5⟩ := h
  refine ⟨?_, of_decide_eq_true h2, of_decide_eq_true h3, of_decide_eq_true h4, h5⟩
  split at h1
  · rename_i dd cd sl ho
    split at h1
    · rename_i C' bm k0 k1 k2 k3 n k5 hm hs
      simp only [Bool.and_eq_true, beq_iff_eq, Bool.not_eq_true'] at h1
      obtain ⟨⟨rfl, rfl⟩, hdel, hdi, hv⟩ := h1
      obtain ⟨nm, bs, mro, ns, qn, hd, sn, sub, ab, col, del⟩ := cd
      dsimp only at hm hdel hdi
      subst hm hdel hdi
      have hsl : sl = #[k0, k1, k2, k3, some (.builtin "ValueError.__new__"), k5] := by
        obtain ⟨l⟩ := sl
        simp only at hs
        rw [hs]
      subst hsl
      exact ⟨_, _, _, _, _, _, _, _, _, _, _, _, _, _, _, ho, hv⟩
    · cases h1
  · cases h1
section
variable (K : PySem.W.Frag) (ca : Nat → Addr) (anc : Anc)
def tys : List Ty := [.int, .bool, .str, .tuple, .list, .none, .dict]
def clsB : Bool := (List.range anc.length).all (fun k =>
    (List.range anc.length).all (fun c => decide (PySem.W.kitOne K (.ref (ca k)) (.ref (ca c)) = some ((anc.getD k []).contains c)) && decide (PySem.W.exmOne K (.ref (ca k)) (.ref (ca c)) = some ((anc.getD k []).contains c))) &&
    (decide (PySem.W.kitOne K (.ref (ca k)) (.type "ValueError") = some true) && (decide (PySem.W.exmOne K (.ref (ca k)) (.type "ValueError") = some true) &&
    (tys.all (fun t => decide (PySem.W.kitOne K (.ref (ca k)) (.type t.name) = some false) && decide (PySem.W.kitOne K (.type t.name) (.ref (ca k)) = some false)) &&
    (oexB K (ca k) && (xfB K (ca k) && ((PySem.W.clsIn K (ca k)).isSome && (decide (PySem.W.findIn K (.ref (ca k)) "__class__" = some (some (.builtin "object.__class__"))) &&
    (decide (PySem.W.mroIn K (ca k) (.type "object") = some true) && decide (PySem.W.findIn K (.ref (ca k)) "value" = some none)))))))))) &&
  (decide (PySem.W.specialIn K (.builtin "object.__class__") "__get__" = some (some (.builtin "getset_descriptor.__get__"))) && decide (PySem.W.takesIn K (.builtin "object.__class__") = some true))
end
theorem tys_all (t : Ty) : t ∈ tys := by cases t <;> decide
theorem clsB_ok {K : PySem.W.Frag} {ca : Nat → Addr} {anc : Anc} (h : clsB K ca anc = true) : ClsOk K ca anc := by
  unfold clsB at h
  rw [Bool.and_eq_true, Bool.and_eq_true, List.all_eq_true] at h
  obtain ⟨h, g1, g2⟩ := h
  have one : ∀ k, k < anc.length → _ := fun k hk => h k (List.mem_range.mpr hk)
  have two : ∀ k, k < anc.length → (∀ c, c < anc.length → PySem.W.kitOne K (.ref (ca k)) (.ref (ca c)) = some ((anc.getD k []).contains c) ∧ PySem.W.exmOne K (.ref (ca k)) (.ref (ca c)) = some ((anc.getD k []).contains c)) ∧
      PySem.W.kitOne K (.ref (ca k)) (.type "ValueError") = some true ∧ PySem.W.exmOne K (.ref (ca k)) (.type "ValueError") = some true ∧
      (∀ t : Ty, PySem.W.kitOne K (.ref (ca k)) (.type t.name) = some false ∧ PySem.W.kitOne K (.type t.name) (.ref (ca k)) = some false) ∧ OexC K (ca k) ∧ XfC K (ca k) ∧ (PySem.W.clsIn K (ca k)).isSome = true ∧
      PySem.W.findIn K (.ref (ca k)) "__class__" = some (some (.builtin "object.__class__")) ∧ PySem.W.mroIn K (ca k) (.type "object") = some true ∧ PySem.W.findIn K (.ref (ca k)) "value" = some none := fun k hk => by
    have q := one k hk
    rw [Bool.and_eq_true, Bool.and_eq_true, Bool.and_eq_true, Bool.and_eq_true, Bool.and_eq_true, Bool.and_eq_true, Bool.and_eq_true, Bool.and_eq_true, Bool.and_eq_true, List.all_eq_true, List.all_eq_true] at q
    obtain ⟨a1, a2, a3, a4, a5, a6, a7, a8, a9, a10⟩ := q
    refine ⟨fun c hc => ?_, of_decide_eq_true a2, of_decide_eq_true a3, fun t => ?_, oexB_ok a5, xfB_ok a6, a7, of_decide_eq_true a8, of_decide_eq_true a9, of_decide_eq_true a10⟩
    · have z := a1 c (List.mem_range.mpr hc)
      rw [Bool.and_eq_true] at z
      exact ⟨of_decide_eq_true z.1, of_decide_eq_true z.2⟩
    · have z := a4 t (tys_all t)
      rw [Bool.and_eq_true] at z
      exact ⟨of_decide_eq_true z.1, of_decide_eq_true z.2⟩
  exact {
    ee := fun k c hk hc => ((two k hk).1 c hc).1
    ex := fun k c hk hc => ((two k hk).1 c hc).2
    ev := fun k hk => (two k hk).2.1
    xv := fun k hk => (two k hk).2.2.1
    et := fun k hk t => ((two k hk).2.2.2.1 t).1
    te := fun t c hc => ((two c hc).2.2.2.1 t).2
    oex := fun k hk => (two k hk).2.2.2.2.1
    xf := fun k hk => (two k hk).2.2.2.2.2.1
    cls := fun k hk => ⟨(two k hk).2.2.2.2.2.2.1, (two k hk).2.2.2.2.2.2.2.1, (two k hk).2.2.2.2.2.2.2.2.1⟩
    get := ⟨of_decide_eq_true g1, of_decide_eq_true g2⟩
    noval := fun k hk => (two k hk).2.2.2.2.2.2.2.2.2 }

/-! ### isinstance -/
def clU (ca : Nat → Addr) : Cl → Value
  | .ty t => .type t.name | .ve => .type "ValueError" | .own c => .ref (ca c)
def clV (ca : Nat → Addr) : Cl → V
  | .ty t => .ty t.name | .ve => .ty "ValueError" | .own c => .ref (ca c)
def kdU (ca : Nat → Addr) : Kd → Value
  | .ty t => .type t.name | .exc c => .ref (ca c)
section
variable {X : Cx} {ca : Nat → Addr} {anc : Anc} {W : WX} {pos pos' p apos cpos tpos : Pos} {f g h o i : Den} {gs hs : Dens} {a b e : Expr} {es : List Expr} {w : Wd}
theorem clV_rel (c : Cl) : ClsV (clV ca c) (clU ca c) := by
  cases c with
  | ty t => exact .ty _
  | ve => exact .ty _
  | own c => exact .own _
theorem kit_isK {k : Kd} {c : Cl} (C : ClsOk X.K ca anc) (hk : ∀ n, k = .exc n → n < anc.length) (hc : c.okB anc = true) : PySem.W.kitOne X.K (kdU ca k) (clU ca c) = some (isK anc k c) := by
  cases k with
  | ty t =>
    cases c with
    | ty s => exact kit_ty (kit_tyty t s)
    | ve => exact kit_ty (kit_tyve t)
    | own c => exact C.te t c (of_decide_eq_true hc)
  | exc n =>
    have hn := hk n rfl
    cases c with
    | ty s => exact C.et n hn s
    | ve => exact C.ev n hn
    | own c => exact C.ee n c hn (of_decide_eq_true hc)
theorem kitAny_isK {k : Kd} (C : ClsOk X.K ca anc) (hk : ∀ n, k = .exc n → n < anc.length) : ∀ {cs : List Cl}, cs.all (Cl.okB anc) = true → PySem.W.kitAny X.K (kdU ca k) (cs.map (clU ca)) = some (cs.any (isK anc k))
  | [], _ => rfl
  | c :: cs, h => by
    rw [List.all_cons, Bool.and_eq_true] at h
    have one := kit_isK C hk h.1
    have rest := kitAny_isK C hk h.2
    rw [List.map_cons, List.any_cons]
    refine kitAny_cons one (fun z => ?_) (fun z => ?_)
    · rw [z, Bool.false_or]; exact rest
    · rw [z, Bool.true_or]
/-- a caught exception as the heap has it -/
theorem exc_inst {pins : List (Addr × Obj)} {σ : St} {s : Shared} {a C d : Addr} {v : V} (I : Inv X pins σ w.H s) (h1 : w.H a = some (exk a C d)) (h2 : w.H d = some (.xd [("value", v)])) :
    ∃ oe od, PySem.W.InstAt s.heap a oe C (some od) ∧ ∃ u, PySem.W.lookIn "value" od = some (some u) ∧ RelV v u := by
  obtain ⟨oe, vs, he, hc, hd, hf⟩ := (show ObjOk X.prog X.w w.H s.heap a (exk a C d) from I.hok a _ h1).1
  obtain ⟨mA, hns, hr⟩ := (show ObjOk X.prog X.w w.H s.heap d (.xd [("value", v)]) from I.hok d _ h2)
  obtain ⟨od, ho, hl⟩ := lookIn_ns hns
  obtain ⟨u, hu, ru⟩ := RelO.some_of (v := v) (o := mA "value") (by have z := hr "value"; simpa using z)
  exact ⟨oe, od, ⟨he, hc, by unfold PySem.W.notCls; rw [hf] <;> rfl, by rw [hd]; exact ho⟩, u, by rw [hl, hu], ru⟩
theorem kit_rep {pins : List (Addr × Obj)} {σ : St} {s : Shared} {x : V} {u : Value} {d : D} {k : Kd} (C : ClsOk X.K ca anc) (I : Inv X pins σ w.H s) (sk : SOk X.K ca w) (rx : RelV x u) (r : Rep X.K ca w x d) (hk : kdOf anc d w.S = some k) :
    ∃ P : Heap → Prop, PySem.W.KitX X.K u (kdU ca k) P ∧ P s.heap ∧ u ≠ .builtin "__main__.__loader__#opaque" := by
  cases r with
  | non => cases hk; exact kit_of I rx (.base .non)
  | bl b => cases hk; exact kit_of I rx (.base (.bl b))
  | int i => cases hk; exact kit_of I rx (.base (.int i))
  | str x => cases hk; exact kit_of I rx (.base (.str x))
  | tup h1 r =>
    cases hk
    rcases h1 with (h1 | ⟨o, h1⟩) | ⟨o, its, n, h1, h2, _⟩
    · exact kit_of I rx (.base (.tup h1))
    · exact kit_of I rx (.fTuple h1)
    · exact kit_of I rx (.kTuple h1 h2)
  | lst h1 n r => cases hk; exact kit_of I rx (.base (.lst h1))
  | dct h1 n l r => cases hk; exact kit_of I rx (.base (.dK h1))
  | fls h =>
    cases hk
    rcases h with ⟨o, h⟩ | ⟨o, its, n, h, h2, _⟩
    · exact kit_of I rx (.base (.frz h))
    · exact kit_of I rx (.kList h h2)
  | @ref n hn =>
    unfold kdOf at hk
    dsimp only at hk
    cases q : w.S[n]? with
    | none => rw [q] at hk; cases hk
    | some o =>
      cases o with
      | dead => rw [q] at hk; cases hk
      | lst xs =>
        rw [q] at hk
        cases hk
        obtain ⟨vs, hv, _⟩ := sk.live n xs q
        exact kit_of I rx (.base (.lst hv))
  | @exc a d c v x h1 h2 n1 n2 r =>
    unfold kdOf at hk
    dsimp only at hk
    by_cases hc : c < anc.length
    · rw [if_pos hc] at hk
      cases hk
      obtain rfl : u = Value.ref a := rx
      obtain ⟨oe, od, J, _⟩ := exc_inst I h1 h2
      have T := C.xf c hc
      obtain ⟨k1, k2, k3⟩ := C.cls c hc
      exact ⟨_, PySem.W.kitx_exc (x := a) (ox := oe) (od := some od) k1 T.ga T.gg T.exC k2 C.get.1 C.get.2 k3, J, fun z => nomatch z⟩
    · rw [if_neg hc] at hk; cases hk
theorem kd_lt {d : D} {S : Store} {k : Kd} (h : kdOf anc d S = some k) : ∀ n, k = .exc n → n < anc.length := by
  intro n e
  subst e
  unfold kdOf at h
  split at h
  all_goals first
    | (cases h; done)
    | skip
  · split at h <;> cases h
  · split at h
    · cases h; assumption
    · cases h
/-- isinstance(x, C) -/
def rIs1 (X : Cx) (ca : Nat → Addr) (anc : Anc) (c : Cl) : List V → Hp → VK → Prop := fun xs H Q => ∃ w x d k, w.H = H ∧ SOk X.K ca w ∧ xs = [x, clV ca c] ∧ Rep X.K ca w x d ∧ kdOf anc d w.S = some k ∧ Q (.bl (isK anc k c)) H
theorem call_is1 {c : Cl} (C : ClsOk X.K ca anc) (hc : c.okB anc = true) : CallR X (.builtin "isinstance") (rIs1 X ca anc c) := by
  intro pins s σ H xs us Q I r h
  obtain ⟨w, x, d, k, rfl, sk, rfl, rx, hk, q⟩ := h
  obtain ⟨u1, u2, rfl, r1, r2⟩ := vals2 r
  have e2 := (clV_rel (ca := ca) c).eq r2
  subst e2
  obtain ⟨P, Z, p, hx⟩ := kit_rep C I sk r1 rx hk
  exact PySem.W.kia_one Z I.kIn p (kit_isK C (kd_lt hk) hc) hx fun tk => ⟨.bl (isK anc k c), w.H, I.tok tk, rfl, q⟩
def rIsN (X : Cx) (ca : Nat → Addr) (anc : Anc) (cs : List Cl) : List V → Hp → VK → Prop := fun xs H Q => ∃ w x d k tp, w.H = H ∧ SOk X.K ca w ∧ xs = [x, .ref tp] ∧ H tp = some (.tup (cs.map (clV ca))) ∧ Rep X.K ca w x d ∧ kdOf anc d w.S = some k ∧ Q (.bl (cs.any (isK anc k))) H
theorem paired_cl : ∀ cs : List Cl, Paired ClsV (cs.map (clV ca)) (cs.map (clU ca))
  | [] => .nil
  | c :: cs => .cons (clV_rel c) (paired_cl cs)
theorem call_isN {cs : List Cl} (C : ClsOk X.K ca anc) (hc : cs.all (Cl.okB anc) = true) : CallR X (.builtin "isinstance") (rIsN X ca anc cs) := by
  intro pins s σ H xs us Q I r h
  obtain ⟨w, x, d, k, tp, rfl, sk, rfl, hT, rx, hk, q⟩ := h
  obtain ⟨u1, u2, rfl, r1, r2⟩ := vals2 r
  cases (show u2 = Value.ref tp from r2)
  obtain ⟨P, Z, p, hx⟩ := kit_rep C I sk r1 rx hk
  obtain ⟨_, its, rv, o, h1, h2, n, h3⟩ := (show ObjOk X.prog X.w w.H s.heap tp (.tup (cs.map (clV ca))) from I.hok tp _ hT)
  have e3 := ClsV.all (paired_cl (ca := ca) cs) rv
  subst e3
  obtain ⟨oc, od, dt, sl⟩ := o
  simp only at h2 h3
  subst h2 h3
  exact PySem.W.kia_tup Z I.kIn p h1 (kitAny_isK C (kd_lt hk) hc) hx fun tk => ⟨.bl (cs.any (isK anc k)), w.H, I.tok tk, rfl, q⟩
theorem e_isi {c : Cl} (C : ClsOk X.K ca anc) (hc : c.okB anc = true) (hg : Gl X "isinstance") (hm : X.mg "isinstance" = none) (ha : PE X a (tE X.K ca W f)) (hb : PE X b (tC (clV ca c)))
    (hs : starEach [a, b] X.env = (false, eval a X.env) :: starEach [b] X.env := by rfl) (hs2 : starEach [b] X.env = (false, eval b X.env) :: starEach [] X.env := by rfl) (hpl : (backTo pos (starEach [b] X.env)).any (·.1) = false := by rfl) :
    PE X (.Call (.Name "isinstance" p) [a, b] [] pos) (tE X.K ca W (eIsi anc [c] f)) :=
  PE.imp (pe_callB (call_is1 C hc) hg hm (by decide +kernel) (pa_cons ha (pa_cons hb pa_nil hs2) hs) (by decide) (by decide) hs hpl) fun σ H Q ⟨w, env, e, s, m, h⟩ => by
    refine tE_bind (Qb := fun w => QV X.K ca w Q) e s m h (fun e q => QV.later e q) fun w1 d v s1 m1 r e1 h1 => ?_
    cases q : kdOf anc d w1.S with
    | none => rw [q] at h1; exact h1.elim
    | some k =>
      rw [q] at h1
      have z := sat_here s1 (show QV X.K ca w1 Q (.bl ([c].any (isK anc k))) w1.S from h1) (.bl _)
      refine ⟨w1, v, d, k, rfl, s1, rfl, r, q, ?_⟩
      have e : [c].any (isK anc k) = isK anc k c := by simp
      rw [e] at z
      exact z
/-- the classes of a tuple -/
def tCls (ca : Nat → Addr) (cs : List Cl) : TA := fun σ H Q => Q (cs.map (clV ca)) H
theorem cls_nil : PA X [] (tCls ca []) := pa_nil
theorem cls_cons {c : Cl} {cs : List Cl} (ha : PE X a (tC (clV ca c))) (hb : PA X es (tCls ca cs)) (hst : starEach (a :: es) X.env = (false, eval a X.env) :: starEach es X.env := by rfl) : PA X (a :: es) (tCls ca (c :: cs)) := pa_cons ha hb hst
theorem c_ty {x : Str} {t : Ty} (hg : Gl X x) (hm : X.mg x = none) (hv : bootBuiltins x = some (.type t.name)) (hn : x ≠ "__name__" := by decide) (hd : (x == ("__debug__" : Str)) = false := by decide) : PE X (.Name x pos) (tC (clV ca (.ty t))) := pe_bltn hg hm hv rfl hn hd
theorem c_ve {x : Str} (hg : Gl X x) (hm : X.mg x = none) (hv : bootBuiltins x = some (.type "ValueError")) (hn : x ≠ "__name__" := by decide) (hd : (x == ("__debug__" : Str)) = false := by decide) : PE X (.Name x pos) (tC (clV ca .ve)) := pe_bltn hg hm hv rfl hn hd
theorem c_own {x : Str} {c : Nat} (hg : Gl X x) (hm : X.mg x = some (.ref (ca c))) (hd : (x == ("__debug__" : Str)) = false := by decide) : PE X (.Name x pos) (tC (clV ca (.own c))) := pe_glob hg hm rfl hd
theorem e_isiN {cs : List Cl} {x1} (C : ClsOk X.K ca anc) (hc : cs.all (Cl.okB anc) = true) (hl : cs.length ≤ sizeLine) (hg : Gl X "isinstance") (hm : X.mg "isinstance" = none) (ha : PE X a (tE X.K ca W f)) (hb : PA X es (tCls ca cs))
    (hs : starEach [a, .Tuple es x1 tpos] X.env = (false, eval a X.env) :: starEach [.Tuple es x1 tpos] X.env := by rfl) (hs2 : starEach [.Tuple es x1 tpos] X.env = (false, eval (.Tuple es x1 tpos) X.env) :: starEach [] X.env := by rfl) (hpl : (backTo pos (starEach [.Tuple es x1 tpos] X.env)).any (·.1) = false := by rfl) :
    PE X (.Call (.Name "isinstance" p) [a, .Tuple es x1 tpos] [] pos) (tE X.K ca W (eIsi anc cs f)) :=
  PE.imp (pe_callB (call_isN C hc) hg hm (by decide +kernel) (pa_cons ha (pa_cons (pe_tup hb) pa_nil hs2) hs) (by decide) (by decide) hs hpl) fun σ H Q ⟨w, env, e, s, m, h⟩ => by
    refine tE_bind (Qb := fun w => QV X.K ca w Q) e s m h (fun e q => QV.later e q) fun w1 d v s1 m1 r e1 h1 => ?_
    cases q : kdOf anc d w1.S with
    | none => rw [q] at h1; exact h1.elim
    | some k =>
      rw [q] at h1
      refine ⟨by rw [List.length_map]; exact hl, fun tp htp => ?_⟩
      have y := Ext.alloc (w := w1) (o := .tup (cs.map (clV ca))) htp
      refine ⟨⟨upd w1.H tp (.tup (cs.map (clV ca))), w1.ρ, w1.S⟩, v, d, k, tp, rfl, s1.alloc htp, rfl, upd_same, r.mono y s1, q, ?_⟩
      exact (show QV X.K ca w1 Q (.bl (cs.any (isK anc k))) w1.S from h1) ⟨upd w1.H tp (.tup (cs.map (clV ca))), w1.ρ, w1.S⟩ rfl y (s1.alloc htp) (.bl _) (.bl _)

/-! ### e.value -/
theorem e_val (C : ClsOk X.K ca anc) (ha : PE X a (tE X.K ca W f)) (hb : attributeBase a "value" X.env (eval a X.env) = eval a X.env := by rfl) : PE X (.Attribute a "value" pos) (tE X.K ca W (eVal anc f)) := by
  refine ⟨fun pins s σ H Q I h => ?_⟩
  have h' : tE X.K ca W f σ H fun x H1 => ∃ w d, w.H = H1 ∧ SOk X.K ca w ∧ Rep X.K ca w x d ∧ ∃ c y, d = .exc c y ∧ c < anc.length ∧ QV X.K ca w Q y w.S := by
    obtain ⟨w, env, e, s, m, h⟩ := h
    refine tE_bind (Qb := fun w => QV X.K ca w Q) e s m h (fun e q => QV.later e q) fun w1 d v s1 m1 r e1 h1 => ?_
    refine ⟨w1, d, rfl, s1, r, ?_⟩
    have h1 : Sat (exVal anc d w1.S) (QV X.K ca w1 Q) (QE X.K ca w1 W σ) := h1
    unfold exVal at h1
    cases d with
    | exc c y =>
      dsimp only at h1
      by_cases hc : c < anc.length
      · rw [if_pos hc] at h1
        exact ⟨c, y, rfl, hc, h1⟩
      · rw [if_neg hc] at h1; exact h1.elim
    | _ => exact h1.elim
  refine attr_of hb (thn (ha.run pins s σ H _ I h') fun u s1 hh => ?_)
  obtain ⟨x, H1, I1, rx, w, d, rfl, sk, r, c, y, rfl, hc, q⟩ := hh
  cases r with
  | @exc A D c v y h1 h2 n1 n2 rv =>
    obtain rfl : u = Value.ref A := rx
    obtain ⟨oe, od, J, u, hu, ru⟩ := exc_inst I1 h1 h2
    have T := C.xf c hc
    exact HandSPX.exc_get I1.kIn J T.ga T.gg T.exC (PySem.W.findObj_own T.hdC (C.noval c hc) rfl hu) (handed_of ru) ⟨v, w.H, I1.tok _, ru, sat_here sk q rv⟩
end
end Py

set_option maxHeartbeats 4000000
/-! PyL: membership, three stores at once, what calls need in a block. -/
namespace Py
open PySem PySem.Spec PyProof.Rows L2

theorem tk0 {X : Cx} : Takes X W0 := fun _ _ x => by
  obtain ⟨_, _, _, _, _, _, _, _, _, _, _, _, _, _, _, _, z⟩ := x
  exact z.elim
/-- no def: the promise that nothing keeps -/
theorem fn_none {P : Program} {w : World} {K : PySem.W.Frag} {ca : Nat → Addr} {mg : Str → Option Value} {base : Heap} {k i n : Nat} {f : Addr} {fd : FuncData} {ps : List Str} {Γ : Calls} (h : ∀ args S, Γ i args S = .bad) : FnOk P w K mg base (L2.CX P w) k f fd ps (spF K ca Γ i n) where
  len := fun vs H Q E h0 => by
    obtain ⟨w, ds, _, _, _, _, q⟩ := h0
    rw [h] at q
    exact q.elim
  run := fun A outer s H args us vs Q E hr he hb r h0 => by
    obtain ⟨w, ds, _, _, _, _, q⟩ := h0
    rw [h] at q
    exact q.elim

/-! ### a, b, c = x, y, z -/
def sPar3 (i j l : Nat) (f g h : Den) : DenS := fun e S => match f e S with
  | .ok d S1 => (match g e S1 with
    | .ok d2 S2 => (match h e S2 with | .ok d3 S3 => .next (((e.set i (some d)).set j (some d2)).set l (some d3)) S3 | .err c v S3 => .err c v e S3 | .bad => .bad)
    | .err c v S2 => .err c v e S2 | .bad => .bad)
  | .err c v S1 => .err c v e S1
  | .bad => .bad

/-! ### {} -/
theorem e_dct0 {X : Cx} {ca : Nat → Addr} {W : WX} {pos : Pos} : PE X (.Dict [] [] pos) (tE X.K ca W (eC (.dct [] []))) := PE.imp pe_dnewK fun σ H Q ⟨w, env, e, s, m, h⟩ => by
  subst e
  intro p hp
  have x := Ext.alloc (w := w) (o := .dK []) hp
  exact h ⟨upd w.H p (.dK []), w.ρ, w.S⟩ rfl x (s.alloc hp) (.ref p) (.dct (us := []) upd_same (fun m => s.notM0 hp m) rfl .nil)

/-! ### in -/
def flatD : D → Bool
  | .non => true | .bl _ => true | .int _ => true | .str _ => true | _ => false
def oIn (neg : Bool) : Op2 := fun a b S => match b with
  | .tup ys => if flatD a && ys.all flatD then .ok (.bl (neg != ys.any fun y => eqB y a)) S else .bad
  | b => (match look a S, look b S with
    | some x, some (.lst ys) => if fit x && fit (.lst ys) then .ok (.bl (neg != ys.any fun y => eqB y x)) S else .bad
    | _, _ => .bad)
theorem m_in {neg : Bool} : Mute2 (oIn neg) := by
  intro a b S c v S' h; revert h; unfold oIn
  split
  · split <;> simp
  · split
    · split <;> simp
    · simp
section
variable {X : Cx} {ca : Nat → Addr} {W : WX} {pos pos' p apos cpos tpos : Pos} {f g h o i : Den} {gs hs : Dens} {a b e : Expr} {es : List Expr} {w : Wd}
theorem flat_rep {v : V} {d : D} (r : Rep X.K ca w v d) (h : flatD d = true) : flatV v = true := by
  cases r <;> first | rfl | cases h
theorem eq_flat {v u : V} {d e : D} (r : Rep X.K ca w v d) (s : Rep X.K ca w u e) (h : flatD d = true) (k : flatD e = true) : eqV v u = eqB d e := by
  cases r <;> first
    | (cases h; done)
    | (cases s <;> first | (cases k; done) | (simp [eqV, eqB, Py.b2i]; done))
theorem any_flat {u : V} {e : D} (s : Rep X.K ca w u e) (k : flatD e = true) : ∀ {vs : List V} {ds : List D}, RepL X.K ca w vs ds → ds.all flatD = true → (vs.any fun y => eqV y u) = ds.any fun y => eqB y e
  | _, _, .nil, _ => rfl
  | _, _, .cons r t, h => by
    rw [List.all_cons, Bool.and_eq_true] at h
    rw [List.any_cons, List.any_cons, eq_flat r s h.1 k, any_flat s k t h.2]
theorem all_flat : ∀ {vs : List V} {ds : List D}, RepL X.K ca w vs ds → ds.all flatD = true → vs.all flatV = true
  | _, _, .nil, _ => rfl
  | _, _, .cons r t, h => by
    rw [List.all_cons, Bool.and_eq_true] at h
    rw [List.all_cons, flat_rep r h.1, all_flat t h.2]
    rfl
theorem any_toP {x : D} (hx : pureB x = true) : ∀ {ys : List D}, pureL ys = true → ((toPs ys).any fun z => PyData.eqv z (toP x)) = ys.any fun y => eqB y x
  | [], _ => rfl
  | y :: ys, h => by
    unfold pureL at h
    rw [Bool.and_eq_true] at h
    unfold toPs
    rw [List.any_cons, List.any_cons, eqv_toP y x h.1 hx, any_toP hx h.2]
theorem fit_pure {d : D} (h : fit d = true) : pureB d = true := by
  unfold fit at h
  rw [Bool.and_eq_true] at h
  exact h.1
theorem look_lst {v : V} {d : D} {ys : List D} {w : Wd} (s : SOk X.K ca w) (r : Rep X.K ca w v d) (e : look d w.S = some (.lst ys)) (h : fit (.lst ys) = true) : Dp X.K w.H v (.list (toPs ys)) := by
  have z := look_dp s r e h
  unfold toP at z
  exact z
theorem r_in (hu : X.A.units + 65 < cLine) : OpR X (compareOp .In) (rO2 X.K ca (oIn false)) := opImp (opOr op_in_seq (op_inD hu)) fun x y H Q h => by
  obtain ⟨w, dx, dy, e, sk, r1, r2, q⟩ := h
  subst e
  have other : Sat (match look dx w.S, look dy w.S with
      | some x, some (.lst ys) => if fit x && fit (.lst ys) then Py.R.ok (.bl (false != ys.any fun y => eqB y x)) w.S else .bad
      | _, _ => .bad) (QV X.K ca w Q) (fun _ _ _ => False) → rInD X.K x y w.H Q := fun q => by
    split at q
    · rename_i d ys q1 q2
      by_cases hf : (fit d && fit (.lst ys)) = true
      · rw [if_pos hf] at q
        rw [Bool.and_eq_true] at hf
        refine ⟨toP d, toPs ys, look_dp sk r1 q1 hf.1, look_lst sk r2 q2 hf.2, shaped_fit hf.1, by have z := shaped_fit hf.2; unfold toP at z; exact z, ?_⟩
        rw [any_toP (fit_pure hf.1) (by have z := fit_pure hf.2; unfold pureB at z; exact z)]
        have z := sat_here sk q (.bl _)
        simpa using z
      · rw [if_neg hf] at q; exact q.elim
    · exact q.elim
  unfold oIn at q
  cases r2 with
  | @tup A vs ys hq ra =>
    dsimp only at q
    by_cases hf : (flatD dx && ys.all flatD) = true
    · rw [if_pos hf] at q
      rw [Bool.and_eq_true] at hf
      refine .inl ⟨A, vs, rfl, .inr hq, flat_rep r1 hf.1, all_flat ra hf.2, ?_⟩
      have z := sat_here sk q (.bl _)
      rw [if_neg (by simp)]
      unfold inV
      rw [any_flat r1 hf.1 ra hf.2]
      simpa using z
    · rw [if_neg hf] at q; exact q.elim
  | _ => exact .inr (other q)
theorem r_nin (hu : X.A.units + 65 < cLine) : OpR X (compareOp .NotIn) (rO2 X.K ca (oIn true)) := opImp (opOr op_notIn_seq (op_notInD hu)) fun x y H Q h => by
  obtain ⟨w, dx, dy, e, sk, r1, r2, q⟩ := h
  subst e
  have other : Sat (match look dx w.S, look dy w.S with
      | some x, some (.lst ys) => if fit x && fit (.lst ys) then Py.R.ok (.bl (true != ys.any fun y => eqB y x)) w.S else .bad
      | _, _ => .bad) (QV X.K ca w Q) (fun _ _ _ => False) → rNotInD X.K x y w.H Q := fun q => by
    split at q
    · rename_i d ys q1 q2
      by_cases hf : (fit d && fit (.lst ys)) = true
      · rw [if_pos hf] at q
        rw [Bool.and_eq_true] at hf
        refine ⟨toP d, toPs ys, look_dp sk r1 q1 hf.1, look_lst sk r2 q2 hf.2, shaped_fit hf.1, by have z := shaped_fit hf.2; unfold toP at z; exact z, ?_⟩
        rw [any_toP (fit_pure hf.1) (by have z := fit_pure hf.2; unfold pureB at z; exact z)]
        have z := sat_here sk q (.bl _)
        simpa using z
      · rw [if_neg hf] at q; exact q.elim
    · exact q.elim
  unfold oIn at q
  cases r2 with
  | @tup A vs ys hq ra =>
    dsimp only at q
    by_cases hf : (flatD dx && ys.all flatD) = true
    · rw [if_pos hf] at q
      rw [Bool.and_eq_true] at hf
      refine .inl ⟨A, vs, rfl, .inr hq, flat_rep r1 hf.1, all_flat ra hf.2, ?_⟩
      have z := sat_here sk q (.bl _)
      rw [if_pos rfl]
      unfold inV
      rw [any_flat r1 hf.1 ra hf.2]
      simpa using z
    · rw [if_neg hf] at q; exact q.elim
  | _ => exact .inr (other q)
end
section
variable {X : Cx} {ca : Nat → Addr} {W : WX} {pos : Pos} {f g h : Den} {a b c : Expr}
theorem s_par3 {i j l : Nat} {x y z : Str} {px py pz pt : Pos} {kt k2 pt2} (hc : X.calm = true) (hN : X.N.Nodup) (hi : X.N[i]? = some x) (hj : X.N[j]? = some y) (hl : X.N[l]? = some z) (hij : i ≠ j) (hil : i ≠ l) (hjl : j ≠ l)
    (hx : X.env.scope.names.lookup x = some .local) (hy : X.env.scope.names.lookup y = some .local) (hz : X.env.scope.names.lookup z = some .local) (ha : PE X a (tE X.K ca W f)) (hb : PE X b (tE X.K ca W g)) (hcc : PE X c (tE X.K ca W h))
    (hw : swappedStores [.Tuple [.Name x px, .Name y py, .Name z pz] kt pt] (.Tuple [a, b, c] k2 pt2) X.env = pure (some [x, y, z])) (hst : starEach [a, b, c] X.env = (false, eval a X.env) :: starEach [b, c] X.env := by rfl) (hst2 : starEach [b, c] X.env = (false, eval b X.env) :: starEach [c] X.env := by rfl) (hst3 : starEach [c] X.env = (false, eval c X.env) :: starEach [] X.env := by rfl)
    (hs : swapsWithSole [.Tuple [.Name x px, .Name y py, .Name z pz] kt pt] (.Tuple [a, b, c] k2 pt2) pos.line X.env = pure false := by rfl) :
    PS X (.Assign [.Tuple [.Name x px, .Name y py, .Name z pz] kt pt] (.Tuple [a, b, c] k2 pt2) pos) (tS X.K ca W (sPar3 i j l f g h)) :=
  PS.imp (ps_par3 hc hN hi hj hl hij hil hjl hx hy hz (pa_cons ha (pa_cons hb (pa_cons hcc pa_nil hst3) hst2) hst) hw hs) fun U σ H ⟨w, env, e, s, m, hh⟩ =>
    tE_then (k := fun d S1 => match g env S1 with
      | .ok d2 S2 => (match h env S2 with | .ok d3 S3 => RS.next (((env.set i (some d)).set j (some d2)).set l (some d3)) S3 | .err c v S3 => RS.err c v env S3 | .bad => .bad)
      | .err c v S2 => RS.err c v env S2 | .bad => .bad) e s m hh fun w1 d v s1 m1 r x q =>
      tE_then (f := g) (k := fun d2 S2 => match h env S2 with | .ok d3 S3 => RS.next (((env.set i (some d)).set j (some d2)).set l (some d3)) S3 | .err c v S3 => RS.err c v env S3 | .bad => .bad) rfl s1 m1 q fun w2 d2 v2 s2 m2 r2 x2 q2 =>
        tE_then (f := h) (k := fun d3 S3 => RS.next (((env.set i (some d)).set j (some d2)).set l (some d3)) S3) rfl s2 m2 q2 fun w3 d3 v3 s3 m3 r3 x3 q3 =>
          ⟨v, v2, v3, rfl, Aft.here (w' := w3) q3 (.refl w3) s3 _ (((m3.set i ((r.mono x2 s1).mono x3 s2)).set j (r2.mono x3 s2)).set l r3)⟩
end
end Py

set_option maxHeartbeats 4000000
/-! PyLt: x in a tuple of any plain values. -/
namespace Py
open PySem PySem.Spec PyProof.Rows L2
/-- x in (.., .., ..) -/
def oInT : Op2 := fun a b S => match look a S, look b S with
  | some x, some (.tup ys) => if fit x && fit (.tup ys) then .ok (.bl (ys.any fun y => eqB y x)) S else .bad
  | _, _ => .bad
theorem m_inT : Mute2 oInT := by
  intro a b S c v S' h; revert h; unfold oInT
  split
  · split <;> simp
  · simp
section
variable {X : Cx} {ca : Nat → Addr} {W : WX} {w : Wd}
def rInDT (K : PySem.W.Frag) : R2 := fun x y H Q => ∃ d ds, Dp K H x d ∧ Dp K H y (.tuple ds) ∧ SeqAt.shaped d = true ∧ SeqAt.shaped (.tuple ds) = true ∧ Q (.bl (ds.any fun z => PyData.eqv z d)) H
theorem op_inDT (hu : X.A.units + 65 < cLine) : OpR X (compareOp .In) (rInDT X.K) := by
  intro pins s σ H x y v u Q I rx ry h
  obtain ⟨d, ds, hd, he, sd, se, q⟩ := h
  obtain ⟨as, r1⟩ := Dp.reads I d x v hd rx
  obtain ⟨bs, r2⟩ := Dp.reads I (.tuple ds) y u he ry
  exact SeqAt.in_tuple_reads r2 r1 (SeqAt.canLay_of_shaped se) (SeqAt.canLay_of_shaped sd) (room_in_shaped sd hu) ⟨.bl _, H, I, rfl, q⟩
theorem look_tup {v : V} {d : D} {ys : List D} {w : Wd} (s : SOk X.K ca w) (r : Rep X.K ca w v d) (e : look d w.S = some (.tup ys)) (h : fit (.tup ys) = true) : Dp X.K w.H v (.tuple (toPs ys)) := by
  have z := look_dp s r e h
  unfold toP at z
  exact z
theorem r_inT (hu : X.A.units + 65 < cLine) : OpR X (compareOp .In) (rO2 X.K ca oInT) := opImp (op_inDT hu) fun x y H Q h => by
  obtain ⟨w, dx, dy, e, sk, r1, r2, q⟩ := h
  subst e
  unfold oInT at q
  split at q
  · rename_i d ys q1 q2
    by_cases hf : (fit d && fit (.tup ys)) = true
    · rw [if_pos hf] at q
      rw [Bool.and_eq_true] at hf
      refine ⟨toP d, toPs ys, look_dp sk r1 q1 hf.1, look_tup sk r2 q2 hf.2, shaped_fit hf.1, by have z := shaped_fit hf.2; unfold toP at z; exact z, ?_⟩
      rw [any_toP (fit_pure hf.1) (by have z := fit_pure hf.2; unfold pureB at z; exact z)]
      have z := sat_here sk q (.bl _)
      simpa using z
    · rw [if_neg hf] at q; exact q.elim
  · exact q.elim
end
end Py

set_option maxHeartbeats 4000000
/-! PyM: what the head needs. -/
namespace Py
open PySem PySem.Spec PyProof.Rows L2

def exM (anc : Anc) (j : Nat) : Nat → Option Bool := fun k => if k < anc.length then some ((anc.getD k []).contains j) else none
theorem exM_ok {K : PySem.W.Frag} {ca : Nat → Addr} {anc : Anc} {j : Nat} (C : ClsOk K ca anc) (hj : j < anc.length) : ∀ k b, exM anc j k = some b → PySem.W.exmOne K (.ref (ca k)) (.ref (ca j)) = some b := fun k b h => by
  unfold exM at h
  by_cases hk : k < anc.length
  · rw [if_pos hk] at h
    rw [C.ex k j hk hj]
    exact h
  · rw [if_neg hk] at h; cases h
/-- the first def of a class -/
def clsM (st : Stmt) : Stmt := match st with
  | .ClassDef _ _ _ body .. => (body.find? fun s => match s with | .FunctionDef .. => true | _ => false).getD st
  | s => s

/-! ### the head's facts -/
abbrev AlX : Type := He.AlD × Bool
def obsX (fa : List He.Fa) (fn : List He.DefD) (fx : PySem.W.Frag → Bool) (K : PySem.W.Frag) : AlX := (He.obsD fa fn K, fx K)
def valX (fn : List He.DefD) : AlX := (He.valD fn, true)
def SaysX (fa : List He.Fa) (fn : List He.DefD) (fx : PySem.W.Frag → Bool) (K : PySem.W.Frag) : Prop := obsX fa fn fx K = valX fn
def obsXG (n : Nat) (fa : List He.Fa) (fn : List He.DefD) (fx : PySem.W.Frag → Bool) (g : Addr → Option Obj) : AlX := obsX fa fn fx (He.frG g (He.asD g n))
def hookX (n : Nat) (fa : List He.Fa) (fn : List He.DefD) (fx : PySem.W.Frag → Bool) : PySem.W.Hook where
  α := AlX
  obs := fun s => obsXG n fa fn fx s.heap.get?
  val := fun _ => valX fn
  says := fun _ h => ∃ K : PySem.W.Frag, K.In h ∧ SaysX fa fn fx K
  of := fun _ _ e => ⟨_, He.frG_in, e⟩
  keeps := fun _ _ _ ⟨K, hK, c⟩ k => ⟨K, PySem.W.Frag.In.keeps hK k, c⟩
theorem obsXG_eq {n : Nat} {fa : List He.Fa} {fn : List He.DefD} {fx : PySem.W.Frag → Bool} {g : Addr → Option Obj} {s : Shared} (h : ∀ a, g a = s.heap.get? a) : obsXG n fa fn fx g = (hookX n fa fn fx).obs s := by
  have e : g = s.heap.get? := funext h
  rw [e] <;> rfl
theorem SaysX.d {fa : List He.Fa} {fn : List He.DefD} {fx : PySem.W.Frag → Bool} {K : PySem.W.Frag} (c : SaysX fa fn fx K) : He.SaysD fa fn K := congrArg (fun z : AlX => z.1) c
theorem SaysX.x {fa : List He.Fa} {fn : List He.DefD} {fx : PySem.W.Frag → Bool} {K : PySem.W.Frag} (c : SaysX fa fn fx K) : fx K = true := congrArg (fun z : AlX => z.2) c

/-! ### a law's def at the end -/
theorem fn_cx0 {P : Program} {w : World} {K : PySem.W.Frag} {mg : Str → Option Value} {base : Heap} {k : Nat} {f : Addr} {fd : FuncData} {ps : List Str} {sp : Sp} (F : FnOk P w K mg base (L2.CX P w) k f fd ps sp) :
    FnOk P w K mg base CX0 k f fd ps (fun vs H Q _ => sp vs H Q fun _ _ _ => False) where
  len := fun vs H Q E h => F.len vs H Q _ h
  run := fun A outer s H args us vs Q E hr he hb r h => codeAny_mono (F.run A outer s H args us vs Q (fun _ _ _ => False) hr he hb r h) fun r s' hq => by
    cases r with
    | error e =>
      obtain ⟨_, _, _, _, _, _, _, _, _, _, _, _, z⟩ := hq
      exact z.elim
    | ok fl => cases fl <;> exact hq
theorem start_ok {K : PySem.W.Frag} {ca : Nat → Addr} {H : Hp} {a : Addr} {ns : List Int} (hO : Only H) (hS : SqL K H a (ns.map V.int)) : SOk K ca ⟨H, fun _ => 0, []⟩ ∧ Rep K ca ⟨H, fun _ => 0, []⟩ (.ref a) (.fls ns) := by
  refine ⟨⟨fun n xs q => (by simp at q), fun n m xs ys q => (by simp at q)⟩, .fls ?_⟩
  rcases hS with (h | ⟨o, h⟩) | h
  · rcases hO a with z | ⟨o, xs, z⟩
    · rw [z] at h; cases h
    · rw [z] at h; cases h
  · exact .inl ⟨o, h⟩
  · exact .inr h
theorem law_sp {K : PySem.W.Frag} {ca : Nat → Addr} {Γ : Calls} {i : Nat} {H : Hp} {a : Addr} {ns : List Int} {S' : Store} (hO : Only H) (hS : SqL K H a (ns.map V.int)) (h : Γ i [.fls ns] [] = .ok (.bl true) S') :
    spF K ca Γ i 1 [.ref a] H (fun v _ => v = .bl true) (fun _ _ _ => False) := by
  obtain ⟨s, r⟩ := start_ok (ca := ca) hO hS
  refine ⟨_, [.fls ns], rfl, rfl, s, .cons r .nil, ?_⟩
  rw [h]
  intro w1 hS x1 s1 v rv
  cases rv
  rfl
/-- the constructor's place, a class's facts -/
def excB (K : PySem.W.Frag) (ca : Nat → Addr) (anc : Anc) (fI : Addr) : Bool := clsB K ca anc && ((List.range anc.length).all (fun c => decide (PySem.W.findIn K (.ref (ca c)) "__init__" = some (some (.ref fI)))) && decide (PySem.W.typeIn K (.ref fI) = some (.type "function")))
theorem excB_ok {K : PySem.W.Frag} {ca : Nat → Addr} {anc : Anc} {fI : Addr} (h : excB K ca anc fI = true) : ClsOk K ca anc ∧ (∀ c, c < anc.length → ExcT K (ca c) fI) ∧ PySem.W.typeIn K (.ref fI) = some (.type "function") := by
  unfold excB at h
  rw [Bool.and_eq_true, Bool.and_eq_true] at h
  have C := clsB_ok h.1
  exact ⟨C, fun c hc => ⟨C.oex c hc, of_decide_eq_true (List.all_eq_true.mp h.2.1 c (List.mem_range.mpr hc)), C.noval c hc⟩, of_decide_eq_true h.2.2⟩
def bltB (K : PySem.W.Frag) (x : Str) (id : String) : Bool := decide (PySem.W.nsIn K mainGlobals x = some (some (.builtin id)))
theorem bltB_ok {K : PySem.W.Frag} {h : Heap} {mg : Str → Option Value} {x : Str} {id : String} (X : K.In h) (G : h.Ns mainGlobals mg) (c : bltB K x id = true) : mg x = some (.builtin id) := PySem.W.mg_of X G (of_decide_eq_true c)

/-! ### constants of the module -/
def GloD (K : PySem.W.Frag) (ca : Nat → Addr) (mg : Str → Option Value) (x : Str) (d : D) : Prop := ∃ (v : V) (u : Value), mg x = some u ∧ RelV v u ∧ ∀ w : Wd, Rep K ca w v d
theorem e_gl {X : Cx} {ca : Nat → Addr} {W : WX} {pos : Pos} {x : Str} {d : D} (h : GloD X.K ca X.mg x d) (hg : Gl X x) (hd : (x == ("__debug__" : Str)) = false := by decide) : PE X (.Name x pos) (tE X.K ca W (eC d)) := by
  obtain ⟨v, u, hm, r, rd⟩ := h
  exact e_glob hg hm r rd hd
section
variable {K : PySem.W.Frag} {ca : Nat → Addr} {h : Heap} {mg : Str → Option Value} {x : Str}
theorem glo_int (X : K.In h) (G : h.Ns mainGlobals mg) {i : Int} (c : (He.Fa.int x i).ok K = true) : GloD K ca mg x (.int i) := by
  obtain ⟨t, e⟩ := He.int_ok X G c
  exact ⟨.int i, _, e, ⟨t, rfl⟩, fun w => .int i⟩
theorem glo_str (X : K.In h) (G : h.Ns mainGlobals mg) {z : Str} (c : (He.Fa.str x z).ok K = true) : GloD K ca mg x (.str z) := by
  obtain ⟨t, e⟩ := He.str_ok X G c
  exact ⟨.str z, _, e, ⟨t, rfl⟩, fun w => .str z⟩
theorem glo_tup (X : K.In h) (G : h.Ns mainGlobals mg) {vs : List He.Dv} {ds : List D} (c : ((He.Fa.glo x).ok K && He.tupB K x vs) = true) (r : ∀ w : Wd, RepL K ca w (vs.map (He.Dv.v K)) ds) : GloD K ca mg x (.tup ds) := by
  rw [Bool.and_eq_true] at c
  exact ⟨.ref (He.ga K x), _, He.glo_ok X G c.1, rfl, fun w => .tup (He.tupB_ok c.2 _) (r w)⟩
end
end Py

set_option maxHeartbeats 4000000
/-! PyN: reckoning with what is computed. -/
namespace Py
open PySem (Str sizeLine)
section
variable {d d1 d2 : D} {e : Env} {S S1 : Store} {f g h : Den} {gs hs : Dens} {i j : Nat} {t u : DenT} {F G : DenS} {Γ : Calls}
@[simp] theorem eC_ap : eC d e S = .ok d S := rfl
theorem eVar_ap (h : e[i]? = some (some d)) : eVar i e S = .ok d S := by unfold eVar; rw [h]
@[simp] theorem eVar_c0 {o : Env} : eVar 0 (some d :: o) S = .ok d S := rfl
@[simp] theorem eVar_c {x : Option D} {o : Env} {i : Nat} : eVar (i + 1) (x :: o) S = eVar i o S := rfl
@[simp] theorem dNil_ap : dNil e S = .ok [] S := rfl
@[simp] theorem dCons_ap : dCons f gs e S = (f e S).bind fun a S1 => (gs e S1).bind fun as S2 => .ok (a :: as) S2 := rfl
@[simp] theorem eTup_ap : eTup gs e S = (gs e S).bind fun as S1 => .ok (.tup as) S1 := rfl
@[simp] theorem eLst_ap : eLst gs e S = (gs e S).bind fun as S1 => .ok (.lst as) S1 := rfl
@[simp] theorem eNew_ap : eNew gs e S = (gs e S).bind fun as S1 => .ok (.ref S1.length) (S1 ++ [.lst as]) := rfl
@[simp] theorem eBin_ap {o : Op2} : eBin o f g e S = (f e S).bind fun a S1 => (g e S1).bind fun b S2 => o a b S2 := rfl
@[simp] theorem eUn_ap {o : Op1} : eUn o f e S = (f e S).bind fun a S1 => o a S1 := rfl
@[simp] theorem eFn_ap {o : OpN} : eFn o gs e S = (gs e S).bind fun as S1 => o as S1 := rfl
@[simp] theorem dFn_ap {o : OpF} : dFn o gs e S = (gs e S).bind fun as S1 => o as S1 := rfl
@[simp] theorem eCall_ap : eCall Γ i gs e S = (gs e S).bind fun as S1 => Γ i as S1 := rfl
@[simp] theorem eCallP_ap {js : List Nat} : eCallP Γ i js gs hs e S = (gs e S).bind fun as S1 => (hs e S1).bind fun bs S2 => Γ i (perm js (as ++ bs)) S2 := rfl
@[simp] theorem eIf_ap : eIf t f g e S = (t e S).bind fun b S1 => if b then f e S1 else g e S1 := rfl
@[simp] theorem eIsi_ap {anc : Anc} {cs : List Cl} : eIsi anc cs f e S = (f e S).bind fun d S1 => optR (kdOf anc d S1) fun k => .ok (.bl (cs.any (isK anc k))) S1 := rfl
@[simp] theorem eVal_ap {anc : Anc} : eVal anc f e S = (f e S).bind fun d S1 => exVal anc d S1 := rfl
@[simp] theorem eSetI_ap {o i : Den} : eSetI f o i e S = (f e S).bind fun v S1 => (o e S1).bind fun d S2 => (i e S2).bind fun k S3 => chg (kSet k v) d S3 := rfl
@[simp] theorem eApp_ap {o : Den} : eApp o f e S = (o e S).bind fun d S1 => (f e S1).bind fun v S2 => chg (kApp v) d S2 := rfl
@[simp] theorem ePop_ap {o : Den} : ePop o e S = (o e S).bind fun d S1 => chg kPop d S1 := rfl
@[simp] theorem eIns_ap {o i : Den} : eIns o i f e S = (o e S).bind fun d S1 => (i e S1).bind fun k S2 => (f e S2).bind fun v S3 => chg (kIns k v) d S3 := rfl
@[simp] theorem eAnd_ap : eAnd f g e S = (f e S).bind fun a S1 => match a with | .bl true => g e S1 | .bl false => .ok (.bl false) S1 | _ => .bad := rfl
@[simp] theorem eOr_ap : eOr f g e S = (f e S).bind fun a S1 => match a with | .bl true => .ok (.bl true) S1 | .bl false => g e S1 | _ => .bad := rfl
@[simp] theorem eNot_ap : eNot f e S = (f e S).bind fun a S1 => match a with | .bl b => .ok (.bl (!b)) S1 | _ => .bad := rfl
@[simp] theorem tVal_ap : tVal f e S = (f e S).bind fun a S1 => match a with | .bl b => .ok b S1 | _ => .bad := rfl
@[simp] theorem tNot_ap : tNot t e S = (t e S).bind fun b S1 => .ok (!b) S1 := rfl
@[simp] theorem tAnd_ap : tAnd t u e S = (t e S).bind fun b S1 => if b then u e S1 else .ok false S1 := rfl
@[simp] theorem tOr_ap : tOr t u e S = (t e S).bind fun b S1 => if b then .ok true S1 else u e S1 := rfl
@[simp] theorem sSeq_ap : sSeq F G e S = (match F e S with | .next e1 S1 => G e1 S1 | r => r) := rfl
@[simp] theorem sPass_ap : sPass e S = .next e S := rfl
@[simp] theorem sExpr_ap : sExpr f e S = (match f e S with | .ok _ S1 => .next e S1 | .err c v S1 => .err c v e S1 | .bad => .bad) := rfl
@[simp] theorem sSet_ap : sSet i f e S = (match f e S with | .ok d S1 => .next (e.set i (some d)) S1 | .err c v S1 => .err c v e S1 | .bad => .bad) := rfl
@[simp] theorem sRet_ap : sRet f e S = (match f e S with | .ok d S1 => .ret d S1 | .err c v S1 => .err c v e S1 | .bad => .bad) := rfl
@[simp] theorem sRetN_ap : sRetN e S = .ret .non S := rfl
@[simp] theorem sIf_ap : sIf t F G e S = (match t e S with | .ok c S1 => if c then F e S1 else G e S1 | .err c v S1 => .err c v e S1 | .bad => .bad) := rfl
@[simp] theorem sBrk_ap : sBrk e S = .brk e S := rfl
@[simp] theorem sRaise_ap {c : Nat} : sRaise c f e S = (match f e S with | .ok d S1 => .err c d e S1 | .err c v S1 => .err c v e S1 | .bad => .bad) := rfl
@[simp] theorem sPar_ap : sPar i j f g e S = (match f e S with
  | .ok d S1 => (match g e S1 with | .ok d2 S2 => .next ((e.set i (some d)).set j (some d2)) S2 | .err c v S2 => .err c v e S2 | .bad => .bad)
  | .err c v S1 => .err c v e S1
  | .bad => .bad) := rfl
@[simp] theorem sAsg_ap {k : Tgt} : sAsg k f e S = (match f e S with | .ok d S1 => (match k d e S1 with | some e1 => .next e1 S1 | none => .bad) | .err c v S1 => .err c v e S1 | .bad => .bad) := rfl
@[simp] theorem gNm_ap : gNm i d e S = some (e.set i (some d)) := rfl
@[simp] theorem gTup_ap {ks : List Tgt} {xs : List D} : gTup ks (.tup xs) e S = gAll ks xs e S := rfl
@[simp] theorem gAll_nil : gAll [] [] e S = some e := rfl
@[simp] theorem gAll_cons {k : Tgt} {ks : List Tgt} {x : D} {xs : List D} : gAll (k :: ks) (x :: xs) e S = (match k x e S with | some e1 => gAll ks xs e1 S | none => none) := rfl
@[simp] theorem optR_some {α β : Type} {a : α} {k : α → R β} : optR (some a) k = k a := rfl
@[simp] theorem optR_none {α β : Type} {k : α → R β} : optR none k = .bad := rfl
@[simp] theorem rcv_ap : rcv f e S = (f e S).bind fun d S1 => match d with | .ref n => (match S1[n]? with | some (.lst _) => .ok d S1 | _ => .bad) | _ => .bad := rfl
/-! operations of ints -/
variable {a b : Int}
@[simp] theorem oAdd_i : oAdd (.int a) (.int b) S = .ok (.int (a + b)) S := rfl
@[simp] theorem oCat_i : oCat (.int a) (.int b) S = .ok (.int (a + b)) S := rfl
@[simp] theorem oSub_i : oSub (.int a) (.int b) S = .ok (.int (a - b)) S := rfl
@[simp] theorem oNeg_i : oNeg (.int a) S = .ok (.int (-a)) S := rfl
@[simp] theorem oLt_i : oLt (.int a) (.int b) S = .ok (.bl (decide (a < b))) S := rfl
@[simp] theorem oLe_i : oLe (.int a) (.int b) S = .ok (.bl (decide (a ≤ b))) S := rfl
@[simp] theorem oGt_i : oGt (.int a) (.int b) S = .ok (.bl (decide (b < a))) S := rfl
@[simp] theorem oGe_i : oGe (.int a) (.int b) S = .ok (.bl (decide (b ≤ a))) S := rfl
@[simp] theorem oInt_i : oInt [.int a] S = .ok (.int a) S := rfl
@[simp] theorem oAbs_i : oAbs [.int a] S = .ok (.int a.natAbs) S := rfl
@[simp] theorem oMax2_i : oMax2 [.int a, .int b] S = .ok (.int (max a b)) S := rfl
@[simp] theorem oMin2_i : oMin2 [.int a, .int b] S = .ok (.int (min a b)) S := rfl
@[simp] theorem oGcd_i : oGcd [.int a, .int b] S = .ok (.int (Nat.gcd a.natAbs b.natAbs : Nat)) S := rfl
@[simp] theorem oIsN_ap : oIsN d S = .ok (.bl (isNon d)) S := rfl
@[simp] theorem oNotN_ap : oNotN d S = .ok (.bl (!isNon d)) S := rfl
theorem oMod_i (h : b ≠ 0) : oMod (.int a) (.int b) S = .ok (.int (a.fmod b)) S := if_pos h
theorem oFdiv_i (h : divOk b = true) : oFdiv (.int a) (.int b) S = .ok (.int (a.fdiv b)) S := if_pos h
theorem oRep_i (h : mulOk a b = true) : oRep (.int a) (.int b) S = .ok (.int (a * b)) S := if_pos h
theorem oPow_i (h : powOk a b = true) : oPow (.int a) (.int b) S = .ok (.int (a ^ b.toNat)) S := if_pos h
@[simp] theorem look_i : look (.int a) S = some (.int a) := rfl
@[simp] theorem look_b {c : Bool} : look (.bl c) S = some (.bl c) := rfl
@[simp] theorem fit_i : fit (.int a) = true := rfl
@[simp] theorem fit_b {c : Bool} : fit (.bl c) = true := rfl
theorem oEq_fit {d1 d2 : D} (h1 : fit d1 = true) (h2 : fit d2 = true) : oEq d1 d2 S = .ok (.bl (eqB d1 d2)) S := by
  have p1 : look d1 S = some d1 := look_no (noRef_pure (fit_pure h1))
  have p2 : look d2 S = some d2 := look_no (noRef_pure (fit_pure h2))
  unfold oEq
  rw [p1, p2]
  simp only [h1, h2, Bool.and_self, if_true]
theorem oNe_fit {d1 d2 : D} (h1 : fit d1 = true) (h2 : fit d2 = true) : oNe d1 d2 S = .ok (.bl (!eqB d1 d2)) S := by
  have p1 : look d1 S = some d1 := look_no (noRef_pure (fit_pure h1))
  have p2 : look d2 S = some d2 := look_no (noRef_pure (fit_pure h2))
  unfold oNe
  rw [p1, p2]
  simp only [h1, h2, Bool.and_self, if_true]
@[simp] theorem oEq_i : oEq (.int a) (.int b) S = .ok (.bl (a == b)) S := oEq_fit rfl rfl
@[simp] theorem oNe_i : oNe (.int a) (.int b) S = .ok (.bl (!(a == b))) S := oNe_fit rfl rfl
@[simp] theorem oNe_b {c1 c2 : Bool} : oNe (.bl c1) (.bl c2) S = .ok (.bl (!(c1 == c2))) S := oNe_fit rfl rfl
@[simp] theorem oEq_b {c1 c2 : Bool} : oEq (.bl c1) (.bl c2) S = .ok (.bl (c1 == c2)) S := oEq_fit rfl rfl
theorem bits_lt {i : Int} {k : Nat} (h : i.natAbs < 2 ^ k) : bits i ≤ k + 1 := by
  unfold bits
  by_cases h0 : i.natAbs = 0
  · rw [h0]; simp
  · have := (Nat.log2_lt h0).mpr h
    omega
theorem mulOk_small {a b : Int} (ha : a.natAbs < 2 ^ 1000) (hb : b.natAbs < 2 ^ 1000) : mulOk a b = true := by
  unfold mulOk
  have h1 := bits_lt ha
  have h2 := bits_lt hb
  exact decide_eq_true (by omega)
theorem divOk_small {b : Int} (h0 : b ≠ 0) (hb : b.natAbs < 2 ^ 1000) : divOk b = true := by
  unfold divOk
  rw [Bool.and_eq_true]
  have h1 := bits_lt hb
  unfold bits at h1
  exact ⟨decide_eq_true h0, decide_eq_true (by omega)⟩
theorem powOk_small {a b : Int} (h0 : 0 ≤ b) (h1 : b ≤ 1000000) (ha : a.natAbs < 2 ^ 64) : powOk a b = true := by
  unfold powOk
  rw [Bool.and_eq_true, Bool.and_eq_true]
  exact ⟨decide_eq_true h0, decide_eq_true h1, decide_eq_true ha⟩
end
/-- a loop by its invariant -/
theorem forL_inv {g : Tgt} {b : DenS} {xs : List D} (P : Nat → Env → Store → Prop)
    (step : ∀ i x e S, xs[i]? = some x → P i e S → ∃ e1, g x e S = some e1 ∧ ∃ e2 S2, (b e1 S = .next e2 S2 ∨ b e1 S = .cont e2 S2) ∧ P (i + 1) e2 S2) :
    ∀ (e : Env) (S : Store), P 0 e S → ∃ e' S', forL g b xs e S = .next e' S' ∧ P xs.length e' S' := by
  have go : ∀ (ys : List D) (i : Nat), xs.drop i = ys → i ≤ xs.length → ∀ e S, P i e S → ∃ e' S', forL g b ys e S = .next e' S' ∧ P xs.length e' S' := by
    intro ys
    induction ys with
    | nil =>
      intro i hd hi e S hp
      have : xs.length ≤ i := List.drop_eq_nil_iff.mp hd
      have e1 : i = xs.length := by omega
      subst e1
      exact ⟨e, S, rfl, hp⟩
    | cons y ys ih =>
      intro i hd hi e S hp
      have hlt : i < xs.length := by
        apply Classical.byContradiction
        intro hn
        rw [List.drop_eq_nil_of_le (by omega)] at hd
        cases hd
      have hx : xs[i]? = some y := by
        have := List.drop_eq_getElem_cons hlt
        rw [hd] at this
        injection this with h1 h2
        rw [h1, List.getElem?_eq_getElem hlt]
      obtain ⟨e1, hg, e2, S2, hb, hp2⟩ := step i y e S hx hp
      have hd2 : xs.drop (i + 1) = ys := by
        have := List.drop_eq_getElem_cons hlt
        rw [hd] at this
        injection this with h1 h2
        exact h2.symm
      obtain ⟨e', S', h1, h2⟩ := ih (i + 1) hd2 hlt e2 S2 hp2
      refine ⟨e', S', ?_, h2⟩
      unfold forL
      rw [hg]
      dsimp only
      rcases hb with hb | hb <;> rw [hb] <;> exact h1
  intro e S hp
  exact go xs 0 List.drop_zero (Nat.zero_le _) e S hp
theorem tidy_same {S S' : Store} {d : D} (h : S'.length = S.length) : tidy S (.ok d S') = .ok d S' := tidy_ok (Nat.le_of_eq h)
end Py
namespace Py
/-- a loop over a list of the store that stays as it is -/
theorem forR_inv {g : Tgt} {b : DenS} {n : Nat} {xs : List D} (P : Nat → Env → Store → Prop) (hS : ∀ i e S, P i e S → S[n]? = some (.lst xs))
    (step : ∀ i x e S, xs[i]? = some x → P i e S → ∃ e1, g x e S = some e1 ∧ ∃ e2 S2, (b e1 S = .next e2 S2 ∨ b e1 S = .cont e2 S2) ∧ P (i + 1) e2 S2) :
    ∀ (e : Env) (S : Store), P 0 e S → ∃ e' S', forW g b (wkR n) xs.length 0 e S = .next e' S' ∧ P xs.length e' S' := by
  have go : ∀ (f i : Nat), i + f = xs.length → ∀ e S, P i e S → ∃ e' S', forW g b (wkR n) f i e S = .next e' S' ∧ P xs.length e' S' := by
    intro f
    induction f with
    | zero =>
      intro i hi e S hp
      have h := hS i e S hp
      have hn : xs[i]? = none := List.getElem?_eq_none (by omega)
      refine ⟨e, S, ?_, by have : i = xs.length := by omega
                           rw [← this]; exact hp⟩
      unfold forW
      simp only [wkR, h, hn]
    | succ f ih =>
      intro i hi e S hp
      have h := hS i e S hp
      have hl : i < xs.length := by omega
      have hx : xs[i]? = some xs[i] := List.getElem?_eq_getElem hl
      obtain ⟨e1, hg, e2, S2, hb, hp2⟩ := step i _ e S hx hp
      obtain ⟨e', S', h1, h2⟩ := ih (i + 1) (by omega) e2 S2 hp2
      refine ⟨e', S', ?_, h2⟩
      unfold forW
      simp only [wkR, h, hx, hg]
      rcases hb with hb | hb <;> rw [hb] <;> exact h1
  intro e S hp
  exact go xs.length 0 (by omega) e S hp
end Py

set_option maxHeartbeats 4000000
/-! PyO: comprehensions that change nothing, lists of truths. -/
namespace Py
open PySem (Str sizeLine)
theorem lcW_pure {g : Tgt} {f : Den} {e0 : Env} {S : Store} {xs : List D} (φ : D → D)
    (hs : ∀ x ∈ xs, ∀ S', ∃ e1, g x e0 S' = some e1 ∧ f e1 S' = .ok (φ x) S') (hl : xs.length ≤ sizeLine) :
    ∀ (k i : Nat) (acc : List D), acc.length = i → i + k = xs.length → lcW g tYesD f (wkL xs) e0 S.length k i (S ++ [.lst acc]) = .ok () (S ++ [.lst (acc ++ (xs.drop i).map φ)])
  | 0, i, acc, ha, hk => by
    have hi : i = xs.length := by omega
    unfold lcW
    simp only [wkL, List.getElem?_eq_none (Nat.le_of_eq hi.symm)]
    rw [List.drop_eq_nil_of_le (Nat.le_of_eq hi.symm), List.map_nil, List.append_nil]
  | k + 1, i, acc, ha, hk => by
    have hi : i < xs.length := by omega
    obtain ⟨e1, h1, h2⟩ := hs xs[i] (List.getElem_mem hi) (S ++ [.lst acc])
    have hS : (S ++ [O.lst acc])[S.length]? = some (.lst acc) := by rw [List.getElem?_append_right (Nat.le_refl _), Nat.sub_self]; rfl
    have hset : (S ++ [O.lst acc]).set S.length (.lst (acc ++ [φ xs[i]])) = S ++ [.lst (acc ++ [φ xs[i]])] := by
      rw [List.set_append_right _ _ (Nat.le_refl _), Nat.sub_self]; rfl
    unfold lcW
    simp only [wkL, List.getElem?_eq_getElem hi, h1, tYesD, h2, hS]
    rw [if_pos (by omega), hset]
    have ih := lcW_pure (S := S) φ hs hl k (i + 1) (acc ++ [φ xs[i]]) (by rw [List.length_append, List.length_singleton]; omega) (by omega)
    rw [ih, List.drop_eq_getElem_cons hi, List.map_cons, List.append_assoc]
    rfl
theorem noRefL_map {xs : List D} {φ : D → D} (h : ∀ x ∈ xs, noRef (φ x) = true) : noRefL (xs.map φ) = true := by
  induction xs with
  | nil => rfl
  | cons x xs ih =>
    rw [List.map_cons]
    unfold noRefL
    rw [h x List.mem_cons_self, ih fun y hy => h y (List.mem_cons_of_mem _ hy)]
    rfl
theorem tidy_last {S : Store} {zs : List D} (h : noRefL zs = true) : tidy S (.ok (.ref S.length) (S ++ [.lst zs])) = .ok (.lst zs) S := by
  have hS : (S ++ [O.lst zs])[S.length]? = some (.lst zs) := by rw [List.getElem?_append_right (Nat.le_refl _), Nat.sub_self]; rfl
  have hr : res S.length (S ++ [.lst zs]) (.ref S.length) = some (.lst zs) := by
    unfold res mapR resN
    rw [if_neg (Nat.lt_irrefl _), hS]
    dsimp only
    rw [mapRL_no h]
    rfl
  rcases tidy_app (S := S) (T := [.lst zs]) hr with z | ⟨z, _⟩
  · exact z
  · cases z
theorem eLc_pure {vs : List Nat} {gi : DenI} {g : Tgt} {f : Den} {e : Env} {S : Store} {xs : List D} (φ : D → D) (hgi : gi e S = .ok (wkL xs, xs.length) S)
    (hs : ∀ x ∈ xs, ∀ S', ∃ e1, g x (wipeE e vs) S' = some e1 ∧ f e1 S' = .ok (φ x) S') (hn : ∀ x ∈ xs, noRef (φ x) = true) (hl : xs.length ≤ sizeLine) :
    eLc vs gi g tYesD f e S = .ok (.lst (xs.map φ)) S := by
  unfold eLc
  rw [hgi]
  simp only [R.bind]
  rw [lcW_pure φ hs hl xs.length 0 [] rfl (by omega)]
  simp only [List.nil_append, List.drop_zero]
  exact tidy_last (noRefL_map hn)
theorem isBls_map {xs : List D} {p : D → Bool} : isBls (xs.map fun x => .bl (p x)) = some (xs.map p) := by
  induction xs with
  | nil => rfl
  | cons x xs ih =>
    rw [List.map_cons, List.map_cons]
    unfold isBls
    rw [ih]
    rfl
theorem oAll_map {xs : List D} {p : D → Bool} {S : Store} : oAll [.lst (xs.map fun x => .bl (p x))] S = .ok (.bl (xs.all p)) S := by
  unfold oAll lst1
  have : (asL (.lst (xs.map fun x => D.bl (p x))) S).bind isBls = some (xs.map p) := isBls_map
  simp only [this]
  rw [List.all_map]
  rfl
theorem oAny_map {xs : List D} {p : D → Bool} {S : Store} : oAny [.lst (xs.map fun x => .bl (p x))] S = .ok (.bl (xs.any p)) S := by
  unfold oAny lst1
  have : (asL (.lst (xs.map fun x => D.bl (p x))) S).bind isBls = some (xs.map p) := isBls_map
  simp only [this]
  rw [List.any_map]
  rfl
theorem idx_ref {S : Store} {p : Nat} {xs : List D} {i : Int} {v : D} (h : S[p]? = some (.lst xs)) (hv : L2.atI xs i = some v) : oIdx (.ref p) (.int i) S = .ok v S := by
  show (match (asSq (.ref p) S).bind (L2.atI · i) with | some v => R.ok v S | none => .bad) = _
  have : asSq (.ref p) S = some xs := by show (match S[p]? with | some (.lst xs) => some xs | _ => none) = _; rw [h]
  rw [this, Option.bind_some, hv]
theorem idx_lst {S : Store} {xs : List D} {i : Int} {v : D} (hv : L2.atI xs i = some v) : oIdx (.lst xs) (.int i) S = .ok v S := by
  show (match (asSq (.lst xs) S).bind (L2.atI · i) with | some v => R.ok v S | none => .bad) = _
  have : asSq (.lst xs) S = some xs := rfl
  rw [this, Option.bind_some, hv]
@[simp] theorem idx_tup {S : Store} {xs : List D} {i : Int} : oIdx (.tup xs) (.int i) S = (match L2.atI xs i with | some v => .ok v S | none => .bad) := rfl
theorem chg_at {S : Store} {p : Nat} {k : List D → Option (List D × D)} {xs ys : List D} {r : D} (h : S[p]? = some (.lst xs)) (hk : k xs = some (ys, r)) : chg k (.ref p) S = .ok r (S.set p (.lst ys)) := by
  unfold chg; dsimp only; rw [h]; dsimp only; rw [hk]
theorem lt_of_get {S : Store} {p : Nat} {o : O} (h : S[p]? = some o) : p < S.length := (List.getElem?_eq_some_iff.mp h).1
theorem atI_nat {α : Type} {xs : List α} {i : Nat} (h : i < xs.length) : L2.atI xs (i : Int) = some xs[i] := by
  unfold L2.atI L2.ixN
  rw [if_pos (by omega), if_pos (by omega)]
  simp [h]
theorem pure_ints (l : List Int) : pureL (l.map D.int) = true := by
  induction l with
  | nil => rfl
  | cons i l ih => simp only [List.map_cons, pureL, pureB, ih, Bool.and_self]
theorem depth_ints (l : List Int) : depthL (l.map D.int) = 0 := by
  induction l with
  | nil => rfl
  | cons i l ih => simp only [List.map_cons, depthL, depth, ih, Nat.max_self]
theorem fit_ints (l : List Int) : fit (.lst (l.map D.int)) = true := by
  unfold fit pureB depth
  rw [pure_ints, depth_ints]
  rfl
theorem fit_tints (l : List Int) : fit (.tup (l.map D.int)) = true := by
  unfold fit pureB depth
  rw [pure_ints, depth_ints]
  rfl
@[simp] theorem at4_0 {a b c d : D} : L2.atI [a, b, c, d] 0 = some a := rfl
@[simp] theorem at4_1 {a b c d : D} : L2.atI [a, b, c, d] 1 = some b := rfl
@[simp] theorem at4_2 {a b c d : D} : L2.atI [a, b, c, d] 2 = some c := rfl
@[simp] theorem at4_3 {a b c d : D} : L2.atI [a, b, c, d] 3 = some d := rfl
@[simp] theorem at2_0 {a b : D} : L2.atI [a, b] 0 = some a := rfl
@[simp] theorem at2_1 {a b : D} : L2.atI [a, b] 1 = some b := rfl
@[simp] theorem at1_0 {a : D} : L2.atI [a] 0 = some a := rfl
theorem atI_c0 {α : Type} {a : α} {xs : List α} : L2.atI (a :: xs) 0 = some a := by
  unfold L2.atI L2.ixN
  rw [if_pos (by omega), if_pos (by simp only [List.length_cons]; omega)]
  rfl
theorem atI_c1 {α : Type} {a b : α} {xs : List α} : L2.atI (a :: b :: xs) 1 = some b := by
  unfold L2.atI L2.ixN
  rw [if_pos (by omega), if_pos (by simp only [List.length_cons]; omega)]
  rfl
theorem atI_c2 {α : Type} {a b c : α} {xs : List α} : L2.atI (a :: b :: c :: xs) 2 = some c := by
  unfold L2.atI L2.ixN
  rw [if_pos (by omega), if_pos (by simp only [List.length_cons]; omega)]
  rfl
/-- what is not the store's: the store stays beside p -/
def Fr1 (S S' : Store) (p : Nat) : Prop := S'.length = S.length ∧ ∀ k, k ≠ p → S'[k]? = S[k]?
theorem Fr1.refl {S : Store} {p : Nat} : Fr1 S S p := ⟨rfl, fun _ _ => rfl⟩
theorem Fr1.trans {S S1 S2 : Store} {p : Nat} (a : Fr1 S S1 p) (b : Fr1 S1 S2 p) : Fr1 S S2 p := ⟨b.1.trans a.1, fun k h => (b.2 k h).trans (a.2 k h)⟩
theorem Fr1.set {S : Store} {p : Nat} {o : O} : Fr1 S (S.set p o) p := ⟨List.length_set, fun k h => List.getElem?_set_ne (Ne.symm h)⟩
end Py

set_option maxHeartbeats 4000000
/-! PyP: what the laws' own helpers do: the pot. -/
namespace Py
open PySem (Str sizeLine)
/-- the store has the pot at p -/
def Pot (S : Store) (p : Nat) : Prop := ∃ (a b c : Int) (cs : List Int), S[p]? = some (.lst (.int a :: .int b :: .int c :: cs.map .int)) ∧ 0 ≤ a ∧ 0 ≤ b ∧ b < 2147483648 ∧ 3 ≤ c ∧ c ≤ 3 + cs.length ∧ cs.length ≤ 63
theorem Pot.lt {S : Store} {p : Nat} (h : Pot S p) : p < S.length := by
  obtain ⟨a, b, c, cs, h, _⟩ := h
  exact lt_of_get h
theorem Pot.app {S T : Store} {p : Nat} (h : Pot S p) : Pot (S ++ T) p := by
  have hl := h.lt
  obtain ⟨a, b, c, cs, h, r⟩ := h
  exact ⟨a, b, c, cs, by rw [List.getElem?_append_left hl]; exact h, r⟩
theorem Pot.same {S S' : Store} {p : Nat} (h : Pot S p) (e : S'[p]? = S[p]?) : Pot S' p := by
  obtain ⟨a, b, c, cs, h, r⟩ := h
  exact ⟨a, b, c, cs, e.trans h, r⟩
def takeD : DenS :=
  (sSeq (sIf (tAnd (tVal (eBin oEq (eBin oIdx (eVar 0) (eC (.int 0))) (eC (.int 0)))) (tVal (eBin oLt (eBin oIdx (eVar 0) (eC (.int 2))) (eFn oLen (dCons (eVar 0) dNil)))))
    (sSeq (sSet 2 (eBin oIdx (eVar 0) (eBin oIdx (eVar 0) (eC (.int 2)))))
    (sSeq (sExpr (eAugI (eVar 0) (eC (.int 2)) (fun i j => i + j) (eC (.int 1))))
    (sIf (tVal (eBin oGe (eVar 2) (eBin oPow (eC (.int 10)) (eC (.int 18)))))
    (sExpr (eSetI (eBin oSub (eVar 2) (eBin oPow (eC (.int 10)) (eC (.int 18)))) (eVar 0) (eC (.int 0))))
    (sSeq (sSet 3 (eBin oMod (eFn oInt (dCons (eVar 2) dNil)) (eC (.int 2147483647))))
    (sSeq (sSet 3 (eBin oMod (eFn oInt (dCons (eBin oCat (eBin oCat (eBin oRep (eVar 3) (eVar 3)) (eBin oRep (eC (.int 69621)) (eVar 3))) (eBin oRep (eC (.int 977)) (eBin oIdx (eVar 0) (eC (.int 2))))) dNil)) (eC (.int 2147483629))))
    (sExpr (eSetI (eBin oMod (eFn oInt (dCons (eBin oCat (eBin oIdx (eVar 0) (eC (.int 1))) (eVar 3)) dNil)) (eC (.int 2147483629))) (eVar 0) (eC (.int 1)))))))))
    sPass)
    (sSeq (sIf (tVal (eBin oGt (eBin oIdx (eVar 0) (eC (.int 0))) (eC (.int 0))))
    (sSeq (sSet 4 (eBin oMod (eFn oInt (dCons (eBin oIdx (eVar 0) (eC (.int 0))) dNil)) (eVar 1)))
    (sSeq (sExpr (eSetI (eBin oFdiv (eBin oIdx (eVar 0) (eC (.int 0))) (eVar 1)) (eVar 0) (eC (.int 0))))
    (sRet (eVar 4))))
    sPass)
    (sSeq (sExpr (eSetI (eBin oMod (eFn oInt (dCons (eBin oCat (eBin oCat (eBin oRep (eBin oIdx (eVar 0) (eC (.int 1))) (eC (.int 48271))) (eBin oRep (eC (.int 40692)) (eBin oIdx (eVar 0) (eC (.int 2))))) (eC (.int 11))) dNil)) (eC (.int 2147483647))) (eVar 0) (eC (.int 1))))
    (sSeq (sExpr (eSetI (eBin oMod (eFn oInt (dCons (eBin oCat (eBin oRep (eBin oIdx (eVar 0) (eC (.int 1))) (eBin oIdx (eVar 0) (eC (.int 1)))) (eC (.int 7))) dNil)) (eC (.int 2147483629))) (eVar 0) (eC (.int 1))))
    (sRet (eBin oMod (eFn oInt (dCons (eBin oFdiv (eBin oIdx (eVar 0) (eC (.int 1))) (eC (.int 8))) dNil)) (eVar 1)))))))
theorem kSet_c0 {v x : D} {xs : List D} : kSet (.int 0) v (x :: xs) = some (v :: xs, .non) := by
  unfold kSet L2.ixN
  simp only [List.length_cons]
  rw [if_pos (by omega), if_pos (by omega)]
  rfl
theorem kSet_c1 {v x y : D} {xs : List D} : kSet (.int 1) v (x :: y :: xs) = some (x :: v :: xs, .non) := by
  unfold kSet L2.ixN
  simp only [List.length_cons]
  rw [if_pos (by omega), if_pos (by omega)]
  rfl
theorem kSet_c2 {v x y z : D} {xs : List D} : kSet (.int 2) v (x :: y :: z :: xs) = some (x :: y :: v :: xs, .non) := by
  unfold kSet L2.ixN
  simp only [List.length_cons]
  rw [if_pos (by omega), if_pos (by omega)]
  rfl
theorem len_ref {S : Store} {p : Nat} {xs : List D} (h : S[p]? = some (.lst xs)) : oLen [.ref p] S = .ok (.int xs.length) S := by
  show (match asSq (.ref p) S with | some xs => R.ok (D.int xs.length) S | none => .bad) = _
  have : asSq (.ref p) S = some xs := by show (match S[p]? with | some (.lst xs) => some xs | _ => none) = _; rw [h]
  rw [this]
theorem augGet_c2 {S : Store} {p : Nat} {x y : D} {c : Int} {xs : List D} (h : S[p]? = some (.lst (x :: y :: .int c :: xs))) : augGet (.ref p) (.int 2) S = some c := by
  unfold augGet
  simp only [h]
  rfl
theorem sm {a : Int} {B : Nat} (h : a.natAbs ≤ B) (hB : B < 2 ^ 1000) : a.natAbs < 2 ^ 1000 := Nat.lt_of_le_of_lt h hB
theorem pow18 {S : Store} : oPow (.int 10) (.int 18) S = .ok (.int 1000000000000000000) S := by rw [oPow_i (by decide)]; rfl
theorem modOk {a b : Int} (h : 0 < b) {S : Store} : oMod (.int a) (.int b) S = .ok (.int (a.fmod b)) S := oMod_i (by omega)
theorem pot_cell {a b c : Int} {cs : List Int} (h3 : 3 ≤ c) (h4 : c < 3 + cs.length) : ∃ x : Int, L2.atI (D.int a :: .int b :: .int c :: cs.map .int) c = some (.int x) := by
  have hl : c.toNat < (D.int a :: .int b :: .int c :: cs.map D.int).length := by simp only [List.length_cons, List.length_map]; omega
  have e := atI_nat hl
  rw [show ((c.toNat : Nat) : Int) = c by omega] at e
  rw [e]
  have : ∀ y ∈ (D.int a :: .int b :: .int c :: cs.map D.int), ∃ x : Int, y = .int x := by
    intro y hy
    simp only [List.mem_cons, List.mem_map] at hy
    rcases hy with h | h | h | ⟨x, _, h⟩
    · exact ⟨_, h⟩
    · exact ⟨_, h⟩
    · exact ⟨_, h⟩
    · exact ⟨_, h.symm⟩
  obtain ⟨x, hx⟩ := this _ (List.getElem_mem hl)
  exact ⟨x, by rw [hx]⟩
theorem take_body {S : Store} {p : Nat} {m : Int} (hP : Pot S p) (h0 : 0 < m) (h1 : m.natAbs < 2 ^ 1000) :
    ∃ v S', runBody takeD 5 [.ref p, .int m] S = .ok (.int v) S' ∧ 0 ≤ v ∧ v < m ∧ Pot S' p ∧ Fr1 S S' p := by
  have hm0 : m ≠ 0 := by omega
  have hdm : divOk m = true := divOk_small hm0 h1
  have hA : ∃ o2 o3 S1, (sIf (tAnd (tVal (eBin oEq (eBin oIdx (eVar 0) (eC (.int 0))) (eC (.int 0)))) (tVal (eBin oLt (eBin oIdx (eVar 0) (eC (.int 2))) (eFn oLen (dCons (eVar 0) dNil)))))
    (sSeq (sSet 2 (eBin oIdx (eVar 0) (eBin oIdx (eVar 0) (eC (.int 2)))))
    (sSeq (sExpr (eAugI (eVar 0) (eC (.int 2)) (fun i j => i + j) (eC (.int 1))))
    (sIf (tVal (eBin oGe (eVar 2) (eBin oPow (eC (.int 10)) (eC (.int 18)))))
    (sExpr (eSetI (eBin oSub (eVar 2) (eBin oPow (eC (.int 10)) (eC (.int 18)))) (eVar 0) (eC (.int 0))))
    (sSeq (sSet 3 (eBin oMod (eFn oInt (dCons (eVar 2) dNil)) (eC (.int 2147483647))))
    (sSeq (sSet 3 (eBin oMod (eFn oInt (dCons (eBin oCat (eBin oCat (eBin oRep (eVar 3) (eVar 3)) (eBin oRep (eC (.int 69621)) (eVar 3))) (eBin oRep (eC (.int 977)) (eBin oIdx (eVar 0) (eC (.int 2))))) dNil)) (eC (.int 2147483629))))
    (sExpr (eSetI (eBin oMod (eFn oInt (dCons (eBin oCat (eBin oIdx (eVar 0) (eC (.int 1))) (eVar 3)) dNil)) (eC (.int 2147483629))) (eVar 0) (eC (.int 1)))))))))
    sPass) [some (.ref p), some (.int m), none, none, none] S = .next [some (.ref p), some (.int m), o2, o3, none] S1 ∧ Pot S1 p ∧ Fr1 S S1 p := by
    obtain ⟨a, b, c, cs, g, ha, hb, hb2, hc, hc2, hl⟩ := id hP
    by_cases hz : a = 0
    · by_cases hc3 : c < 3 + cs.length
      · obtain ⟨x, hx⟩ := pot_cell (a := a) (b := b) hc hc3
        have lt : decide (c < ((D.int a :: .int b :: .int c :: cs.map D.int).length : Int)) = true := decide_eq_true (by simp only [List.length_cons, List.length_map]; omega)
        have g1 : (S.set p (.lst (.int a :: .int b :: .int (c + 1) :: cs.map .int)))[p]? = some (.lst (.int a :: .int b :: .int (c + 1) :: cs.map .int)) := List.getElem?_set_self (lt_of_get g)
        by_cases hbig : 1000000000000000000 ≤ x
        · refine ⟨some (.int x), none, (S.set p (.lst (.int a :: .int b :: .int (c + 1) :: cs.map .int))).set p (.lst (.int (x - 1000000000000000000) :: .int b :: .int (c + 1) :: cs.map .int)), ?_, ⟨x - 1000000000000000000, b, c + 1, cs, ?_, ?_, hb, hb2, ?_, ?_, hl⟩, Fr1.trans .set .set⟩
          · subst hz
            simp only [sIf_ap, tAnd_ap, tVal_ap, eBin_ap, eVar_c0, eVar_c, eC_ap, R.bind, idx_ref g atI_c0, idx_ref g atI_c2, oEq_i, eFn_ap, dCons_ap, dNil_ap, len_ref g, oLt_i, lt, sSeq_ap, sSet_ap, idx_ref g hx, sExpr_ap, eAugI, augJ, augGet_c2 g, optR_some, augF, asI, chg_at g kSet_c2, List.set, pow18, oGe_i, eSetI_ap, oSub_i, chg_at g1 kSet_c0, hbig, decide_true, if_true, BEq.rfl]
          · rw [List.getElem?_set_self (by rw [List.length_set]; exact lt_of_get g)]
          · omega
          · omega
          · omega
        · have d1 : decide (1000000000000000000 ≤ x) = false := decide_eq_false hbig
          have y0 := Int.fmod_nonneg_of_pos x (show (0 : Int) < 2147483647 by decide)
          have y1 := Int.fmod_lt_of_pos x (show (0 : Int) < 2147483647 by decide)
          have m1 : mulOk (x.fmod 2147483647) (x.fmod 2147483647) = true := mulOk_small (sm (B := 2147483647) (by omega) (by decide)) (sm (B := 2147483647) (by omega) (by decide))
          have m2 : mulOk 69621 (x.fmod 2147483647) = true := mulOk_small (by decide) (sm (B := 2147483647) (by omega) (by decide))
          have m3 : mulOk 977 (c + 1) = true := mulOk_small (by decide) (sm (B := 100) (by omega) (by decide))
          have z0 := Int.fmod_nonneg_of_pos (b + (x.fmod 2147483647 * x.fmod 2147483647 + 69621 * x.fmod 2147483647 + 977 * (c + 1)).fmod 2147483629) (show (0 : Int) < 2147483629 by decide)
          have z1 := Int.fmod_lt_of_pos (b + (x.fmod 2147483647 * x.fmod 2147483647 + 69621 * x.fmod 2147483647 + 977 * (c + 1)).fmod 2147483629) (show (0 : Int) < 2147483629 by decide)
          refine ⟨some (.int x), some (.int ((x.fmod 2147483647 * x.fmod 2147483647 + 69621 * x.fmod 2147483647 + 977 * (c + 1)).fmod 2147483629)), (S.set p (.lst (.int a :: .int b :: .int (c + 1) :: cs.map .int))).set p (.lst (.int a :: .int ((b + (x.fmod 2147483647 * x.fmod 2147483647 + 69621 * x.fmod 2147483647 + 977 * (c + 1)).fmod 2147483629).fmod 2147483629) :: .int (c + 1) :: cs.map .int)), ?_, ⟨a, (b + (x.fmod 2147483647 * x.fmod 2147483647 + 69621 * x.fmod 2147483647 + 977 * (c + 1)).fmod 2147483629).fmod 2147483629, c + 1, cs, ?_, ha, z0, ?_, ?_, ?_, hl⟩, Fr1.trans .set .set⟩
          · subst hz
            simp only [sIf_ap, tAnd_ap, tVal_ap, eBin_ap, eVar_c0, eVar_c, eC_ap, R.bind, idx_ref g atI_c0, idx_ref g atI_c2, oEq_i, eFn_ap, dCons_ap, dNil_ap, len_ref g, oLt_i, lt, sSeq_ap, sSet_ap, idx_ref g hx, sExpr_ap, eAugI, augJ, augGet_c2 g, optR_some, augF, asI, chg_at g kSet_c2, List.set, pow18, oGe_i, eSetI_ap, oSub_i, d1, decide_true, if_true, BEq.rfl, oInt_i, modOk (show (0 : Int) < 2147483647 by decide), modOk (show (0 : Int) < 2147483629 by decide), oRep_i m1, oRep_i m2, oRep_i m3, oCat_i, idx_ref g1 atI_c1, idx_ref g1 atI_c2, chg_at g1 kSet_c1, Bool.false_eq_true, if_false]
          · rw [List.getElem?_set_self (by rw [List.length_set]; exact lt_of_get g)]
          · omega
          · omega
          · omega
      · refine ⟨none, none, S, ?_, hP, .refl⟩
        have lt : decide (c < ((D.int a :: .int b :: .int c :: cs.map D.int).length : Int)) = false := decide_eq_false (by simp only [List.length_cons, List.length_map]; omega)
        subst hz
        simp only [sIf_ap, tAnd_ap, tVal_ap, eBin_ap, eVar_c0, eC_ap, R.bind, idx_ref g atI_c0, idx_ref g atI_c2, oEq_i, eFn_ap, dCons_ap, dNil_ap, len_ref g, oLt_i, lt, if_true, BEq.rfl, Bool.false_eq_true, if_false, sPass_ap]
    · have hz' : (a == 0) = false := by simp [hz]
      refine ⟨none, none, S, ?_, hP, .refl⟩
      simp only [sIf_ap, tAnd_ap, tVal_ap, eBin_ap, eVar_c0, eC_ap, R.bind, idx_ref g atI_c0, oEq_i, hz', Bool.false_eq_true, if_false, sPass_ap]
  obtain ⟨o2, o3, S1, eA, P1, F1⟩ := hA
  obtain ⟨a, b, c, cs, g, ha, hb, hb2, hc, hc2, hl⟩ := id P1
  unfold runBody takeD
  simp only [List.map_cons, List.map_nil, List.length_cons, List.length_nil, List.replicate, List.cons_append, List.nil_append]
  rw [sSeq_ap, eA]
  by_cases hr : 0 < a
  · have g1 : (S1.set p (.lst (.int (a.fdiv m) :: .int b :: .int c :: cs.map .int)))[p]? = some (.lst (.int (a.fdiv m) :: .int b :: .int c :: cs.map .int)) := List.getElem?_set_self (lt_of_get g)
    refine ⟨a.fmod m, _, ?_, Int.fmod_nonneg_of_pos _ h0, Int.fmod_lt_of_pos _ h0, ⟨_, _, _, cs, g1, Int.fdiv_nonneg ha (by omega), hb, hb2, hc, hc2, hl⟩, F1.trans .set⟩
    simp only [sSeq_ap, sIf_ap, tVal_ap, eBin_ap, eVar_c0, eVar_c, eC_ap, R.bind, idx_ref g atI_c0, oGt_i, hr, decide_true, if_true, sSet_ap, eFn_ap, dCons_ap, dNil_ap, oInt_i, oMod_i hm0, List.set, sExpr_ap, eSetI_ap, oFdiv_i hdm, chg_at g kSet_c0, sRet_ap]
  · have m1 : mulOk b 48271 = true := mulOk_small (sm (B := 2147483648) (by omega) (by decide)) (by decide)
    have m2 : mulOk 40692 c = true := mulOk_small (by decide) (sm (B := 100) (by omega) (by decide))
    have y0 := Int.fmod_nonneg_of_pos (b * 48271 + 40692 * c + 11) (show (0 : Int) < 2147483647 by decide)
    have y1 := Int.fmod_lt_of_pos (b * 48271 + 40692 * c + 11) (show (0 : Int) < 2147483647 by decide)
    generalize hy : (b * 48271 + 40692 * c + 11).fmod 2147483647 = y at y0 y1
    have m3 : mulOk y y = true := mulOk_small (sm (B := 2147483648) (by omega) (by decide)) (sm (B := 2147483648) (by omega) (by decide))
    have z0 := Int.fmod_nonneg_of_pos (y * y + 7) (show (0 : Int) < 2147483629 by decide)
    have z1 := Int.fmod_lt_of_pos (y * y + 7) (show (0 : Int) < 2147483629 by decide)
    generalize hz : (y * y + 7).fmod 2147483629 = z at z0 z1
    have g1 : (S1.set p (.lst (.int a :: .int y :: .int c :: cs.map .int)))[p]? = some (.lst (.int a :: .int y :: .int c :: cs.map .int)) := List.getElem?_set_self (lt_of_get g)
    have g2 : ((S1.set p (.lst (.int a :: .int y :: .int c :: cs.map .int))).set p (.lst (.int a :: .int z :: .int c :: cs.map .int)))[p]? = some (.lst (.int a :: .int z :: .int c :: cs.map .int)) := List.getElem?_set_self (by rw [List.length_set]; exact lt_of_get g)
    have e8 : divOk 8 = true := by decide
    refine ⟨(z.fdiv 8).fmod m, _, ?_, Int.fmod_nonneg_of_pos _ h0, Int.fmod_lt_of_pos _ h0, ⟨_, _, _, cs, g2, ha, z0, by omega, hc, hc2, hl⟩, F1.trans (.trans .set .set)⟩
    simp only [sSeq_ap, sIf_ap, tVal_ap, eBin_ap, eVar_c0, eVar_c, eC_ap, R.bind, idx_ref g atI_c0, idx_ref g atI_c1, idx_ref g atI_c2, oGt_i, hr, decide_false, Bool.false_eq_true, if_false, sPass_ap, sSet_ap, eFn_ap, dCons_ap, dNil_ap, oInt_i, oRep_i m1, oRep_i m2, oRep_i m3, oCat_i, modOk (show (0 : Int) < 2147483647 by decide), modOk (show (0 : Int) < 2147483629 by decide), hy, hz, sExpr_ap, eSetI_ap, chg_at g kSet_c1, chg_at g1 kSet_c1, idx_ref g1 atI_c1, idx_ref g2 atI_c1, oFdiv_i e8, oMod_i hm0, sRet_ap]
end Py

set_option maxHeartbeats 4000000
/-! PyQ: what the laws' own helpers do: judging values, lowest terms, the same. -/
namespace Py
open PySem (Str sizeLine)
def isI : D → Bool | .int _ => true | _ => false
/-- neither of the store nor an exception -/
def Vl : D → Bool | .ref _ => false | .exc _ _ => false | _ => true
section
variable {anc : Anc} {S : Store} {Γ : Calls} {i : Nat}
def isIntD (anc : Anc) : DenS := (sRet (eAnd (eIsi anc [(.ty .int)] (eVar 0)) (eNot (eIsi anc [(.ty .bool)] (eVar 0)))))
theorem isInt_body {d : D} (h : Vl d = true) : runBody (isIntD anc) 1 [d] S = .ok (.bl (isI d)) S := by
  cases d <;> first | rfl | cases h
def isTup : D → Bool | .tup _ => true | _ => false
theorem isiT {f : Den} {e : Env} {d : D} (hf : f e S = .ok d S) (h : Vl d = true) : eIsi anc [(.ty .tuple)] f e S = .ok (.bl (isTup d)) S := by
  rw [eIsi_ap, hf]
  cases d <;> first | rfl | cases h
theorem all_lc {xs : List D} {f : D → Bool} {o : Option D} {e : Env} (hG : ∀ x ∈ xs, ∀ S', Γ i [x] S' = .ok (.bl (f x)) S') (hl : xs.length ≤ sizeLine) :
    eFn oAll (dCons (eLc [1] (dSeq (eVar 0)) (gNm 1) tYesD (eCall Γ i (dCons (eVar 1) dNil))) dNil) (some (.tup xs) :: o :: e) S = .ok (.bl (xs.all f)) S := by
  have h := eLc_pure (vs := [1]) (gi := dSeq (eVar 0)) (g := gNm 1) (f := eCall Γ i (dCons (eVar 1) dNil)) (e := some (.tup xs) :: o :: e) (S := S) (xs := xs) (fun x => .bl (f x)) rfl
    (fun x hx S' => ⟨_, rfl, by
      have := hG x hx S'
      simp only [wipeE, List.set, eCall_ap, dCons_ap, eVar_c, eVar_c0, dNil_ap, R.bind]
      exact this⟩) (fun _ _ => rfl) hl
  rw [eFn_ap, dCons_ap, h]
  exact oAll_map
/-! polynomials -/
def polyB : D → Bool
  | .tup xs => xs.all isI && (match xs with | .int a :: _ => a != 0 | _ => true)
  | _ => false
noncomputable def polyD (anc : Anc) (Γ : Calls) (i : Nat) : DenS :=
  (sSeq (sIf (tOr (tNot (tVal (eIsi anc [(.ty .tuple)] (eVar 0)))) (tNot (tVal (eFn oAll (dCons (eLc [1] (dSeq (eVar 0)) (gNm 1) tYesD (eCall Γ i (dCons (eVar 1) dNil))) dNil)))))
    (sRet (eC (.bl false)))
    sPass)
    (sRet (eOr (eBin oEq (eVar 0) (eTup dNil)) (eBin oNe (eBin oIdx (eVar 0) (eC (.int 0))) (eC (.int 0))))))
noncomputable def polyD' (anc : Anc) (Γ : Calls) (i : Nat) : DenS :=
  (sSeq (sIf (tOr (tNot (tVal (eIsi anc [(.ty .tuple)] (eVar 0)))) (tNot (tVal (eFn oAll (dCons (eLc [1] (dSeq (eVar 0)) (gNm 1) tYesD (eCall Γ i (dCons (eVar 1) dNil))) dNil)))))
    (sRet (eC (.bl false)))
    sPass)
    (sRet (eOr (eBin oEq (eFn oLen (dCons (eVar 0) dNil)) (eC (.int 0))) (eBin oNe (eBin oIdx (eVar 0) (eC (.int 0))) (eC (.int 0))))))
theorem ints_of : ∀ {xs : List D}, xs.all isI = true → ∃ l : List Int, xs = l.map .int
  | [], _ => ⟨[], rfl⟩
  | x :: xs, h => by
    simp only [List.all_cons, Bool.and_eq_true] at h
    obtain ⟨l, hl⟩ := ints_of h.2
    cases x with
    | int a => exact ⟨a :: l, by rw [hl]; rfl⟩
    | _ => cases h.1
/-- the judging head of is_polynomial, is_broken -/
theorem head2 {d : D} {f : D → Bool} {G : DenS} (hd : Vl d = true) (hG : ∀ xs, d = .tup xs → xs.length ≤ sizeLine ∧ ∀ x ∈ xs, ∀ S', Γ i [x] S' = .ok (.bl (f x)) S') :
    sSeq (sIf (tOr (tNot (tVal (eIsi anc [(.ty .tuple)] (eVar 0)))) (tNot (tVal (eFn oAll (dCons (eLc [1] (dSeq (eVar 0)) (gNm 1) tYesD (eCall Γ i (dCons (eVar 1) dNil))) dNil)))))
    (sRet (eC (.bl false))) sPass) G [some d, none] S = (match d with | .tup xs => if xs.all f then G [some d, none] S else .ret (.bl false) S | _ => .ret (.bl false) S) := by
  rw [sSeq_ap, sIf_ap, tOr_ap, tNot_ap, tVal_ap, isiT (anc := anc) (f := eVar 0) (d := d) rfl hd]
  by_cases ht : ∃ xs, d = .tup xs
  · obtain ⟨xs, rfl⟩ := ht
    obtain ⟨h1, h2⟩ := hG xs rfl
    have h := all_lc (Γ := Γ) (i := i) (f := f) (o := none) (e := []) (S := S) h2 h1
    simp only [isTup, R.bind, Bool.not_true, Bool.false_eq_true, if_false, tNot_ap, tVal_ap, h]
    cases q : xs.all f <;> simp
  · have : isTup d = false := by
      cases d <;> first | rfl | exact absurd ⟨_, rfl⟩ ht
    simp only [this, R.bind, Bool.not_false, if_true, sRet_ap, eC_ap]
    cases d <;> first | rfl | exact absurd ⟨_, rfl⟩ ht
theorem poly_body {d : D} (hd : Vl d = true) (hl : ∀ xs, d = .tup xs → xs.length ≤ sizeLine ∧ ∀ x ∈ xs, ∀ S', Γ i [x] S' = .ok (.bl (isI x)) S') :
    runBody (polyD anc Γ i) 2 [d] S = .ok (.bl (polyB d)) S := by
  unfold runBody polyD
  simp only [List.map_cons, List.map_nil, List.length_cons, List.length_nil, List.replicate, List.cons_append, List.nil_append]
  rw [head2 (f := isI) hd hl]
  cases d with
  | tup xs =>
    unfold polyB
    cases q : xs.all isI with
    | false => simp [q]
    | true =>
      obtain ⟨l, rfl⟩ := ints_of q
      have e1 : oEq (.tup (l.map D.int)) (.tup []) S = .ok (.bl (eqB (.tup (l.map D.int)) (.tup []))) S := oEq_fit (fit_tints l) rfl
      cases l with
      | nil =>
        have e0 : oEq (.tup []) (.tup []) S = .ok (.bl true) S := oEq_fit rfl rfl
        simp [e0]
      | cons a l =>
        simp only [List.map_cons] at *
        simp only [q, if_true, sRet_ap, eOr_ap, eBin_ap, eVar_c0, eTup_ap, dNil_ap, R.bind, e1, eqB, eqL, idx_tup, eC_ap, atI_c0, oNe_i, Bool.true_and]
        rfl
  | ref _ => cases hd
  | exc _ _ => cases hd
  | _ => rfl
theorem poly_body' {d : D} (hd : Vl d = true) (hl : ∀ xs, d = .tup xs → xs.length ≤ sizeLine ∧ ∀ x ∈ xs, ∀ S', Γ i [x] S' = .ok (.bl (isI x)) S') :
    runBody (polyD' anc Γ i) 2 [d] S = .ok (.bl (polyB d)) S := by
  unfold runBody polyD'
  simp only [List.map_cons, List.map_nil, List.length_cons, List.length_nil, List.replicate, List.cons_append, List.nil_append]
  rw [head2 (f := isI) hd hl]
  cases d with
  | tup xs =>
    unfold polyB
    cases q : xs.all isI with
    | false => simp [q]
    | true =>
      obtain ⟨l, rfl⟩ := ints_of q
      have e1 : oLen [.tup (l.map D.int)] S = .ok (.int (l.map D.int).length) S := rfl
      cases l with
      | nil =>
        have e0 : oLen [.tup []] S = .ok (.int 0) S := rfl
        simp [e0]
      | cons a l =>
        simp only [List.map_cons] at *
        have e2 : (((D.int a :: l.map D.int).length : Int) == 0) = false := by simp only [List.length_cons]; simp; omega
        simp only [q, if_true, sRet_ap, eOr_ap, eBin_ap, eFn_ap, dCons_ap, eVar_c0, dNil_ap, R.bind, e1, oEq_i, e2, idx_tup, eC_ap, atI_c0, oNe_i, Bool.true_and]
        rfl
  | ref _ => cases hd
  | exc _ _ => cases hd
  | _ => rfl
/-! numbers -/
def numB : D → Bool
  | .tup [.int a, .int b] => decide (0 < b) && (Nat.gcd a.natAbs b.natAbs == 1)
  | _ => false
noncomputable def numHead (anc : Anc) (Γ : Calls) (i : Nat) (G : DenS) : DenS :=
  (sSeq (sIf (tOr (tNot (tVal (eIsi anc [(.ty .tuple)] (eVar 0)))) (tOr (tVal (eBin oNe (eFn oLen (dCons (eVar 0) dNil)) (eC (.int 2)))) (tNot (tVal (eFn oAll (dCons (eLc [1] (dSeq (eVar 0)) (gNm 1) tYesD (eCall Γ i (dCons (eVar 1) dNil))) dNil))))))
    (sRet (eC (.bl false)))
    sPass) G)
def numT : DenS := (sRet (eAnd (eBin oGt (eBin oIdx (eVar 0) (eC (.int 1))) (eC (.int 0))) (eBin oEq (eFn oGcd (dCons (eBin oIdx (eVar 0) (eC (.int 0))) (dCons (eBin oIdx (eVar 0) (eC (.int 1))) dNil))) (eC (.int 1)))))
def numT' (Γ : Calls) (j : Nat) : DenS := (sRet (eAnd (eBin oGt (eBin oIdx (eVar 0) (eC (.int 1))) (eC (.int 0))) (eBin oEq (eCall Γ j (dCons (eBin oIdx (eVar 0) (eC (.int 0))) (dCons (eBin oIdx (eVar 0) (eC (.int 1))) dNil))) (eVar 0))))
def two : D → Option (Int × Int)
  | .tup [.int a, .int b] => some (a, b)
  | _ => none
theorem numHead_ok {d : D} {G : DenS} (hd : Vl d = true) (hG : ∀ xs, d = .tup xs → xs.length ≤ sizeLine ∧ ∀ x ∈ xs, ∀ S', Γ i [x] S' = .ok (.bl (isI x)) S') :
    numHead anc Γ i G [some d, none] S = (match two d with | some _ => G [some d, none] S | none => .ret (.bl false) S) := by
  unfold numHead
  rw [sSeq_ap, sIf_ap, tOr_ap, tNot_ap, tVal_ap, isiT (anc := anc) (f := eVar 0) (d := d) rfl hd]
  by_cases ht : ∃ xs, d = .tup xs
  · obtain ⟨xs, rfl⟩ := ht
    obtain ⟨h1, h2⟩ := hG xs rfl
    have h := all_lc (Γ := Γ) (i := i) (f := isI) (o := none) (e := []) (S := S) h2 h1
    have e1 : oLen [.tup xs] S = .ok (.int xs.length) S := rfl
    simp only [isTup, R.bind, Bool.not_true, Bool.false_eq_true, if_false, tNot_ap, tVal_ap, tOr_ap, h, eBin_ap, eFn_ap, dCons_ap, eVar_c0, dNil_ap, e1, eC_ap, oNe_i]
    rcases xs with _ | ⟨x, _ | ⟨y, _ | ⟨z, zs⟩⟩⟩
    · rfl
    · cases x <;> rfl
    · have e2 : (!((([x, y] : List D).length : Int) == 2)) = false := rfl
      have : two (.tup [x, y]) = if ([x, y] : List D).all isI then two (.tup [x, y]) else none := by
        cases x <;> cases y <;> rfl
      rw [this]
      simp only [e2, Bool.false_eq_true, if_false]
      cases q : ([x, y] : List D).all isI with
      | false => simp
      | true =>
        obtain ⟨l, hl⟩ := ints_of q
        rcases l with _ | ⟨a, _ | ⟨b, _ | ⟨c, l⟩⟩⟩ <;> simp at hl
        obtain ⟨rfl, rfl⟩ := hl
        simp [two]
    · have e2 : (!((((x :: y :: z :: zs) : List D).length : Int) == 2)) = true := by simp; omega
      have e3 : two (.tup (x :: y :: z :: zs)) = none := by cases x <;> cases y <;> rfl
      simp only [e2, if_true, e3, sRet_ap, eC_ap]
  · have : isTup d = false := by
      cases d <;> first | rfl | exact absurd ⟨_, rfl⟩ ht
    simp only [this, R.bind, Bool.not_false, if_true, sRet_ap, eC_ap]
    cases d <;> first | rfl | exact absurd ⟨_, rfl⟩ ht
theorem two_of {d : D} {a b : Int} (h : two d = some (a, b)) : d = .tup [.int a, .int b] := by
  unfold two at h
  split at h
  · cases h; rfl
  · cases h
theorem num_of {d : D} : numB d = match two d with | some (a, b) => decide (0 < b) && (Nat.gcd a.natAbs b.natAbs == 1) | none => false := by
  unfold numB two
  split <;> rfl
theorem num_body {d : D} (hd : Vl d = true) (hG : ∀ xs, d = .tup xs → xs.length ≤ sizeLine ∧ ∀ x ∈ xs, ∀ S', Γ i [x] S' = .ok (.bl (isI x)) S') :
    runBody (numHead anc Γ i numT) 2 [d] S = .ok (.bl (numB d)) S := by
  unfold runBody
  simp only [List.map_cons, List.map_nil, List.length_cons, List.length_nil, List.replicate, List.cons_append, List.nil_append]
  rw [numHead_ok hd hG, num_of]
  cases q : two d with
  | none => rfl
  | some ab =>
    obtain ⟨a, b⟩ := ab
    cases two_of q
    unfold numT
    by_cases hb : 0 < b
    · have : (((Nat.gcd a.natAbs b.natAbs : Nat) : Int) == 1) = (Nat.gcd a.natAbs b.natAbs == 1) := by
        rw [Bool.eq_iff_iff, beq_iff_eq, beq_iff_eq]; omega
      simp [hb, this]
    · simp [hb]
/-- the lowest terms -/
def cofP (a b : Int) : Int := if b < 0 then -((Nat.gcd a.natAbs b.natAbs : Nat) : Int) else ((Nat.gcd a.natAbs b.natAbs : Nat) : Int)
theorem num_body' {d : D} {j : Nat} (hd : Vl d = true) (hG : ∀ xs, d = .tup xs → xs.length ≤ sizeLine ∧ ∀ x ∈ xs, ∀ S', Γ i [x] S' = .ok (.bl (isI x)) S')
    (hL : ∀ a b : Int, two d = some (a, b) → 0 < b → ∀ S', Γ j [.int a, .int b] S' = .ok (.tup [.int (a.fdiv (Nat.gcd a.natAbs b.natAbs : Nat)), .int (b.fdiv (Nat.gcd a.natAbs b.natAbs : Nat))]) S') :
    runBody (numHead anc Γ i (numT' Γ j)) 2 [d] S = .ok (.bl (numB d)) S := by
  unfold runBody
  simp only [List.map_cons, List.map_nil, List.length_cons, List.length_nil, List.replicate, List.cons_append, List.nil_append]
  rw [numHead_ok hd hG, num_of]
  cases q : two d with
  | none => rfl
  | some ab =>
    obtain ⟨a, b⟩ := ab
    have hL1 := hL a b q
    cases two_of q
    unfold numT'
    by_cases hb : 0 < b
    · have e1 := oEq_fit (S := S) (fit_tints [a.fdiv (Nat.gcd a.natAbs b.natAbs : Nat), b.fdiv (Nat.gcd a.natAbs b.natAbs : Nat)]) (fit_tints [a, b])
      have hp : 0 < Nat.gcd a.natAbs b.natAbs := Nat.gcd_pos_of_pos_right _ (Int.natAbs_pos.mpr (by omega))
      have e2 : eqB (.tup ([a.fdiv (Nat.gcd a.natAbs b.natAbs : Nat), b.fdiv (Nat.gcd a.natAbs b.natAbs : Nat)].map D.int)) (.tup ([a, b].map D.int)) = (Nat.gcd a.natAbs b.natAbs == 1) := by
        simp only [List.map_cons, List.map_nil, eqB, eqL, Bool.and_true]
        rw [Bool.eq_iff_iff, Bool.and_eq_true, beq_iff_eq, beq_iff_eq, beq_iff_eq]
        generalize Nat.gcd a.natAbs b.natAbs = g at hp
        constructor
        · rintro ⟨_, h⟩
          have hg : 0 < (g : Int) := by omega
          rw [Int.fdiv_eq_ediv_of_nonneg _ (by omega)] at h
          have h2 := Int.ediv_mul_le b (show (g : Int) ≠ 0 by omega)
          rw [h] at h2
          have : (g : Int) ≤ 1 := by
            apply Int.le_of_not_gt
            intro hgt
            have : b * 2 ≤ b * g := Int.mul_le_mul_of_nonneg_left (by omega) (by omega)
            omega
          omega
        · intro h
          subst h
          exact ⟨by simp, by simp⟩
      rw [e2] at e1
      simp only [List.map_cons, List.map_nil] at e1
      simp [hb, hL1 hb, e1]
    · simp [hb]
end
end Py

set_option maxHeartbeats 4000000
/-! PyR: broken polynomials, lowest terms by Euclid, the same. -/
namespace Py
open PySem (Str sizeLine)
section
variable {anc : Anc} {S : Store} {Γ : Calls} {i : Nat}
def brkT : DenS := (sRet (eOr (eBin oEq (eVar 0) (eTup dNil)) (eBin oNe (eBin oIdx (eVar 0) (eC (.int 0))) (eC (.tup [(.int 0), (.int 1)])))))
def brkT' : DenS := (sRet (eOr (eBin oEq (eFn oLen (dCons (eVar 0) dNil)) (eC (.int 0))) (eBin oNe (eBin oIdx (eBin oIdx (eVar 0) (eC (.int 0))) (eC (.int 0))) (eC (.int 0)))))
noncomputable def brkD (anc : Anc) (Γ : Calls) (i : Nat) (G : DenS) : DenS :=
  (sSeq (sIf (tOr (tNot (tVal (eIsi anc [(.ty .tuple)] (eVar 0)))) (tNot (tVal (eFn oAll (dCons (eLc [1] (dSeq (eVar 0)) (gNm 1) tYesD (eCall Γ i (dCons (eVar 1) dNil))) dNil)))))
    (sRet (eC (.bl false)))
    sPass) G)
def brokenB : D → Bool
  | .tup xs => xs.all numB && (match xs with | .tup [.int a, .int _] :: _ => a != 0 | _ => true)
  | _ => false
theorem num_shape {d : D} (h : numB d = true) : ∃ a b : Int, d = .tup [.int a, .int b] ∧ 0 < b ∧ Nat.gcd a.natAbs b.natAbs = 1 := by
  unfold numB at h
  split at h
  · rename_i a b
    simp only [Bool.and_eq_true, decide_eq_true_eq, beq_iff_eq] at h
    exact ⟨a, b, rfl, h.1, h.2⟩
  · cases h
def pairD (q : Int × Int) : D := .tup [.int q.1, .int q.2]
theorem nums_of : ∀ {xs : List D}, xs.all numB = true → ∃ l : List (Int × Int), xs = l.map pairD
  | [], _ => ⟨[], rfl⟩
  | x :: xs, h => by
    simp only [List.all_cons, Bool.and_eq_true] at h
    obtain ⟨l, hl⟩ := nums_of h.2
    obtain ⟨a, b, rfl, _⟩ := num_shape h.1
    exact ⟨(a, b) :: l, by rw [hl]; rfl⟩
theorem pure_pairs (l : List (Int × Int)) : pureL (l.map pairD) = true := by
  induction l with
  | nil => rfl
  | cons i l ih => simp only [List.map_cons, pairD, pureL, pureB, Bool.and_true, ih]
theorem depth_pairs (l : List (Int × Int)) : depthL (l.map pairD) ≤ 1 := by
  induction l with
  | nil => exact Nat.zero_le _
  | cons i l ih => simp only [List.map_cons, depthL]; exact Nat.max_le.mpr ⟨Nat.le_refl _, ih⟩
theorem fit_pairs (l : List (Int × Int)) : fit (.tup (l.map pairD)) = true := by
  unfold fit pureB depth
  rw [pure_pairs, Bool.true_and]
  have := depth_pairs l
  exact decide_eq_true (by omega)
theorem brk_body {d : D} (hd : Vl d = true) (hl : ∀ xs, d = .tup xs → xs.length ≤ sizeLine ∧ ∀ x ∈ xs, ∀ S', Γ i [x] S' = .ok (.bl (numB x)) S') :
    runBody (brkD anc Γ i brkT) 2 [d] S = .ok (.bl (brokenB d)) S := by
  unfold runBody brkD
  simp only [List.map_cons, List.map_nil, List.length_cons, List.length_nil, List.replicate, List.cons_append, List.nil_append]
  rw [head2 (f := numB) hd hl]
  cases d with
  | tup xs =>
    unfold brokenB
    cases q : xs.all numB with
    | false => simp only [q, Bool.false_eq_true, if_false, Bool.false_and]
    | true =>
      obtain ⟨l, rfl⟩ := nums_of q
      have e1 : oEq (.tup (l.map pairD)) (.tup []) S = .ok (.bl (eqB (.tup (l.map pairD)) (.tup []))) S := oEq_fit (fit_pairs l) rfl
      cases l with
      | nil =>
        have e0 : oEq (.tup []) (.tup []) S = .ok (.bl true) S := oEq_fit rfl rfl
        simp [e0, brkT]
      | cons a l =>
        have e2 : oNe (pairD a) (.tup [.int 0, .int 1]) S = .ok (.bl (!eqB (pairD a) (.tup [.int 0, .int 1]))) S := oNe_fit (fit_tints [a.1, a.2]) (fit_tints [0, 1])
        have e3 : (!eqB (pairD a) (.tup [.int 0, .int 1])) = (a.1 != 0) := by
          simp only [List.map_cons, List.all_cons, Bool.and_eq_true] at q
          obtain ⟨x, y, h1, h2, h3⟩ := num_shape q.1
          unfold pairD at h1 ⊢
          injection h1 with h1
          injection h1 with h4 h5
          injection h4 with h4
          injection h5 with h5 _
          injection h5 with h5
          simp only [eqB, eqL, Bool.and_true]
          by_cases hz : a.1 = 0
          · have : a.2 = 1 := by
              rw [hz] at h4
              subst h4
              simp at h3
              omega
            rw [hz, this]; rfl
          · have : (a.1 == 0) = false := by simp [hz]
            simp [this, hz]
        simp only [List.map_cons] at *
        simp only [q, if_true, brkT, sRet_ap, eOr_ap, eBin_ap, eVar_c0, eTup_ap, dNil_ap, R.bind, e1, eqB, eqL, idx_tup, eC_ap, atI_c0, Bool.true_and, e2, e3]
        rfl
  | ref _ => cases hd
  | exc _ _ => cases hd
  | _ => rfl
theorem brk_body' {d : D} (hd : Vl d = true) (hl : ∀ xs, d = .tup xs → xs.length ≤ sizeLine ∧ ∀ x ∈ xs, ∀ S', Γ i [x] S' = .ok (.bl (numB x)) S') :
    runBody (brkD anc Γ i brkT') 2 [d] S = .ok (.bl (brokenB d)) S := by
  unfold runBody brkD
  simp only [List.map_cons, List.map_nil, List.length_cons, List.length_nil, List.replicate, List.cons_append, List.nil_append]
  rw [head2 (f := numB) hd hl]
  cases d with
  | tup xs =>
    unfold brokenB
    cases q : xs.all numB with
    | false => simp only [q, Bool.false_eq_true, if_false, Bool.false_and]
    | true =>
      obtain ⟨l, rfl⟩ := nums_of q
      have e1 : oLen [.tup (l.map pairD)] S = .ok (.int (l.map pairD).length) S := rfl
      cases l with
      | nil =>
        have e0 : oLen [.tup []] S = .ok (.int 0) S := rfl
        simp [e0, brkT']
      | cons a l =>
        simp only [List.map_cons] at *
        have e2 : (((pairD a :: l.map pairD).length : Int) == 0) = false := by simp only [List.length_cons]; simp; omega
        have e3 : oIdx (pairD a) (.int 0) S = .ok (.int a.1) S := rfl
        simp only [q, if_true, brkT', sRet_ap, eOr_ap, eBin_ap, eFn_ap, dCons_ap, eVar_c0, dNil_ap, R.bind, e1, oEq_i, e2, idx_tup, eC_ap, atI_c0, oNe_i, Bool.true_and, e3]
        rfl
  | ref _ => cases hd
  | exc _ _ => cases hd
  | _ => rfl
/-! lowest terms -/
def eucB : DenS := (sSeq (sIf (tVal (eBin oEq (eVar 3) (eC (.int 0)))) sBrk sPass)
    (sPar 2 3 (eVar 3) (eBin oMod (eFn oInt (dCons (eVar 2) dNil)) (eVar 3))))
def lowD : DenS :=
  (sSeq (sPar 2 3 (eFn oAbs (dCons (eVar 0) dNil)) (eFn oAbs (dCons (eVar 1) dNil)))
    (sSeq (sFor (gNm 4) (dRng1 (eC (.int 100000))) eucB)
    (sSeq (sSet 5 (eIf (tVal (eBin oGt (eVar 1) (eC (.int 0)))) (eC (.int 1)) (eUn oNeg (eC (.int 1)))))
    (sRet (eTup (dCons (eBin oFdiv (eBin oRep (eVar 5) (eVar 0)) (eVar 2)) (dCons (eBin oFdiv (eBin oRep (eVar 5) (eVar 1)) (eVar 2)) dNil)))))))
theorem euclid : ∀ (n : Nat) (ys : List D) (x y : Nat) (a b o4 o5 : Option D), y ≤ x → x * y < 2 ^ n → n < ys.length →
    ∃ o, forL (gNm 4) eucB ys [a, b, some (.int x), some (.int y), o4, o5] S = .next [a, b, some (.int (Nat.gcd x y : Nat)), some (.int 0), o, o5] S := by
  intro n
  induction n with
  | zero =>
    intro ys x y a b o4 o5 h1 h2 h3
    have hy : y = 0 := by
      rcases Nat.eq_zero_or_pos y with h | h
      · exact h
      · have : 0 < x * y := Nat.mul_pos (by omega) h
        omega
    subst hy
    cases ys with
    | nil => simp at h3
    | cons z zs => exact ⟨some z, by unfold forL; simp [eucB]⟩
  | succ n ih =>
    intro ys x y a b o4 o5 h1 h2 h3
    cases ys with
    | nil => simp at h3
    | cons z zs =>
      rcases Nat.eq_zero_or_pos y with h | h
      · subst h
        exact ⟨some z, by unfold forL; simp [eucB]⟩
      · have hm : x % y < y := Nat.mod_lt _ h
        have h4 : x % y + y ≤ x := by
          have := Nat.div_add_mod x y
          have h6 : 0 < x / y := Nat.div_pos h1 h
          have h7 : y * 1 ≤ y * (x / y) := Nat.mul_le_mul_left y h6
          omega
        have h5 : y * (x % y) * 2 ≤ x * y := by
          have := Nat.mul_le_mul_left y (show x % y * 2 ≤ x by omega)
          rw [Nat.mul_comm x y, Nat.mul_assoc]
          exact this
        obtain ⟨o, ho⟩ := ih zs y (x % y) a b (some z) o5 (by omega) (by rw [Nat.pow_succ] at h2; omega) (by simp only [List.length_cons] at h3; omega)
        refine ⟨o, ?_⟩
        have hb : ((y : Int) == 0) = false := by simp; omega
        have hf : ((x : Int).fmod (y : Int)) = ((x % y : Nat) : Int) := by rw [Int.fmod_eq_emod_of_nonneg _ (by omega)]; norm_cast
        unfold forL
        simp [eucB, hb, oMod_i (show (y : Int) ≠ 0 by omega), hf]
        have hg : Nat.gcd x y = Nat.gcd y (x % y) := by rw [Nat.gcd_comm x y, Nat.gcd_rec, Nat.gcd_comm]
        have ho' := ho
        unfold eucB at ho'
        simp at ho' ⊢
        rw [hg]
        exact ho'
theorem low_body {a b : Int} (hb : b ≠ 0) (h1 : a.natAbs < 2 ^ 1000) (h2 : b.natAbs < 2 ^ 1000) :
    runBody lowD 6 [.int a, .int b] S = .ok (.tup [.int (a.fdiv (cofP a b)), .int (b.fdiv (cofP a b))]) S := by
  have hp : 0 < Nat.gcd a.natAbs b.natAbs := Nat.gcd_pos_of_pos_right _ (Int.natAbs_pos.mpr hb)
  have hle : Nat.gcd a.natAbs b.natAbs ≤ b.natAbs := Nat.gcd_le_right _ (Int.natAbs_pos.mpr hb)
  have hR : inR 100000 = true := by decide
  have hl : (intsD 0 (100000 : Int).toNat).length = 100000 := by unfold intsD; rw [List.length_map, List.length_range]; rfl
  have loop : ∃ o, sFor (gNm 4) (dRng1 (eC (.int 100000))) eucB [some (.int a), some (.int b), some (.int a.natAbs), some (.int b.natAbs), none, none] S =
      .next [some (.int a), some (.int b), some (.int (Nat.gcd a.natAbs b.natAbs : Nat)), some (.int 0), o, none] S := by
    rw [sFor_L (xs := intsD 0 (100000 : Int).toNat) (by unfold dRng1; simp only [eC_ap, R.bind, hR, if_true]; rfl)]
    rcases Nat.le_total b.natAbs a.natAbs with h | h
    · exact euclid 2000 _ _ _ _ _ _ _ h (by
        calc a.natAbs * b.natAbs < 2 ^ 1000 * 2 ^ 1000 := Nat.mul_lt_mul'' h1 h2
          _ = 2 ^ 2000 := by rw [← Nat.pow_add]) (by rw [hl]; omega)
    · cases q : intsD 0 (100000 : Int).toNat with
      | nil => rw [q] at hl; simp at hl
      | cons z zs =>
        rcases Nat.eq_zero_or_pos b.natAbs with h0 | h0
        · exact absurd (Int.natAbs_eq_zero.mp h0) hb
        rcases Nat.lt_or_ge a.natAbs b.natAbs with hlt | hge
        · obtain ⟨o, ho⟩ := euclid (S := S) 2000 zs b.natAbs a.natAbs (some (.int a)) (some (.int b)) (some z) none h (by
            calc b.natAbs * a.natAbs < 2 ^ 1000 * 2 ^ 1000 := Nat.mul_lt_mul'' h2 h1
              _ = 2 ^ 2000 := by rw [← Nat.pow_add]) (by rw [q] at hl; simp only [List.length_cons] at hl; omega)
          refine ⟨o, ?_⟩
          have hb0 : ((b.natAbs : Int) == 0) = false := by simp; omega
          have hf : ((a.natAbs : Int).fmod (b.natAbs : Int)) = (a.natAbs : Int) := by
            rw [Int.fmod_eq_emod_of_nonneg _ (by omega)]
            exact Int.emod_eq_of_lt (by omega) (by omega)
          have st : eucB [some (.int a), some (.int b), some (.int a.natAbs), some (.int b.natAbs), some z, none] S = .next [some (.int a), some (.int b), some (.int b.natAbs), some (.int a.natAbs), some z, none] S := by
            unfold eucB
            simp only [sSeq_ap, sIf_ap, tVal_ap, eBin_ap, eVar_c, eVar_c0, eC_ap, R.bind, oEq_i, hb0, Bool.false_eq_true, if_false, sPass_ap, sPar_ap, eFn_ap, dCons_ap, dNil_ap, oInt_i, oMod_i (show (b.natAbs : Int) ≠ 0 by omega), hf, List.set]
          unfold forL
          simp only [gNm_ap, List.set]
          rw [st]
          dsimp only
          rw [Nat.gcd_comm]
          exact ho
        · obtain ⟨o, ho⟩ := euclid (S := S) 2000 (z :: zs) a.natAbs b.natAbs (some (.int a)) (some (.int b)) none none hge (by
            calc a.natAbs * b.natAbs < 2 ^ 1000 * 2 ^ 1000 := Nat.mul_lt_mul'' h1 h2
              _ = 2 ^ 2000 := by rw [← Nat.pow_add]) (by rw [q] at hl; omega)
          exact ⟨o, ho⟩
  obtain ⟨o, loop⟩ := loop
  unfold runBody lowD
  simp only [List.map_cons, List.map_nil, List.length_cons, List.length_nil, List.replicate, List.cons_append, List.nil_append]
  have hd : divOk ((Nat.gcd a.natAbs b.natAbs : Nat) : Int) = true := divOk_small (by omega) (by
    rw [Int.natAbs_natCast]
    exact Nat.lt_of_le_of_lt hle h2)
  have d0 : ∀ z : Int, divOk z = true → ∀ x : Int, oFdiv (.int x) (.int z) S = .ok (.int (x.fdiv z)) S := fun z h x => oFdiv_i h
  by_cases hs : 0 < b
  · have m1 : mulOk 1 a = true := mulOk_small (by decide) h1
    have m2 : mulOk 1 b = true := mulOk_small (by decide) h2
    have c : cofP a b = ((Nat.gcd a.natAbs b.natAbs : Nat) : Int) := if_neg (by omega)
    simp only [sSeq_ap, sPar_ap, eFn_ap, dCons_ap, dNil_ap, eVar_c0, eVar_c, R.bind, oAbs_i, List.set, loop, sSet_ap, eIf_ap, tVal_ap, eBin_ap, eC_ap, oGt_i, hs, decide_true, if_true, sRet_ap, eTup_ap, oRep_i m1, oRep_i m2, d0 _ hd, Int.one_mul, c]
  · have m1 : mulOk (-1) a = true := mulOk_small (by decide) h1
    have m2 : mulOk (-1) b = true := mulOk_small (by decide) h2
    have c : cofP a b = -((Nat.gcd a.natAbs b.natAbs : Nat) : Int) := if_pos (by omega)
    have f : ∀ x : Int, (-1 * x).fdiv ((Nat.gcd a.natAbs b.natAbs : Nat) : Int) = x.fdiv (-((Nat.gcd a.natAbs b.natAbs : Nat) : Int)) := fun x => by
      rw [← Int.neg_fdiv_neg, Int.neg_mul, Int.one_mul, Int.neg_neg]
    simp only [sSeq_ap, sPar_ap, eFn_ap, dCons_ap, dNil_ap, eVar_c0, eVar_c, R.bind, oAbs_i, List.set, loop, sSet_ap, eIf_ap, tVal_ap, eBin_ap, eC_ap, oGt_i, hs, decide_false, Bool.false_eq_true, if_false, eUn_ap, oNeg_i, sRet_ap, eTup_ap, oRep_i m1, oRep_i m2, d0 _ hd, f, c]
/-! the same -/
def sameT (anc : Anc) (F : Den) : DenS :=
  (sSeq (sIf (tVal (eUn oIsN (eVar 1)))
    (sRet (eUn oIsN (eVar 0)))
    sPass)
    (sSeq (sIf (tVal (eIsi anc [(.ty .bool), (.ty .str)] (eVar 1)))
    (sRet (eAnd (eBin oEq (eIsi anc [(.ty .bool)] (eVar 0)) (eIsi anc [(.ty .bool)] (eVar 1))) (eAnd (eIsi anc [(.ty .bool), (.ty .str)] (eVar 0)) (eBin oEq (eVar 0) (eVar 1)))))
    sPass)
    (sSeq (sIf (tVal (eIsi anc [(.ty .int)] (eVar 1)))
    (sRet (eAnd (eIsi anc [(.ty .int)] (eVar 0)) (eAnd (eNot (eIsi anc [(.ty .bool)] (eVar 0))) (eBin oEq (eVar 0) (eVar 1)))))
    sPass)
    (sSeq (sIf (tOr (tVal (eBin oNe (eIsi anc [(.ty .list)] (eVar 1)) (eIsi anc [(.ty .list)] (eVar 0)))) (tVal (eBin oNe (eIsi anc [(.ty .tuple)] (eVar 1)) (eIsi anc [(.ty .tuple)] (eVar 0)))))
    (sRet (eC (.bl false)))
    sPass)
    (sRet (eAnd (eBin oEq (eFn oLen (dCons (eVar 0) dNil)) (eFn oLen (dCons (eVar 1) dNil))) F))))))
noncomputable def sameD (anc : Anc) (Γ : Calls) (i : Nat) : DenS := sameT anc (eFn oAll (dCons (eLc [2] (dRng1 (eFn oLen (dCons (eVar 1) dNil))) (gNm 2) tYesD (eCall Γ i (dCons (eBin oIdx (eVar 0) (eVar 2)) (dCons (eBin oIdx (eVar 1) (eVar 2)) dNil)))) dNil))
@[simp] theorem isK_none_bool : isK anc (.ty .none) (.ty .bool) = false := rfl
@[simp] theorem isK_none_str : isK anc (.ty .none) (.ty .str) = false := rfl
@[simp] theorem isK_none_int : isK anc (.ty .none) (.ty .int) = false := rfl
@[simp] theorem isK_none_list : isK anc (.ty .none) (.ty .list) = false := rfl
@[simp] theorem isK_none_tuple : isK anc (.ty .none) (.ty .tuple) = false := rfl
@[simp] theorem isK_none_dict : isK anc (.ty .none) (.ty .dict) = false := rfl
@[simp] theorem isK_bool_bool : isK anc (.ty .bool) (.ty .bool) = true := rfl
@[simp] theorem isK_bool_str : isK anc (.ty .bool) (.ty .str) = false := rfl
@[simp] theorem isK_bool_int : isK anc (.ty .bool) (.ty .int) = true := rfl
@[simp] theorem isK_bool_list : isK anc (.ty .bool) (.ty .list) = false := rfl
@[simp] theorem isK_bool_tuple : isK anc (.ty .bool) (.ty .tuple) = false := rfl
@[simp] theorem isK_bool_dict : isK anc (.ty .bool) (.ty .dict) = false := rfl
@[simp] theorem isK_int_bool : isK anc (.ty .int) (.ty .bool) = false := rfl
@[simp] theorem isK_int_str : isK anc (.ty .int) (.ty .str) = false := rfl
@[simp] theorem isK_int_int : isK anc (.ty .int) (.ty .int) = true := rfl
@[simp] theorem isK_int_list : isK anc (.ty .int) (.ty .list) = false := rfl
@[simp] theorem isK_int_tuple : isK anc (.ty .int) (.ty .tuple) = false := rfl
@[simp] theorem isK_int_dict : isK anc (.ty .int) (.ty .dict) = false := rfl
@[simp] theorem isK_str_bool : isK anc (.ty .str) (.ty .bool) = false := rfl
@[simp] theorem isK_str_str : isK anc (.ty .str) (.ty .str) = true := rfl
@[simp] theorem isK_str_int : isK anc (.ty .str) (.ty .int) = false := rfl
@[simp] theorem isK_str_list : isK anc (.ty .str) (.ty .list) = false := rfl
@[simp] theorem isK_str_tuple : isK anc (.ty .str) (.ty .tuple) = false := rfl
@[simp] theorem isK_str_dict : isK anc (.ty .str) (.ty .dict) = false := rfl
@[simp] theorem isK_tuple_bool : isK anc (.ty .tuple) (.ty .bool) = false := rfl
@[simp] theorem isK_tuple_str : isK anc (.ty .tuple) (.ty .str) = false := rfl
@[simp] theorem isK_tuple_int : isK anc (.ty .tuple) (.ty .int) = false := rfl
@[simp] theorem isK_tuple_list : isK anc (.ty .tuple) (.ty .list) = false := rfl
@[simp] theorem isK_tuple_tuple : isK anc (.ty .tuple) (.ty .tuple) = true := rfl
@[simp] theorem isK_tuple_dict : isK anc (.ty .tuple) (.ty .dict) = false := rfl
@[simp] theorem isK_list_bool : isK anc (.ty .list) (.ty .bool) = false := rfl
@[simp] theorem isK_list_str : isK anc (.ty .list) (.ty .str) = false := rfl
@[simp] theorem isK_list_int : isK anc (.ty .list) (.ty .int) = false := rfl
@[simp] theorem isK_list_list : isK anc (.ty .list) (.ty .list) = true := rfl
@[simp] theorem isK_list_tuple : isK anc (.ty .list) (.ty .tuple) = false := rfl
@[simp] theorem isK_list_dict : isK anc (.ty .list) (.ty .dict) = false := rfl
@[simp] theorem isK_dict_bool : isK anc (.ty .dict) (.ty .bool) = false := rfl
@[simp] theorem isK_dict_str : isK anc (.ty .dict) (.ty .str) = false := rfl
@[simp] theorem isK_dict_int : isK anc (.ty .dict) (.ty .int) = false := rfl
@[simp] theorem isK_dict_list : isK anc (.ty .dict) (.ty .list) = false := rfl
@[simp] theorem isK_dict_tuple : isK anc (.ty .dict) (.ty .tuple) = false := rfl
@[simp] theorem isK_dict_dict : isK anc (.ty .dict) (.ty .dict) = true := rfl
theorem isi_ty {f : Den} {e : Env} {d : D} {k : Kd} {cs : List Cl} (hf : f e S = .ok d S) (hk : kdOf anc d S = some k) : eIsi anc cs f e S = .ok (.bl (cs.any (isK anc k))) S := by
  rw [eIsi_ap, hf]
  simp only [R.bind, hk, optR_some]
@[simp] theorem kd_non : kdOf anc .non S = some (.ty .none) := rfl
@[simp] theorem kd_bl {b : Bool} : kdOf anc (.bl b) S = some (.ty .bool) := rfl
@[simp] theorem kd_int {b : Int} : kdOf anc (.int b) S = some (.ty .int) := rfl
@[simp] theorem kd_str {b : Str} : kdOf anc (.str b) S = some (.ty .str) := rfl
@[simp] theorem kd_tup {b : List D} : kdOf anc (.tup b) S = some (.ty .tuple) := rfl
@[simp] theorem kd_lst {b : List D} : kdOf anc (.lst b) S = some (.ty .list) := rfl
theorem same_bl {b : Bool} : runBody (sameD anc Γ i) 3 [.bl b, .bl b] S = .ok (.bl true) S := by
  unfold runBody sameD sameT
  simp only [List.map_cons, List.map_nil, List.length_cons, List.length_nil, List.replicate, List.cons_append, List.nil_append]
  have e : oEq (.bl b) (.bl b) S = .ok (.bl true) S := by rw [oEq_b]; cases b <;> rfl
  simp [isNon, e]
theorem same_int {b : Int} : runBody (sameD anc Γ i) 3 [.int b, .int b] S = .ok (.bl true) S := by
  unfold runBody sameD sameT
  simp only [List.map_cons, List.map_nil, List.length_cons, List.length_nil, List.replicate, List.cons_append, List.nil_append]
  simp [isNon]
theorem same_non : runBody (sameD anc Γ i) 3 [.non, .non] S = .ok (.bl true) S := by
  unfold runBody sameD sameT
  simp only [List.map_cons, List.map_nil, List.length_cons, List.length_nil, List.replicate, List.cons_append, List.nil_append]
  simp [isNon]
theorem same_lc {xs : List D} {d : D} {e : Env} (hd : d = .lst xs ∨ d = .tup xs) (hG : ∀ x ∈ xs, ∀ S', Γ i [x, x] S' = .ok (.bl true) S') (hl : xs.length ≤ sizeLine) :
    eFn oAll (dCons (eLc [2] (dRng1 (eFn oLen (dCons (eVar 1) dNil))) (gNm 2) tYesD (eCall Γ i (dCons (eBin oIdx (eVar 0) (eVar 2)) (dCons (eBin oIdx (eVar 1) (eVar 2)) dNil)))) dNil) (some d :: some d :: none :: e) S = .ok (.bl true) S := by
  have hlen : oLen [d] S = .ok (.int xs.length) S := by rcases hd with rfl | rfl <;> rfl
  have hR : inR (xs.length : Int) = true := by
    have : sizeLine = 16777216 := by decide
    unfold inR
    simp
    omega
  have hn : (intsD 0 (xs.length : Int).toNat).length = xs.length := by unfold intsD; simp
  have h := eLc_pure (vs := [2]) (gi := dRng1 (eFn oLen (dCons (eVar 1) dNil))) (g := gNm 2) (f := eCall Γ i (dCons (eBin oIdx (eVar 0) (eVar 2)) (dCons (eBin oIdx (eVar 1) (eVar 2)) dNil))) (e := some d :: some d :: none :: e) (S := S) (xs := intsD 0 (xs.length : Int).toNat) (fun x => .bl true)
    (by unfold dRng1; simp only [eFn_ap, dCons_ap, eVar_c, eVar_c0, dNil_ap, R.bind, hlen, hR, if_true])
    (fun x hx S' => ⟨_, rfl, by
      unfold intsD at hx
      simp only [List.mem_map, List.mem_range] at hx
      obtain ⟨k, hk, rfl⟩ := hx
      have hk' : k < xs.length := by omega
      have e1 : oIdx d (.int (0 + (k : Int))) S' = .ok xs[k] S' := by
        rw [Int.zero_add]
        rcases hd with rfl | rfl
        · exact idx_lst (atI_nat hk')
        · rw [idx_tup, atI_nat hk']
      simp only [wipeE, List.set, eCall_ap, dCons_ap, eBin_ap, eVar_c, eVar_c0, dNil_ap, R.bind, e1]
      exact hG _ (List.getElem_mem hk') S'⟩) (fun _ _ => rfl) (by rw [hn]; exact hl)
  rw [eFn_ap, dCons_ap, h]
  have := oAll_map (xs := intsD 0 (xs.length : Int).toNat) (p := fun _ => true) (S := S)
  simp only [R.bind, dNil_ap]
  rw [this, List.all_eq_true.mpr (fun _ _ => rfl)]
theorem sameT_sq {F : Den} {xs : List D} {d : D} (hd : d = .lst xs ∨ d = .tup xs) (h : F [some d, some d, none] S = .ok (.bl true) S) : runBody (sameT anc F) 3 [d, d] S = .ok (.bl true) S := by
  unfold runBody sameT
  simp only [List.map_cons, List.map_nil, List.length_cons, List.length_nil, List.replicate, List.cons_append, List.nil_append]
  have hlen : oLen [d] S = .ok (.int xs.length) S := by rcases hd with rfl | rfl <;> rfl
  rcases hd with rfl | rfl <;>
  simp only [sSeq_ap, sIf_ap, tVal_ap, eUn_ap, oIsN_ap, eVar_c, eVar_c0, R.bind, isNon, Bool.false_eq_true, if_false, sPass_ap, eIsi_ap, kd_lst, kd_tup, optR_some, List.any_cons, List.any_nil, isK_list_bool, isK_list_str, isK_list_int, isK_list_list, isK_list_tuple, isK_tuple_bool, isK_tuple_str, isK_tuple_int, isK_tuple_list, isK_tuple_tuple, Bool.or_self, Bool.or_false, tOr_ap, eBin_ap, oNe_b, BEq.rfl, Bool.not_true, sRet_ap, eAnd_ap, eFn_ap, dCons_ap, dNil_ap, hlen, oEq_i, h]
theorem same_sq {xs : List D} {d : D} (hd : d = .lst xs ∨ d = .tup xs) (hG : ∀ x ∈ xs, ∀ S', Γ i [x, x] S' = .ok (.bl true) S') (hl : xs.length ≤ sizeLine) : runBody (sameD anc Γ i) 3 [d, d] S = .ok (.bl true) S :=
  sameT_sq hd (same_lc hd hG hl)
end
end Py

set_option maxHeartbeats 4000000
/-! PyS: a store that grows beside the pot. -/
namespace Py
open PySem (Str sizeLine)
/-- what was there stays, but for p -/
def Fr2 (S S' : Store) (p : Nat) : Prop := S.length ≤ S'.length ∧ ∀ k, k < S.length → k ≠ p → S'[k]? = S[k]?
theorem Fr2.refl {S : Store} {p : Nat} : Fr2 S S p := ⟨Nat.le_refl _, fun _ _ _ => rfl⟩
theorem Fr2.trans {S S1 S2 : Store} {p : Nat} (a : Fr2 S S1 p) (b : Fr2 S1 S2 p) : Fr2 S S2 p := ⟨Nat.le_trans a.1 b.1, fun k h1 h2 => (b.2 k (Nat.lt_of_lt_of_le h1 a.1) h2).trans (a.2 k h1 h2)⟩
theorem Fr1.to2 {S S1 : Store} {p : Nat} (a : Fr1 S S1 p) : Fr2 S S1 p := ⟨Nat.le_of_eq a.1.symm, fun k _ h => a.2 k h⟩
theorem Fr2.app {S T : Store} {p : Nat} : Fr2 S (S ++ T) p := ⟨by rw [List.length_append]; omega, fun k h _ => List.getElem?_append_left h⟩
theorem Fr2.set {S : Store} {p q : Nat} {o : O} (h : S.length ≤ q) {S1 : Store} (a : Fr2 S S1 p) : Fr2 S (S1.set q o) p := ⟨by rw [List.length_set]; exact a.1, fun k h1 h2 => by rw [List.getElem?_set_ne (by omega)]; exact a.2 k h1 h2⟩
theorem tidy_pot {S S' : Store} {p : Nat} {d : D} (hn : noRef d = true) (hp : p < S.length) (hP : Pot S' p) (hF : Fr2 S S' p) : ∃ S2, tidy S (.ok d S') = .ok d S2 ∧ Pot S2 p ∧ Fr2 S S2 p := by
  by_cases hl : S'.length ≤ S.length
  · exact ⟨S', tidy_ok hl, hP, hF⟩
  · simp only [tidy, if_neg hl, res_no hn]
    by_cases ho : Old S S'
    · rw [if_pos ho]
      have g : ∀ k, k < S.length → (S'.take S.length)[k]? = S'[k]? := fun k hk => by rw [List.getElem?_take, if_pos hk]
      refine ⟨_, rfl, hP.same (g p hp), ?_, fun k h1 h2 => (g k h1).trans (hF.2 k h1 h2)⟩
      rw [List.length_take]
      omega
    · rw [if_neg ho]
      exact ⟨S', rfl, hP, hF⟩
theorem dRng1_ok {f : Den} {e : Env} {S S1 : Store} {j : Int} (h : f e S = .ok (.int j) S1) (h0 : 0 ≤ j) (h1 : j ≤ 16777216) : dRng1 f e S = .ok (wkL (intsD 0 j.toNat), (intsD 0 j.toNat).length) S1 := by
  unfold dRng1
  rw [h]
  have hR : inR j = true := by
    unfold inR
    simp
    omega
  simp only [R.bind, hR, if_true]
theorem intsD_len {lo : Int} {n : Nat} : (intsD lo n).length = n := by unfold intsD; rw [List.length_map, List.length_range]
theorem intsD_at {lo : Int} {n i : Nat} {x : D} (h : (intsD lo n)[i]? = some x) : i < n ∧ x = .int (lo + i) := by
  unfold intsD at h
  rw [List.getElem?_map] at h
  cases q : (List.range n)[i]? with
  | none => rw [q] at h; cases h
  | some k =>
    rw [q] at h
    cases h
    have h1 := (List.getElem?_eq_some_iff.mp q)
    obtain ⟨h2, h3⟩ := h1
    rw [List.length_range] at h2
    rw [List.getElem_range] at h3
    subst h3
    exact ⟨h2, rfl⟩
end Py

set_option maxHeartbeats 4000000
/-! PyU: polynomials as rows of integers, the highest power first: plain arithmetic. -/
namespace Py
/-- what f is worth at a/b, times b to the degree -/
def hev (a b : Int) : List Int → Int
  | [] => 0
  | c :: cs => c * a ^ cs.length + b * hev a b cs
theorem hev_snoc {a b c : Int} : ∀ {f : List Int}, hev a b (f ++ [c]) = a * hev a b f + c * b ^ f.length
  | [] => by simp [hev]
  | d :: f => by
    simp only [List.cons_append, hev, List.length_append, List.length_cons, List.length_nil]
    rw [hev_snoc]
    simp only [Int.pow_succ, Int.mul_add, Int.zero_add]
    rw [show d * (a ^ f.length * a) = a * (d * a ^ f.length) by ac_rfl, show b * (a * hev a b f) = a * (b * hev a b f) by ac_rfl, show b * (c * b ^ f.length) = c * (b ^ f.length * b) by ac_rfl]
    omega
theorem hev_zeros {a b : Int} : ∀ {k : Nat} {f : List Int}, hev a b (List.replicate k 0 ++ f) = b ^ k * hev a b f
  | 0, f => by simp
  | k + 1, f => by
    simp only [List.replicate_succ, List.cons_append, hev, Int.zero_mul, Int.zero_add]
    rw [hev_zeros, Int.pow_succ]
    ac_rfl
theorem hev_add {a b : Int} : ∀ {f g : List Int}, f.length = g.length → hev a b (List.zipWith (· + ·) f g) = hev a b f + hev a b g
  | [], [], _ => by simp [hev]
  | c :: f, d :: g, h => by
    simp only [List.length_cons] at h
    have hl : f.length = g.length := by omega
    simp only [List.zipWith_cons_cons, hev, List.length_zipWith]
    rw [hev_add hl, ← hl, Nat.min_self]
    simp only [Int.add_mul, Int.mul_add]
    omega
theorem hev_scale {a b k : Int} : ∀ {f : List Int}, hev a b (f.map (k * ·)) = k * hev a b f
  | [] => by simp [hev]
  | c :: f => by
    simp only [List.map_cons, hev, List.length_map]
    rw [hev_scale, Int.mul_add]
    rw [show k * c * a ^ f.length = k * (c * a ^ f.length) by ac_rfl, show b * (k * hev a b f) = k * (b * hev a b f) by ac_rfl]
def trim : List Int → List Int
  | [] => []
  | c :: cs => if c = 0 then trim cs else c :: cs
theorem hev_trim {a b : Int} : ∀ {f : List Int}, hev a b f * b ^ ((trim f).length - 1) = hev a b (trim f) * b ^ (f.length - 1)
  | [] => rfl
  | c :: f => by
    unfold trim
    by_cases hc : c = 0
    · subst hc
      rw [if_pos rfl]
      simp only [hev, Int.zero_mul, Int.zero_add, List.length_cons, Nat.add_sub_cancel]
      have ih := hev_trim (a := a) (b := b) (f := f)
      cases f with
      | nil => simp [hev, trim]
      | cons d f =>
        simp only [List.length_cons, Nat.add_sub_cancel] at ih
        rw [Int.mul_assoc, ih, List.length_cons, Int.pow_succ]
        ac_rfl
    · rw [if_neg hc]
theorem hev_set {a b : Int} : ∀ {f : List Int} {i : Nat} {d : Int} (h : i < f.length), hev a b (f.set i (f[i] + d)) = hev a b f + d * a ^ (f.length - 1 - i) * b ^ i
  | [], i, d, h => by simp at h
  | c :: f, 0, d, h => by
    simp only [List.set_cons_zero, hev, List.getElem_cons_zero, List.length_cons, Nat.add_sub_cancel, Nat.sub_zero, Int.pow_zero, Int.mul_one, Int.add_mul]
    omega
  | c :: f, i + 1, d, h => by
    simp only [List.length_cons] at h
    have hi : i < f.length := by omega
    simp only [List.set_cons_succ, hev, List.getElem_cons_succ, List.length_set, List.length_cons]
    rw [hev_set hi, Int.mul_add, show f.length + 1 - 1 - (i + 1) = f.length - 1 - i by omega, Int.pow_succ]
    rw [show b * (d * a ^ (f.length - 1 - i) * b ^ i) = d * a ^ (f.length - 1 - i) * (b ^ i * b) by ac_rfl]
    omega
/-- into acc, from place o on, c times each of g -/
def rowAdd (c : Int) : List Int → Nat → List Int → List Int
  | [], _, acc => acc
  | d :: g, o, acc => rowAdd c g (o + 1) (acc.set o (acc.getD o 0 + c * d))
theorem rowAdd_len {c : Int} : ∀ {g : List Int} {o : Nat} {acc : List Int}, (rowAdd c g o acc).length = acc.length
  | [], _, _ => rfl
  | d :: g, o, acc => by unfold rowAdd; rw [rowAdd_len, List.length_set]
def convA : List Int → List Int → Nat → List Int → List Int
  | [], _, _, acc => acc
  | c :: f, g, o, acc => convA f g (o + 1) (rowAdd c g o acc)
theorem convA_len : ∀ {f g : List Int} {o : Nat} {acc : List Int}, (convA f g o acc).length = acc.length
  | [], _, _, _ => rfl
  | c :: f, g, o, acc => by unfold convA; rw [convA_len, rowAdd_len]
def conv (f g : List Int) : List Int := convA f g 0 (List.replicate (f.length + g.length - 1) 0)
theorem hev_rowAdd {a b c : Int} : ∀ {g : List Int} {o n : Nat} {acc : List Int}, o + g.length + n = acc.length →
    hev a b (rowAdd c g o acc) = hev a b acc + c * hev a b g * a ^ n * b ^ o
  | [], o, n, acc, _ => by simp [rowAdd, hev]
  | d :: g, o, n, acc, h => by
    simp only [List.length_cons] at h
    have ho : o < acc.length := by omega
    unfold rowAdd
    rw [hev_rowAdd (n := n) (by rw [List.length_set]; omega)]
    have : acc.getD o 0 = acc[o] := by simp [ho]
    rw [this, hev_set ho, show acc.length - 1 - o = g.length + n by omega, Int.pow_add]
    simp only [hev, Int.mul_add, Int.add_mul, Int.pow_succ]
    rw [show c * d * (a ^ g.length * a ^ n) * b ^ o = c * (d * a ^ g.length) * a ^ n * b ^ o by ac_rfl, show c * hev a b g * a ^ n * (b ^ o * b) = c * (b * hev a b g) * a ^ n * b ^ o by ac_rfl]
    omega
theorem hev_convA {a b : Int} : ∀ {f g : List Int} {o : Nat} {acc : List Int}, g ≠ [] → o + f.length + g.length = acc.length + 1 →
    hev a b (convA f g o acc) = hev a b acc + hev a b f * hev a b g * b ^ o
  | [], g, o, acc, _, _ => by simp [convA, hev]
  | c :: f, g, o, acc, hg, h => by
    simp only [List.length_cons] at h
    unfold convA
    rw [hev_convA hg (by rw [rowAdd_len]; omega), hev_rowAdd (n := f.length) (by omega)]
    simp only [hev, Int.add_mul, Int.pow_succ]
    rw [show c * hev a b g * a ^ f.length * b ^ o = c * a ^ f.length * hev a b g * b ^ o by ac_rfl, show hev a b f * hev a b g * (b ^ o * b) = b * hev a b f * hev a b g * b ^ o by ac_rfl]
    omega
theorem hev_zero {a b : Int} {n : Nat} : hev a b (List.replicate n 0) = 0 := by
  have := hev_zeros (a := a) (b := b) (k := n) (f := [])
  simpa [hev] using this
theorem hev_conv {a b : Int} {f g : List Int} (hf : f ≠ []) (hg : g ≠ []) : hev a b (conv f g) = hev a b f * hev a b g := by
  have h1 : 0 < f.length := List.length_pos_iff.mpr hf
  have h2 : 0 < g.length := List.length_pos_iff.mpr hg
  unfold conv
  rw [hev_convA hg (by rw [List.length_replicate]; omega), hev_zero]
  simp
end Py

set_option maxHeartbeats 4000000
/-! PyV: numbers in lowest terms, as fractions; walks of pairs. -/
namespace Py
open PySem (Str sizeLine)
/-- a/b in lowest terms -/
def low (a b : Int) : Int × Int := (a.fdiv (cofP a b), b.fdiv (cofP a b))
structure LowF (a b p q : Int) : Prop where
  ex : ∃ g : Int, 0 < g ∧ a = p * g ∧ b = q * g
  pos : 0 < q
  cop : Nat.gcd p.natAbs q.natAbs = 1
  lp : p.natAbs ≤ a.natAbs
  lq : q.natAbs ≤ b.natAbs
  nz : a ≠ 0 → p ≠ 0
theorem low_f {a b : Int} (hb : 0 < b) : LowF a b (low a b).1 (low a b).2 := by
  have hc : cofP a b = ((Nat.gcd a.natAbs b.natAbs : Nat) : Int) := if_neg (by omega)
  show LowF a b (a.fdiv (cofP a b)) (b.fdiv (cofP a b))
  rw [hc]
  have hp : 0 < Nat.gcd a.natAbs b.natAbs := Nat.gcd_pos_of_pos_right _ (Int.natAbs_pos.mpr (by omega))
  have d1 : Nat.gcd a.natAbs b.natAbs ∣ a.natAbs := Nat.gcd_dvd_left _ _
  have d2 : Nat.gcd a.natAbs b.natAbs ∣ b.natAbs := Nat.gcd_dvd_right _ _
  have hg := Nat.gcd_div d1 d2
  have l1 : a ≠ 0 → Nat.gcd a.natAbs b.natAbs ≤ a.natAbs := fun h => Nat.gcd_le_left _ (Int.natAbs_pos.mpr h)
  have l2 : Nat.gcd a.natAbs b.natAbs ≤ b.natAbs := Nat.gcd_le_right _ (Int.natAbs_pos.mpr (by omega))
  rw [Nat.div_self hp] at hg
  generalize Nat.gcd a.natAbs b.natAbs = g at *
  have D1 : (g : Int) ∣ a := Int.ofNat_dvd_left.mpr d1
  have D2 : (g : Int) ∣ b := Int.ofNat_dvd_left.mpr d2
  have e1 : (a.fdiv (g : Int)).natAbs = a.natAbs / g := by
    rw [Int.fdiv_eq_ediv_of_nonneg _ (by omega), Int.natAbs_ediv_of_dvd D1, Int.natAbs_natCast]
  have e2 : (b.fdiv (g : Int)).natAbs = b.natAbs / g := by
    rw [Int.fdiv_eq_ediv_of_nonneg _ (by omega), Int.natAbs_ediv_of_dvd D2, Int.natAbs_natCast]
  have p2 : 0 < b.natAbs / g := Nat.div_pos l2 hp
  have q2 : 0 ≤ b.fdiv (g : Int) := Int.fdiv_nonneg (by omega) (by omega)
  refine ⟨⟨g, by omega, ?_, ?_⟩, by omega, by rw [e1, e2]; exact hg, by rw [e1]; exact Nat.div_le_self _ _, by rw [e2]; exact Nat.div_le_self _ _, fun h hz => ?_⟩
  · rw [Int.fdiv_eq_ediv_of_nonneg _ (by omega), Int.ediv_mul_cancel D1]
  · rw [Int.fdiv_eq_ediv_of_nonneg _ (by omega), Int.ediv_mul_cancel D2]
  · have p1 : 0 < a.natAbs / g := Nat.div_pos (l1 h) hp
    rw [hz] at e1
    simp at e1
    omega
theorem cop_eq {p q p' q' : Int} (h1 : 0 < q) (h2 : 0 < q') (c1 : Nat.gcd p.natAbs q.natAbs = 1) (c2 : Nat.gcd p'.natAbs q'.natAbs = 1) (h : p * q' = p' * q) : p = p' ∧ q = q' := by
  have hn : p.natAbs * q'.natAbs = p'.natAbs * q.natAbs := by rw [← Int.natAbs_mul, ← Int.natAbs_mul, h]
  have d1 : q.natAbs ∣ q'.natAbs := Nat.Coprime.dvd_of_dvd_mul_left (show Nat.Coprime q.natAbs p.natAbs from by rw [Nat.coprime_comm]; exact c1) ⟨p'.natAbs, by rw [hn, Nat.mul_comm]⟩
  have d2 : q'.natAbs ∣ q.natAbs := Nat.Coprime.dvd_of_dvd_mul_left (show Nat.Coprime q'.natAbs p'.natAbs from by rw [Nat.coprime_comm]; exact c2) ⟨p.natAbs, by rw [← hn, Nat.mul_comm]⟩
  have e : q.natAbs = q'.natAbs := Nat.dvd_antisymm d1 d2
  have eq : q = q' := by omega
  subst eq
  exact ⟨Int.eq_of_mul_eq_mul_right (by omega) h, rfl⟩
theorem low_eq {T U T' U' : Int} (h1 : 0 < U) (h2 : 0 < U') (h : T * U' = T' * U) : low T U = low T' U' := by
  have f1 := low_f (a := T) h1
  have f2 := low_f (a := T') h2
  generalize hx : low T U = x at f1 ⊢
  generalize hy : low T' U' = y at f2 ⊢
  obtain ⟨g, hg, ea, eb⟩ := f1.ex
  obtain ⟨g', hg', ea', eb'⟩ := f2.ex
  have h3 : x.1 * y.2 = y.1 * x.2 := by
    have : (x.1 * y.2) * (g * g') = (y.1 * x.2) * (g * g') := by
      rw [ea, eb, ea', eb'] at h
      rw [show x.1 * y.2 * (g * g') = x.1 * g * (y.2 * g') by ac_rfl, h]
      ac_rfl
    exact Int.eq_of_mul_eq_mul_right (Int.ne_of_gt (Int.mul_pos hg hg')) this
  obtain ⟨e1, e2⟩ := cop_eq f1.pos f2.pos f1.cop f2.cop h3
  exact Prod.ext e1 e2
/-- what low p is worth -/
theorem low_val {a b : Int} (hb : 0 < b) : (low a b).1 * b = a * (low a b).2 := by
  obtain ⟨g, hg, ea, eb⟩ := (low_f (a := a) hb).ex
  generalize low a b = x at *
  rw [ea, eb]
  ac_rfl
/-! walks -/
def enumP (xs : List D) : List D := xs.mapIdx fun i d => .tup [.int (i : Nat), d]
def zipP (xs ys : List D) : List D := List.zipWith (fun x y => .tup [x, y]) xs ys
theorem enumP_len {xs : List D} : (enumP xs).length = xs.length := List.length_mapIdx
theorem enumP_get {xs : List D} {i : Nat} : (enumP xs)[i]? = xs[i]?.map fun d => .tup [.int i, d] := List.getElem?_mapIdx
theorem dEnumA_tup {f : Den} {e : Env} {S S1 : Store} {xs : List D} (h : f e S = .ok (.tup xs) S1) : dEnumA f e S = .ok (wkL (enumP xs), (enumP xs).length) S1 := by
  unfold dEnumA
  rw [h]
  show R.ok (wkE (wkL xs), xs.length) S1 = _
  rw [wkE_L, enumP_len]
  rfl
theorem dZip2_tup {f g : Den} {e : Env} {S S1 S2 : Store} {xs ys : List D} (h : f e S = .ok (.tup xs) S1) (h2 : g e S1 = .ok (.tup ys) S2) : dZip2 f g e S = .ok (wkL (zipP xs ys), (zipP xs ys).length) S2 := by
  unfold dZip2
  rw [h]
  simp only [R.bind, h2]
  show R.ok (wkZ (wkL xs) (wkL ys), min xs.length ys.length) S2 = _
  rw [wkZ_L, show (zipP xs ys).length = min xs.length ys.length from List.length_zipWith ..]
  rfl
theorem dZip2_lst {f g : Den} {e : Env} {S S1 S2 : Store} {xs ys : List D} (h : f e S = .ok (.lst xs) S1) (h2 : g e S1 = .ok (.lst ys) S2) : dZip2 f g e S = .ok (wkL (zipP xs ys), (zipP xs ys).length) S2 := by
  unfold dZip2
  rw [h]
  simp only [R.bind, h2]
  show R.ok (wkZ (wkL xs) (wkL ys), min xs.length ys.length) S2 = _
  rw [wkZ_L, show (zipP xs ys).length = min xs.length ys.length from List.length_zipWith ..]
  rfl
end Py

set_option maxHeartbeats 4000000
/-! PyW: noughts ahead stripped, bounds of worths. -/
namespace Py
open PySem (Str sizeLine)
def nz0 (l : List Int) (k : Nat) : Bool := match l[k]? with | some c => c == 0 | none => false
theorem while_trim {S : Store} {T : DenT} {B : DenS} {E : Nat → Env} {l : List Int} (hT : ∀ k, k ≤ l.length → T (E k) S = .ok (nz0 l k) S) (hB : ∀ k, B (E k) S = .next (E (k + 1)) S) :
    ∀ (m k : Nat), k + m = l.length → ∃ k', sWhile T B (E k) S = .next (E k') S ∧ k' ≤ l.length ∧ l.drop k' = trim (l.drop k) := by
  intro m
  induction m with
  | zero =>
    intro k hk
    refine ⟨k, ?_, by omega, ?_⟩
    · rw [sWhile_eq, hT k (by omega)]
      have : nz0 l k = false := by unfold nz0; rw [List.getElem?_eq_none (by omega)]
      simp only [this]
    · rw [List.drop_eq_nil_of_le (by omega)]; rfl
  | succ m ih =>
    intro k hk
    have hlt : k < l.length := by omega
    by_cases hz : l[k] = 0
    · obtain ⟨k', h1, h2, h3⟩ := ih (k + 1) (by omega)
      refine ⟨k', ?_, h2, ?_⟩
      · rw [sWhile_eq, hT k (by omega)]
        have : nz0 l k = true := by unfold nz0; rw [List.getElem?_eq_getElem hlt]; simp [hz]
        simp only [this, hB, h1]
      · rw [h3, List.drop_eq_getElem_cons hlt, hz]
        rfl
    · refine ⟨k, ?_, by omega, ?_⟩
      · rw [sWhile_eq, hT k (by omega)]
        have : nz0 l k = false := by unfold nz0; rw [List.getElem?_eq_getElem hlt]; simp [hz]
        simp only [this]
      · rw [List.drop_eq_getElem_cons hlt]
        unfold trim
        rw [if_neg hz]
theorem cut_drop {xs : List D} {k : Nat} (h : k ≤ xs.length) : cutD xs (some (k : Int)) none = xs.drop k := by
  unfold cutD
  rw [HT.sIx_nat, HT.sIx_none, Nat.min_eq_left h]
  exact List.take_of_length_le (by rw [List.length_drop]; omega)
theorem trim_len : ∀ {l : List Int}, (trim l).length ≤ l.length
  | [] => Nat.le_refl _
  | c :: cs => by
    unfold trim
    split
    · have := trim_len (l := cs); simp only [List.length_cons]; omega
    · exact Nat.le_refl _
theorem trim_mem : ∀ {l : List Int} {c : Int}, c ∈ trim l → c ∈ l
  | d :: cs, c, h => by
    unfold trim at h
    split at h
    · exact List.mem_cons_of_mem _ (trim_mem h)
    · exact h
/-- no nought ahead -/
def Lead (l : List Int) : Prop := ∀ c, l.head? = some c → c ≠ 0
theorem trim_lead : ∀ {l : List Int}, Lead (trim l)
  | [], c, h => by cases h
  | d :: cs, c, h => by
    unfold trim at h
    split at h
    · exact trim_lead c h
    · cases h; assumption
theorem lead_poly {l : List Int} (h : Lead l) : polyB (.tup (l.map .int)) = true := by
  unfold polyB
  rw [Bool.and_eq_true]
  constructor
  · rw [List.all_eq_true]
    intro x hx
    obtain ⟨c, _, rfl⟩ := List.mem_map.mp hx
    rfl
  · cases l with
    | nil => rfl
    | cons c cs => simpa using h c rfl
theorem lead_hev {c : Int} {cs : List Int} : hev 1 0 (c :: cs) = c := by simp [hev, Int.one_pow]
theorem conv_len {f g : List Int} : (conv f g).length = f.length + g.length - 1 := by unfold conv; rw [convA_len, List.length_replicate]
theorem conv_lead {f g : List Int} (hf : f ≠ []) (hg : g ≠ []) (h1 : Lead f) (h2 : Lead g) : Lead (conv f g) := by
  intro c hc
  have hv := hev_conv (a := 1) (b := 0) hf hg
  cases f with
  | nil => exact absurd rfl hf
  | cons x f =>
    cases g with
    | nil => exact absurd rfl hg
    | cons y g =>
      cases q : conv (x :: f) (y :: g) with
      | nil => rw [q] at hc; cases hc
      | cons z zs =>
        rw [q] at hc hv
        cases hc
        rw [lead_hev, lead_hev, lead_hev] at hv
        rw [hv]
        exact Int.mul_ne_zero (h1 x rfl) (h2 y rfl)
/-! bounds -/
def Bd (p : Nat) (l : List Int) : Prop := ∀ c ∈ l, c.natAbs ≤ 2 ^ p
theorem pow_bd {a : Int} {k : Nat} (ha : a.natAbs ≤ 2 ^ k) (n : Nat) : (a ^ n).natAbs ≤ 2 ^ (k * n) := by
  rw [Int.natAbs_pow, Nat.pow_mul]
  exact Nat.pow_le_pow_left ha n
theorem mul_bd {a b : Int} {j k : Nat} (ha : a.natAbs ≤ 2 ^ j) (hb : b.natAbs ≤ 2 ^ k) : (a * b).natAbs ≤ 2 ^ (j + k) := by
  rw [Int.natAbs_mul, Nat.pow_add]
  exact Nat.mul_le_mul ha hb
theorem add_bd {a b : Int} {j : Nat} (ha : a.natAbs ≤ 2 ^ j) (hb : b.natAbs ≤ 2 ^ j) : (a + b).natAbs ≤ 2 ^ (j + 1) := by
  have := Int.natAbs_add_le a b
  rw [Nat.pow_succ]
  omega
theorem bd_mono {a : Int} {j k : Nat} (ha : a.natAbs ≤ 2 ^ j) (h : j ≤ k) : a.natAbs ≤ 2 ^ k := Nat.le_trans ha (Nat.pow_le_pow_right (by decide) h)
theorem bd_lt {a : Int} {j : Nat} (ha : a.natAbs ≤ 2 ^ j) (h : j < 1000) : a.natAbs < 2 ^ 1000 := Nat.lt_of_le_of_lt ha (Nat.pow_lt_pow_right (by decide) h)
theorem hev_bd {a b : Int} {p : Nat} (ha : a.natAbs ≤ 2 ^ 10) (hb : b.natAbs ≤ 2 ^ 10) : ∀ {f : List Int}, Bd p f → (hev a b f).natAbs ≤ 2 ^ (p + 11 * f.length)
  | [], _ => by show 0 ≤ _; exact Nat.zero_le _
  | c :: f, h => by
    have ih := hev_bd ha hb (f := f) fun d hd => h d (List.mem_cons_of_mem _ hd)
    have h1 := mul_bd (h c List.mem_cons_self) (pow_bd ha f.length)
    have h2 := mul_bd hb ih
    have := add_bd (bd_mono h1 (show p + 10 * f.length ≤ p + 11 * f.length + 10 by omega)) (bd_mono h2 (show 10 + (p + 11 * f.length) ≤ p + 11 * f.length + 10 by omega))
    simp only [hev, List.length_cons]
    exact bd_mono this (by omega)
end Py

set_option maxHeartbeats 4000000
/-! PyX: bounds of products. -/
namespace Py
theorem rowAdd_low {c : Int} : ∀ {g : List Int} {o k : Nat} {acc : List Int}, k < o → (rowAdd c g o acc).getD k 0 = acc.getD k 0
  | [], _, _, _, _ => rfl
  | d :: g, o, k, acc, h => by
    unfold rowAdd
    rw [rowAdd_low (by omega)]
    simp only [List.getD_eq_getElem?_getD]
    rw [List.getElem?_set_ne (by omega)]
theorem rowAdd_bd {c : Int} {B : Nat} : ∀ {g : List Int} {o k : Nat} {acc : List Int}, (∀ d ∈ g, (c * d).natAbs ≤ B) → ((rowAdd c g o acc).getD k 0).natAbs ≤ (acc.getD k 0).natAbs + B
  | [], o, k, acc, _ => by show (acc.getD k 0).natAbs ≤ _; omega
  | d :: g, o, k, acc, h => by
    have hd := h d List.mem_cons_self
    unfold rowAdd
    by_cases hk : k = o
    · subst hk
      rw [rowAdd_low (by omega)]
      by_cases hl : k < acc.length
      · have : (acc.set k (acc.getD k 0 + c * d)).getD k 0 = acc.getD k 0 + c * d := by simp [hl]
        rw [this]
        have := Int.natAbs_add_le (acc.getD k 0) (c * d)
        omega
      · have : (acc.set k (acc.getD k 0 + c * d)).getD k 0 = 0 := by
          rw [List.getD_eq_getElem?_getD, List.getElem?_eq_none (by rw [List.length_set]; omega)]; rfl
        rw [this]; simp
    · have ih := rowAdd_bd (c := c) (B := B) (o := o + 1) (k := k) (acc := acc.set o (acc.getD o 0 + c * d)) fun x hx => h x (List.mem_cons_of_mem _ hx)
      have : (acc.set o (acc.getD o 0 + c * d)).getD k 0 = acc.getD k 0 := by
        simp only [List.getD_eq_getElem?_getD]
        rw [List.getElem?_set_ne (by omega)]
      rw [this] at ih
      exact ih
theorem convA_bd {B : Nat} : ∀ {f g : List Int} {o k : Nat} {acc : List Int}, (∀ c ∈ f, ∀ d ∈ g, (c * d).natAbs ≤ B) → ((convA f g o acc).getD k 0).natAbs ≤ (acc.getD k 0).natAbs + f.length * B
  | [], g, o, k, acc, _ => by show (acc.getD k 0).natAbs ≤ _; omega
  | c :: f, g, o, k, acc, h => by
    unfold convA
    have h1 := convA_bd (B := B) (g := g) (o := o + 1) (k := k) (acc := rowAdd c g o acc) fun x hx => h x (List.mem_cons_of_mem _ hx)
    have h2 := rowAdd_bd (c := c) (B := B) (g := g) (o := o) (k := k) (acc := acc) fun d hd => h c List.mem_cons_self d hd
    rw [List.length_cons, Nat.add_mul, Nat.one_mul]
    omega
theorem conv_bd {f g : List Int} {p q : Nat} (hf : Bd p f) (hg : Bd q g) (hl : f.length ≤ 16) : Bd (p + q + 4) (conv f g) := by
  intro x hx
  obtain ⟨k, hk, rfl⟩ := List.mem_iff_getElem.mp hx
  have h := convA_bd (B := 2 ^ (p + q)) (f := f) (g := g) (o := 0) (k := k) (acc := List.replicate (f.length + g.length - 1) 0) fun c hc d hd => mul_bd (hf c hc) (hg d hd)
  have e1 : (convA f g 0 (List.replicate (f.length + g.length - 1) 0)).getD k 0 = (conv f g)[k] := by
    show (conv f g).getD k 0 = _
    simp [hk]
  have e2 : (List.replicate (f.length + g.length - 1) (0 : Int)).getD k 0 = 0 := by
    rw [List.getD_eq_getElem?_getD, List.getElem?_replicate]
    split <;> rfl
  rw [e1, e2] at h
  have h3 : f.length * 2 ^ (p + q) ≤ 16 * 2 ^ (p + q) := Nat.mul_le_mul_right _ hl
  rw [Nat.pow_add 2 (p + q) 4]
  omega
end Py

set_option maxHeartbeats 4000000
/-! PyY: what is to be shown of an expression, of a statement: backwards. -/
namespace Py
open PySem (Str sizeLine)
section
variable {α β : Type} {r r' : R α} {f g h : Den} {gs hs : Dens} {e : Env} {S : Store} {E : Nat → D → Store → Prop} {t u : DenT} {F G : DenS} {Γ : Calls} {i j : Nat}
theorem ok_of_Sat {r : R D} {d : D} {S : Store} (h : Sat r (fun d' S' => d' = d ∧ S' = S) (fun _ _ _ => False)) : r = .ok d S := by
  cases r with
  | ok a S => obtain ⟨rfl, rfl⟩ := h; rfl
  | err c v S => exact h.elim
  | bad => exact h.elim
theorem err_of_Sat {r : R D} {c : Nat} {d : D} {S : Store} (h : Sat r (fun _ _ => False) (fun c' d' S' => c' = c ∧ d' = d ∧ S' = S)) : r = .err c d S := by
  cases r with
  | ok a S => exact h.elim
  | err c v S => obtain ⟨rfl, rfl, rfl⟩ := h; rfl
  | bad => exact h.elim
theorem Sat_use {Q Q' : α → Store → Prop} {E0 E : Nat → D → Store → Prop} (h : Sat r Q E0) (he : ∀ c v S, E0 c v S → E c v S) (hq : ∀ a S, Q a S → Q' a S) : Sat r Q' E := h.mono hq he
theorem Sat_use0 {Q Q' : α → Store → Prop} {E : Nat → D → Store → Prop} (h : Sat r Q (fun _ _ _ => False)) (hq : ∀ a S, Q a S → Q' a S) : Sat r Q' E := h.mono hq fun _ _ _ z => z.elim
@[simp] theorem Sat_ok {a : α} {Q : α → Store → Prop} : Sat (.ok a S) Q E = Q a S := rfl
@[simp] theorem Sat_err {c : Nat} {v : D} {Q : α → Store → Prop} : Sat (.err c v S) Q E = E c v S := rfl
@[simp] theorem Sat_bad {Q : α → Store → Prop} : Sat .bad Q E = False := rfl
@[simp] theorem Sat_bind {k : α → Store → R β} {Q : β → Store → Prop} : Sat (r.bind k) Q E = Sat r (fun a S => Sat (k a S) Q E) E := by cases r <;> rfl
@[simp] theorem Sat_ite {c : Prop} [Decidable c] {Q : α → Store → Prop} : Sat (if c then r else r') Q E = ((c → Sat r Q E) ∧ (¬ c → Sat r' Q E)) := by
  by_cases h : c <;> simp [h]
variable {Q : D → Store → Prop} {QL : List D → Store → Prop} {Qb : Bool → Store → Prop}
@[simp] theorem W_var {o : Env} {d : D} : Sat (eVar 0 (some d :: o) S) Q E = Q d S := rfl
@[simp] theorem W_vars {o : Env} {x : Option D} : Sat (eVar (i + 1) (x :: o) S) Q E = Sat (eVar i o S) Q E := rfl
@[simp] theorem W_c {d : D} : Sat (eC d e S) Q E = Q d S := rfl
@[simp] theorem W_nil : Sat (dNil e S) QL E = QL [] S := rfl
@[simp] theorem W_cons : Sat (dCons f gs e S) QL E = Sat (f e S) (fun a S1 => Sat (gs e S1) (fun as S2 => QL (a :: as) S2) E) E := by simp only [dCons_ap, Sat_bind, Sat_ok]
@[simp] theorem W_tup : Sat (eTup gs e S) Q E = Sat (gs e S) (fun as S1 => Q (.tup as) S1) E := by simp only [eTup_ap, Sat_bind, Sat_ok]
@[simp] theorem W_lst : Sat (eLst gs e S) Q E = Sat (gs e S) (fun as S1 => Q (.lst as) S1) E := by simp only [eLst_ap, Sat_bind, Sat_ok]
@[simp] theorem W_new : Sat (eNew gs e S) Q E = Sat (gs e S) (fun as S1 => Q (.ref S1.length) (S1 ++ [.lst as])) E := by simp only [eNew_ap, Sat_bind, Sat_ok]
@[simp] theorem W_bin {o : Op2} : Sat (eBin o f g e S) Q E = Sat (f e S) (fun a S1 => Sat (g e S1) (fun b S2 => Sat (o a b S2) Q E) E) E := by simp only [eBin_ap, Sat_bind]
@[simp] theorem W_un {o : Op1} : Sat (eUn o f e S) Q E = Sat (f e S) (fun a S1 => Sat (o a S1) Q E) E := by simp only [eUn_ap, Sat_bind]
@[simp] theorem W_fn {o : OpN} : Sat (eFn o gs e S) Q E = Sat (gs e S) (fun as S1 => Sat (o as S1) Q E) E := by simp only [eFn_ap, Sat_bind]
@[simp] theorem W_dfn {o : OpF} : Sat (dFn o gs e S) QL E = Sat (gs e S) (fun as S1 => Sat (o as S1) QL E) E := by simp only [dFn_ap, Sat_bind]
@[simp] theorem W_call : Sat (eCall Γ i gs e S) Q E = Sat (gs e S) (fun as S1 => Sat (Γ i as S1) Q E) E := by simp only [eCall_ap, Sat_bind]
@[simp] theorem W_callP {js : List Nat} : Sat (eCallP Γ i js gs hs e S) Q E = Sat (gs e S) (fun as S1 => Sat (hs e S1) (fun bs S2 => Sat (Γ i (perm js (as ++ bs)) S2) Q E) E) E := by simp only [eCallP_ap, Sat_bind]
@[simp] theorem W_if : Sat (eIf t f g e S) Q E = Sat (t e S) (fun b S1 => Sat (if b = true then f e S1 else g e S1) Q E) E := by simp only [eIf_ap, Sat_bind]
@[simp] theorem W_isi {anc : Anc} {cs : List Cl} : Sat (eIsi anc cs f e S) Q E = Sat (f e S) (fun d S1 => Sat (optR (kdOf anc d S1) fun k => .ok (.bl (cs.any (isK anc k))) S1) Q E) E := by simp only [eIsi_ap, Sat_bind]
@[simp] theorem W_val {anc : Anc} : Sat (eVal anc f e S) Q E = Sat (f e S) (fun d S1 => Sat (exVal anc d S1) Q E) E := by simp only [eVal_ap, Sat_bind]
@[simp] theorem W_setI {o i : Den} : Sat (eSetI f o i e S) Q E = Sat (f e S) (fun v S1 => Sat (o e S1) (fun d S2 => Sat (i e S2) (fun k S3 => Sat (chg (kSet k v) d S3) Q E) E) E) E := by simp only [eSetI_ap, Sat_bind]
@[simp] theorem W_app {o : Den} : Sat (eApp o f e S) Q E = Sat (o e S) (fun d S1 => Sat (f e S1) (fun v S2 => Sat (chg (kApp v) d S2) Q E) E) E := by simp only [eApp_ap, Sat_bind]
@[simp] theorem W_pop {o : Den} : Sat (ePop o e S) Q E = Sat (o e S) (fun d S1 => Sat (chg kPop d S1) Q E) E := by simp only [ePop_ap, Sat_bind]
@[simp] theorem W_popAt {o i : Den} : Sat (ePopAt o i e S) Q E = Sat (o e S) (fun d S1 => Sat (i e S1) (fun k S2 => Sat (chg (kPopAt k) d S2) Q E) E) E := by
  show Sat ((o e S).bind fun d S1 => (i e S1).bind fun k S2 => chg (kPopAt k) d S2) Q E = _
  simp only [Sat_bind]
@[simp] theorem W_ins {o i : Den} : Sat (eIns o i f e S) Q E = Sat (o e S) (fun d S1 => Sat (i e S1) (fun k S2 => Sat (f e S2) (fun v S3 => Sat (chg (kIns k v) d S3) Q E) E) E) E := by simp only [eIns_ap, Sat_bind]
@[simp] theorem W_augI {o i : Den} {k : Int → Int → Int} : Sat (eAugI o i k f e S) Q E = Sat (o e S) (fun d S1 => Sat (i e S1) (fun j S2 => Sat (augJ f k d j e S2) Q E) E) E := by
  show Sat ((o e S).bind fun d S1 => (i e S1).bind fun j S2 => augJ f k d j e S2) Q E = _
  simp only [Sat_bind]
def andK (a : D) (r : R D) (S : Store) : R D := match a with | .bl b => if b then r else .ok (.bl false) S | _ => .bad
def orK (a : D) (r : R D) (S : Store) : R D := match a with | .bl b => if b then .ok (.bl true) S else r | _ => .bad
@[simp] theorem andK_b {b : Bool} {r : R D} : andK (.bl b) r S = if b = true then r else .ok (.bl false) S := rfl
@[simp] theorem orK_b {b : Bool} {r : R D} : orK (.bl b) r S = if b = true then .ok (.bl true) S else r := rfl
@[simp] theorem W_and : Sat (eAnd f g e S) Q E = Sat (f e S) (fun a S1 => Sat (andK a (g e S1) S1) Q E) E := by
  have : eAnd f g e S = (f e S).bind fun a S1 => andK a (g e S1) S1 := by
    unfold eAnd; congr 1; funext a S1; unfold andK; cases a with
    | bl b => cases b <;> rfl
    | _ => rfl
  rw [this, Sat_bind]
@[simp] theorem W_or : Sat (eOr f g e S) Q E = Sat (f e S) (fun a S1 => Sat (orK a (g e S1) S1) Q E) E := by
  have : eOr f g e S = (f e S).bind fun a S1 => orK a (g e S1) S1 := by
    unfold eOr; congr 1; funext a S1; unfold orK; cases a with
    | bl b => cases b <;> rfl
    | _ => rfl
  rw [this, Sat_bind]
def notK (a : D) (S : Store) : R D := match a with | .bl b => .ok (.bl (!b)) S | _ => .bad
@[simp] theorem notK_b {b : Bool} : notK (.bl b) S = .ok (.bl (!b)) S := rfl
@[simp] theorem W_not : Sat (eNot f e S) Q E = Sat (f e S) (fun a S1 => Sat (notK a S1) Q E) E := by
  show Sat ((f e S).bind fun a S1 => notK a S1) Q E = _
  rw [Sat_bind]
def boolK (a : D) (S : Store) : R Bool := match a with | .bl b => .ok b S | _ => .bad
@[simp] theorem boolK_b {b : Bool} : boolK (.bl b) S = .ok b S := rfl
@[simp] theorem W_tval : Sat (tVal f e S) Qb E = Sat (f e S) (fun a S1 => Sat (boolK a S1) Qb E) E := by
  show Sat ((f e S).bind fun a S1 => boolK a S1) Qb E = _
  rw [Sat_bind]
@[simp] theorem W_tnot : Sat (tNot t e S) Qb E = Sat (t e S) (fun b S1 => Qb (!b) S1) E := by simp only [tNot_ap, Sat_bind, Sat_ok]
@[simp] theorem W_tand : Sat (tAnd t u e S) Qb E = Sat (t e S) (fun b S1 => Sat (if b = true then u e S1 else .ok false S1) Qb E) E := by simp only [tAnd_ap, Sat_bind]
@[simp] theorem W_tor : Sat (tOr t u e S) Qb E = Sat (t e S) (fun b S1 => Sat (if b = true then .ok true S1 else u e S1) Qb E) E := by simp only [tOr_ap, Sat_bind]
@[simp] theorem W_tyes : Sat (tYesD e S) Qb E = Qb true S := rfl
/-! operations -/
variable {a b : Int}
@[simp] theorem W_mul : Sat (oRep (.int a) (.int b) S) Q E = (mulOk a b = true ∧ Q (.int (a * b)) S) := by
  show Sat (if mulOk a b then .ok (.int (a * b)) S else .bad) Q E = _
  by_cases h : mulOk a b = true <;> simp [h]
@[simp] theorem W_mod : Sat (oMod (.int a) (.int b) S) Q E = (b ≠ 0 ∧ Q (.int (a.fmod b)) S) := by
  show Sat (if b ≠ 0 then .ok (.int (a.fmod b)) S else .bad) Q E = _
  by_cases h : b = 0 <;> simp [h]
@[simp] theorem W_fdiv : Sat (oFdiv (.int a) (.int b) S) Q E = (divOk b = true ∧ Q (.int (a.fdiv b)) S) := by
  show Sat (if divOk b then .ok (.int (a.fdiv b)) S else .bad) Q E = _
  by_cases h : divOk b = true <;> simp [h]
@[simp] theorem W_pow : Sat (oPow (.int a) (.int b) S) Q E = (powOk a b = true ∧ Q (.int (a ^ b.toNat)) S) := by
  show Sat (if powOk a b then .ok (.int (a ^ b.toNat)) S else .bad) Q E = _
  by_cases h : powOk a b = true <;> simp [h]
@[simp] theorem W_idxT {xs : List D} : Sat (oIdx (.tup xs) (.int a) S) Q E = ∃ v, L2.atI xs a = some v ∧ Q v S := by
  show Sat (match L2.atI xs a with | some v => .ok v S | none => .bad) Q E = _
  cases L2.atI xs a <;> simp
@[simp] theorem W_idxL {xs : List D} : Sat (oIdx (.lst xs) (.int a) S) Q E = ∃ v, L2.atI xs a = some v ∧ Q v S := by
  show Sat (match L2.atI xs a with | some v => .ok v S | none => .bad) Q E = _
  cases L2.atI xs a <;> simp
theorem W_idxR {p : Nat} : Sat (oIdx (.ref p) (.int a) S) Q E = ∃ xs v, S[p]? = some (.lst xs) ∧ L2.atI xs a = some v ∧ Q v S := by
  show Sat (match (asSq (.ref p) S).bind (L2.atI · a) with | some v => R.ok v S | none => .bad) Q E = _
  show Sat (match (match S[p]? with | some (.lst xs) => some xs | _ => none : Option (List D)).bind (L2.atI · a) with | some v => R.ok v S | none => .bad) Q E = _
  cases h : S[p]? with
  | none => simp
  | some o => cases o with
    | dead => simp
    | lst xs => simp; cases L2.atI xs a <;> simp
theorem W_chg {k : List D → Option (List D × D)} {p : Nat} : Sat (chg k (.ref p) S) Q E = ∃ xs ys r, S[p]? = some (.lst xs) ∧ k xs = some (ys, r) ∧ Q r (S.set p (.lst ys)) := by
  unfold chg
  dsimp only
  cases h : S[p]? with
  | none => simp
  | some o => cases o with
    | dead => simp
    | lst xs => dsimp only; cases h2 : k xs with
      | none => simp [h2]
      | some z => obtain ⟨ys, r⟩ := z; simp [h2]; exact ⟨fun h => ⟨_, _, ⟨rfl, rfl⟩, h⟩, fun ⟨_, _, ⟨a, b⟩, h⟩ => by subst a b; exact h⟩
end
/-! ### statements -/
/-- what is next, what is otherwise -/
def Sx (r : RS) (N : Env → Store → Prop) (O : RS → Prop) : Prop := match r with | .next e S => N e S | .bad => False | .ret d S => O (.ret d S) | .brk e S => O (.brk e S) | .cont e S => O (.cont e S) | .err c v e S => O (.err c v e S)
section
variable {f g h : Den} {gs hs : Dens} {e : Env} {S : Store} {t u : DenT} {F G : DenS} {Γ : Calls} {i j l : Nat} {N : Env → Store → Prop} {O : RS → Prop}
@[simp] theorem Sx_next : Sx (.next e S) N O = N e S := rfl
@[simp] theorem Sx_seq : Sx (sSeq F G e S) N O = Sx (F e S) (fun e1 S1 => Sx (G e1 S1) N O) O := by
  rw [sSeq_ap]; cases F e S <;> rfl
@[simp] theorem Sx_pass : Sx (sPass e S) N O = N e S := rfl
@[simp] theorem Sx_expr : Sx (sExpr f e S) N O = Sat (f e S) (fun _ S1 => N e S1) (fun c v S1 => O (.err c v e S1)) := by rw [sExpr_ap]; cases f e S <;> rfl
@[simp] theorem Sx_set : Sx (sSet i f e S) N O = Sat (f e S) (fun d S1 => N (e.set i (some d)) S1) (fun c v S1 => O (.err c v e S1)) := by rw [sSet_ap]; cases f e S <;> rfl
@[simp] theorem Sx_ret : Sx (sRet f e S) N O = Sat (f e S) (fun d S1 => O (.ret d S1)) (fun c v S1 => O (.err c v e S1)) := by rw [sRet_ap]; cases f e S <;> rfl
@[simp] theorem Sx_retN : Sx (sRetN e S) N O = O (.ret .non S) := rfl
@[simp] theorem Sx_brk : Sx (sBrk e S) N O = O (.brk e S) := rfl
@[simp] theorem Sx_cont : Sx (sCont e S) N O = O (.cont e S) := rfl
@[simp] theorem Sx_raise {c : Nat} : Sx (sRaise c f e S) N O = Sat (f e S) (fun d S1 => O (.err c d e S1)) (fun c v S1 => O (.err c v e S1)) := by rw [sRaise_ap]; cases f e S <;> rfl
@[simp] theorem Sx_if : Sx (sIf t F G e S) N O = Sat (t e S) (fun b S1 => Sx (if b = true then F e S1 else G e S1) N O) (fun c v S1 => O (.err c v e S1)) := by rw [sIf_ap]; cases t e S <;> rfl
@[simp] theorem Sx_ite {c : Prop} [Decidable c] {r r' : RS} : Sx (if c then r else r') N O = ((c → Sx r N O) ∧ (¬ c → Sx r' N O)) := by
  by_cases h : c <;> simp [h]
@[simp] theorem Sx_par : Sx (sPar i j f g e S) N O = Sat (f e S) (fun d S1 => Sat (g e S1) (fun d2 S2 => N ((e.set i (some d)).set j (some d2)) S2) (fun c v S1 => O (.err c v e S1))) (fun c v S1 => O (.err c v e S1)) := by
  rw [sPar_ap]; cases f e S with
  | ok d S1 => dsimp only [Sat_ok]; cases g e S1 <;> rfl
  | _ => rfl
@[simp] theorem Sx_par3 : Sx (sPar3 i j l f g h e S) N O = Sat (f e S) (fun d S1 => Sat (g e S1) (fun d2 S2 => Sat (h e S2) (fun d3 S3 => N (((e.set i (some d)).set j (some d2)).set l (some d3)) S3) (fun c v S1 => O (.err c v e S1))) (fun c v S1 => O (.err c v e S1))) (fun c v S1 => O (.err c v e S1)) := by
  unfold sPar3; cases f e S with
  | ok d S1 => dsimp only [Sat_ok]; cases g e S1 with
    | ok d2 S2 => dsimp only [Sat_ok]; cases h e S2 <;> rfl
    | _ => rfl
  | _ => rfl
@[simp] theorem Sx_asg {k : Tgt} : Sx (sAsg k f e S) N O = Sat (f e S) (fun d S1 => ∃ e1, k d e S1 = some e1 ∧ N e1 S1) (fun c v S1 => O (.err c v e S1)) := by
  rw [sAsg_ap]; cases f e S with
  | ok d S1 => dsimp only [Sat_ok]; cases k d e S1 <;> simp [Sx]
  | _ => rfl
@[simp] theorem Sx_for {gt : Tgt} {gi : DenI} : Sx (sFor gt gi F e S) N O = Sat (gi e S) (fun w S1 => Sx (forW gt F w.1 w.2 0 e S1) N O) (fun c v S1 => O (.err c v e S1)) := by
  unfold sFor; cases gi e S <;> rfl
def augK (i : Nat) (o : Int → Int → Int) (a : Option (Option D)) (b : D) (e : Env) (S : Store) : RS := match a, b with
  | some (some (.int a)), .int b => .next (e.set i (some (.int (o a b)))) S
  | _, _ => .bad
@[simp] theorem augK_i {o : Int → Int → Int} {a b : Int} : augK i o (some (some (.int a))) (.int b) e S = .next (e.set i (some (.int (o a b)))) S := rfl
theorem Sx_mono {r : RS} {N' : Env → Store → Prop} {O' : RS → Prop} (h : Sx r N O) (hn : ∀ e S, N e S → N' e S) (ho : ∀ r, O r → O' r) : Sx r N' O' := by
  cases r with
  | next e S => exact hn _ _ h
  | bad => exact h
  | _ => exact ho _ h
/-- where a body leads -/
def outK (Q : D → Store → Prop) (E : Nat → D → Store → Prop) : RS → Prop
  | .ret d S => Q d S | .err c v _ S => E c v S | _ => False
section
variable {Q : D → Store → Prop} {E : Nat → D → Store → Prop}
@[simp] theorem outK_ret {d : D} : outK Q E (.ret d S) = Q d S := rfl
@[simp] theorem outK_err {c : Nat} {v : D} : outK Q E (.err c v e S) = E c v S := rfl
@[simp] theorem outK_brk : outK Q E (.brk e S) = False := rfl
@[simp] theorem outK_cont : outK Q E (.cont e S) = False := rfl
theorem Sat_body {n : Nat} {args : List D} : Sat (runBody F n args S) Q E = Sx (F (args.map some ++ List.replicate (n - args.length) none) S) (fun _ S1 => Q .non S1) (outK Q E) := by
  unfold runBody; cases F (args.map some ++ List.replicate (n - args.length) none) S <;> rfl
/-- .. of a def that is tidied: what it lays down is let go -/
theorem tidy_body {n : Nat} {args : List D} {d : D} (h : Sat (runBody F n args S) (fun d' S' => d' = d ∧ noRef d = true ∧ ∃ T, S' = S ++ T) (fun _ _ _ => False)) : tidy S (runBody F n args S) = .ok d S := by
  cases q : runBody F n args S with
  | ok a S' =>
    rw [q] at h
    obtain ⟨rfl, hn, T, rfl⟩ := h
    exact tidy_no hn
  | err c v S' => rw [q] at h; exact h.elim
  | bad => rw [q] at h; exact h.elim
theorem tidy_bodyE {n : Nat} {args : List D} {c : Nat} {d : D} (h : Sat (runBody F n args S) (fun _ _ => False) (fun c' d' S' => c' = c ∧ d' = d ∧ noRef d = true ∧ ∃ T, S' = S ++ T)) : tidy S (runBody F n args S) = .err c d S := by
  cases q : runBody F n args S with
  | err c' a S' =>
    rw [q] at h
    obtain ⟨rfl, rfl, hn, T, rfl⟩ := h
    exact tidy_noErr hn
  | ok v S' => rw [q] at h; exact h.elim
  | bad => rw [q] at h; exact h.elim
end
/-! loops -/
def loopK (I N : Env → Store → Prop) (O : RS → Prop) : RS → Prop
  | .cont e S => I e S | .brk e S => N e S | .ret d S => O (.ret d S) | .err c v e S => O (.err c v e S) | _ => False
section
variable {I : Env → Store → Prop}
@[simp] theorem loopK_ret {d : D} : loopK I N O (.ret d S) = O (.ret d S) := rfl
@[simp] theorem loopK_err {c : Nat} {v : D} : loopK I N O (.err c v e S) = O (.err c v e S) := rfl
@[simp] theorem loopK_brk : loopK I N O (.brk e S) = N e S := rfl
@[simp] theorem loopK_cont : loopK I N O (.cont e S) = I e S := rfl
end
theorem forL_wp {gt : Tgt} {xs : List D} (I : Nat → Env → Store → Prop)
    (step : ∀ i x e S, xs[i]? = some x → I i e S → ∃ e1, gt x e S = some e1 ∧ Sx (F e1 S) (I (i + 1)) (loopK (I (i + 1)) N O))
    (fin : ∀ e S, I xs.length e S → N e S) : ∀ (f i : Nat), i + f = xs.length → ∀ e S, I i e S → Sx (forW gt F (wkL xs) f i e S) N O
  | 0, i, hi, e, S, h => by
    have hn : xs[i]? = none := List.getElem?_eq_none (by omega)
    unfold forW
    simp only [wkL, hn]
    exact fin e S (by have : i = xs.length := by omega
                      rw [← this]; exact h)
  | f + 1, i, hi, e, S, h => by
    have hl : i < xs.length := by omega
    have hx : xs[i]? = some xs[i] := List.getElem?_eq_getElem hl
    obtain ⟨e1, hg, hb⟩ := step i _ e S hx h
    unfold forW
    simp only [wkL, hx, hg]
    cases q : F e1 S with
    | next e2 S2 => rw [q] at hb; exact forL_wp I step fin f (i + 1) (by omega) _ _ hb
    | cont e2 S2 => rw [q] at hb; exact forL_wp I step fin f (i + 1) (by omega) _ _ hb
    | brk e2 S2 => rw [q] at hb; exact hb
    | ret d S2 => rw [q] at hb; exact hb
    | err c v e2 S2 => rw [q] at hb; exact hb
    | bad => rw [q] at hb; exact hb.elim
theorem Sx_forL {gt : Tgt} {xs : List D} (I : Nat → Env → Store → Prop) (h0 : I 0 e S)
    (step : ∀ i x e S, xs[i]? = some x → I i e S → ∃ e1, gt x e S = some e1 ∧ Sx (F e1 S) (I (i + 1)) (loopK (I (i + 1)) N O))
    (fin : ∀ e S, I xs.length e S → N e S) : Sx (forW gt F (wkL xs) xs.length 0 e S) N O := forL_wp I step fin xs.length 0 (by omega) e S h0
/-- for k in range(n) -/
theorem Sx_rng {k : Nat} {m : Int} (n : Nat) (hn : m.toNat = n) (I : Nat → Env → Store → Prop) (h0 : I 0 e S)
    (step : ∀ i e S, i < n → I i e S → Sx (F (e.set k (some (.int (i : Nat)))) S) (I (i + 1)) (loopK (I (i + 1)) N O))
    (fin : ∀ e S, I n e S → N e S) : Sx (forW (gNm k) F (wkL (intsD 0 m.toNat)) (intsD 0 m.toNat).length 0 e S) N O := by
  refine Sx_forL I h0 (fun i x e S hx h => ?_) (fun e S h => ?_)
  · obtain ⟨hi, rfl⟩ := intsD_at hx
    rw [Int.zero_add]
    exact ⟨_, rfl, step i e S (by omega) h⟩
  · rw [intsD_length, hn] at h
    exact fin e S h
/-- for k in range(a, b) -/
theorem Sx_rng2 {k : Nat} {a m : Int} (n : Nat) (hn : m.toNat = n) (I : Nat → Env → Store → Prop) (h0 : I 0 e S)
    (step : ∀ i e S, i < n → I i e S → Sx (F (e.set k (some (.int (a + (i : Nat))))) S) (I (i + 1)) (loopK (I (i + 1)) N O))
    (fin : ∀ e S, I n e S → N e S) : Sx (forW (gNm k) F (wkL (intsD a m.toNat)) (intsD a m.toNat).length 0 e S) N O := by
  refine Sx_forL I h0 (fun i x e S hx h => ?_) (fun e S h => ?_)
  · obtain ⟨hi, rfl⟩ := intsD_at hx
    exact ⟨_, rfl, step i e S (by omega) h⟩
  · rw [intsD_length, hn] at h
    exact fin e S h
/-- a list of the store that stays as it is -/
theorem Sx_forR {gt : Tgt} {xs : List D} {p : Nat} (I : Nat → Env → Store → Prop) (h0 : I 0 e S) (hS : ∀ i e S, I i e S → S[p]? = some (.lst xs))
    (step : ∀ i x e S, xs[i]? = some x → I i e S → ∃ e1, gt x e S = some e1 ∧ Sx (F e1 S) (I (i + 1)) (loopK (I (i + 1)) N O))
    (fin : ∀ e S, I xs.length e S → N e S) : Sx (forW gt F (wkR p) xs.length 0 e S) N O := by
  have go : ∀ (f i : Nat), i + f = xs.length → ∀ e S, I i e S → Sx (forW gt F (wkR p) f i e S) N O := by
    intro f
    induction f with
    | zero =>
      intro i hi e S h
      have hs := hS i e S h
      have hn : xs[i]? = none := List.getElem?_eq_none (by omega)
      unfold forW
      simp only [wkR, hs, hn]
      exact fin e S (by have : i = xs.length := by omega
                        rw [← this]; exact h)
    | succ f ih =>
      intro i hi e S h
      have hs := hS i e S h
      have hl : i < xs.length := by omega
      have hx : xs[i]? = some xs[i] := List.getElem?_eq_getElem hl
      obtain ⟨e1, hg, hb⟩ := step i _ e S hx h
      unfold forW
      simp only [wkR, hs, hx, hg]
      cases q : F e1 S with
      | next e2 S2 => rw [q] at hb; exact ih (i + 1) (by omega) _ _ hb
      | cont e2 S2 => rw [q] at hb; exact ih (i + 1) (by omega) _ _ hb
      | brk e2 S2 => rw [q] at hb; exact hb
      | ret d S2 => rw [q] at hb; exact hb
      | err c v e2 S2 => rw [q] at hb; exact hb
      | bad => rw [q] at hb; exact hb.elim
  exact go xs.length 0 (by omega) e S h0
/-- while: by a measure -/
theorem Sx_while (I : Nat → Env → Store → Prop) (n : Nat) (h0 : I n e S)
    (step : ∀ m e S, I m e S → Sat (t e S) (fun b S1 => if b = true then Sx (F e S1) (fun e2 S2 => ∃ m', m' < m ∧ I m' e2 S2) (loopK (fun e2 S2 => ∃ m', m' < m ∧ I m' e2 S2) N O) else N e S1) (fun c v S1 => O (.err c v e S1))) :
    Sx (sWhile t F e S) N O := by
  induction n using Nat.strongRecOn generalizing e S with
  | ind n ih =>
    have st := step n e S h0
    rw [sWhile_eq]
    cases ht : t e S with
    | bad => rw [ht] at st; exact st.elim
    | err c v S1 => rw [ht] at st; exact st
    | ok b S1 =>
      rw [ht] at st
      cases b with
      | false => exact st
      | true =>
        have st2 : Sx (F e S1) (fun e2 S2 => ∃ m', m' < n ∧ I m' e2 S2) (loopK (fun e2 S2 => ∃ m', m' < n ∧ I m' e2 S2) N O) := st
        dsimp only
        cases q : F e S1 with
        | next e2 S2 => rw [q] at st2; obtain ⟨m', hm, hI⟩ := st2; exact ih m' hm hI
        | cont e2 S2 => rw [q] at st2; obtain ⟨m', hm, hI⟩ := st2; exact ih m' hm hI
        | brk e2 S2 => rw [q] at st2; exact st2
        | ret d S2 => rw [q] at st2; exact st2
        | err c v e2 S2 => rw [q] at st2; exact st2
        | bad => rw [q] at st2; exact st2.elim
end
/-! what is walked -/
section
variable {f g : Den} {e : Env} {S : Store} {E : Nat → D → Store → Prop} {Q : Walk × Nat → Store → Prop} {a b : Int}
def rngK (d : D) (S : Store) : R (Walk × Nat) := match d with | .int j => if inR j then .ok (wkL (intsD 0 j.toNat), (intsD 0 j.toNat).length) S else .bad | _ => .bad
@[simp] theorem W_rng1 : Sat (dRng1 f e S) Q E = Sat (f e S) (fun d S1 => Sat (rngK d S1) Q E) E := by
  show Sat ((f e S).bind fun d S1 => rngK d S1) Q E = _
  rw [Sat_bind]
@[simp] theorem rngK_i : Sat (rngK (.int a) S) Q E = (inR a = true ∧ Q (wkL (intsD 0 a.toNat), (intsD 0 a.toNat).length) S) := by
  show Sat (if inR a then .ok (wkL (intsD 0 a.toNat), (intsD 0 a.toNat).length) S else .bad) Q E = _
  by_cases h : inR a = true <;> simp [h]
def rngK2 (d d2 : D) (S : Store) : R (Walk × Nat) := match d, d2 with | .int i, .int j => if inR i && inR j then .ok (wkL (intsD i (j - i).toNat), (intsD i (j - i).toNat).length) S else .bad | _, _ => .bad
@[simp] theorem W_rng2 : Sat (dRng2 f g e S) Q E = Sat (f e S) (fun d S1 => Sat (g e S1) (fun d2 S2 => Sat (rngK2 d d2 S2) Q E) E) E := by
  show Sat ((f e S).bind fun d S1 => (g e S1).bind fun d2 S2 => rngK2 d d2 S2) Q E = _
  simp only [Sat_bind]
@[simp] theorem rngK2_i : Sat (rngK2 (.int a) (.int b) S) Q E = ((inR a = true ∧ inR b = true) ∧ Q (wkL (intsD a (b - a).toNat), (intsD a (b - a).toNat).length) S) := by
  show Sat (if inR a && inR b then .ok (wkL (intsD a (b - a).toNat), (intsD a (b - a).toNat).length) S else .bad) Q E = _
  by_cases h : (inR a && inR b) = true
  · simp [h]; exact fun _ => by simpa using h
  · simp [h]; intro h1 h2; simp [h1, h2] at h
def seqK (d : D) (S1 : Store) : R (Walk × Nat) := match d with
  | .tup xs => .ok (wkL xs, xs.length) S1
  | .lst xs => .ok (wkL xs, xs.length) S1
  | .fls is => .ok (wkL (is.map .int), is.length) S1
  | .ref n => (match S1[n]? with | some (.lst xs) => .ok (wkR n, xs.length) S1 | _ => .bad)
  | _ => .bad
@[simp] theorem W_seq : Sat (dSeq f e S) Q E = Sat (f e S) (fun d S1 => Sat (seqK d S1) Q E) E := by
  show Sat ((f e S).bind fun d S1 => seqK d S1) Q E = _
  rw [Sat_bind]
@[simp] theorem seqK_t {xs : List D} : seqK (.tup xs) S = .ok (wkL xs, xs.length) S := rfl
@[simp] theorem seqK_l {xs : List D} : seqK (.lst xs) S = .ok (wkL xs, xs.length) S := rfl
theorem wkE_P {xs : List D} : wkE (wkL xs) = wkL (enumP xs) := wkE_L xs
def enumK (d : D) (S1 : Store) : R (Walk × Nat) := optR (lsA d S1) fun w => .ok (wkE w.1, w.2) S1
@[simp] theorem W_enumA : Sat (dEnumA f e S) Q E = Sat (f e S) (fun d S1 => Sat (enumK d S1) Q E) E := by
  show Sat ((f e S).bind fun d S1 => enumK d S1) Q E = _
  rw [Sat_bind]
@[simp] theorem enumK_t {xs : List D} : enumK (.tup xs) S = .ok (wkL (enumP xs), (enumP xs).length) S := by
  show R.ok (wkE (wkL xs), xs.length) S = _
  rw [wkE_P]; unfold enumP; rw [List.length_mapIdx]
@[simp] theorem enumK_l {xs : List D} : enumK (.lst xs) S = .ok (wkL (enumP xs), (enumP xs).length) S := by
  show R.ok (wkE (wkL xs), xs.length) S = _
  rw [wkE_P]; unfold enumP; rw [List.length_mapIdx]
@[simp] theorem W_zip2 : Sat (dZip2 f g e S) Q E = Sat (f e S) (fun d S1 => Sat (g e S1) (fun d2 S2 => Sat (optR (zipW d d2 S2) fun w => .ok w S2) Q E) E) E := by
  show Sat ((f e S).bind fun a S1 => (g e S1).bind fun b S2 => optR (zipW a b S2) fun w => .ok w S2) Q E = _
  simp only [Sat_bind]
end
theorem inR_nat {n : Nat} (h : n < 1000000000) : inR (n : Int) = true := by
  unfold inR
  rw [Bool.and_eq_true]
  exact ⟨decide_eq_true (by omega), decide_eq_true (by omega)⟩
theorem inR_of {a : Int} (h : -1000000000 < a) (h2 : a < 1000000000) : inR a = true := by
  unfold inR
  rw [Bool.and_eq_true]
  exact ⟨decide_eq_true (by omega), decide_eq_true (by omega)⟩
theorem lt_1000 {a : Int} {j : Nat} (ha : a.natAbs ≤ 2 ^ j) (h : j < 1000) : a.natAbs < 2 ^ 1000 := Nat.lt_of_le_of_lt ha (Nat.pow_lt_pow_right (by decide) h)
theorem mulB {a b : Int} {j k : Nat} (ha : a.natAbs ≤ 2 ^ j) (hb : b.natAbs ≤ 2 ^ k) (h : j < 1000) (h' : k < 1000) : mulOk a b = true := mulOk_small (lt_1000 ha h) (lt_1000 hb h')
/-! ### a comprehension that may draw -/
theorem tidy_lst {S S' : Store} {acc : List D} (hl : S'.length = S.length + 1) (hS : S'[S.length]? = some (.lst acc)) (hn : noRefL acc = true) (hO : Old S S') : tidy S (.ok (.ref S.length) S') = .ok (.lst acc) (S'.take S.length) := by
  have hr : res S.length S' (.ref S.length) = some (.lst acc) := by
    unfold res mapR resN
    rw [if_neg (Nat.lt_irrefl _), hS]
    dsimp only
    rw [mapRL_no hn]
    rfl
  unfold tidy
  simp only [if_neg (show ¬ S'.length ≤ S.length by omega), hr, if_pos hO]
theorem lcW_wp {gt : Tgt} {t : DenT} {f : Den} {e0 : Env} {n0 : Nat} {xs : List D} {E : Nat → D → Store → Prop} {N : Store → Prop} (I : Nat → List D → Store → Prop)
    (step : ∀ i x acc S, xs[i]? = some x → I i acc S → ∃ e1, gt x e0 S = some e1 ∧ Sat (t e1 S) (fun b S1 => if b = true then Sat (f e1 S1) (fun d S2 => S2[n0]? = some (.lst acc) ∧ acc.length < sizeLine ∧ I (i + 1) (acc ++ [d]) (S2.set n0 (.lst (acc ++ [d])))) (fun _ _ _ => False) else I (i + 1) acc S1) (fun _ _ _ => False))
    (fin : ∀ acc S, I xs.length acc S → N S) : ∀ (k i : Nat), i + k = xs.length → ∀ acc S, I i acc S → Sat (lcW gt t f (wkL xs) e0 n0 k i S) (fun _ S' => N S') E
  | 0, i, hi, acc, S, h => by
    have hn : xs[i]? = none := List.getElem?_eq_none (by omega)
    unfold lcW
    simp only [wkL, hn]
    exact fin acc S (by have : i = xs.length := by omega
                        rw [← this]; exact h)
  | k + 1, i, hi, acc, S, h => by
    have hl : i < xs.length := by omega
    have hx : xs[i]? = some xs[i] := List.getElem?_eq_getElem hl
    obtain ⟨e1, hg, hb⟩ := step i _ acc S hx h
    unfold lcW
    simp only [wkL, hx, hg]
    cases q : t e1 S with
    | bad => rw [q] at hb; exact hb.elim
    | err c v S1 => rw [q] at hb; exact hb.elim
    | ok b S1 =>
      rw [q] at hb
      cases b with
      | false => exact lcW_wp I step fin k (i + 1) (by omega) acc S1 hb
      | true =>
        dsimp only
        have hb2 : Sat (f e1 S1) (fun d S2 => S2[n0]? = some (.lst acc) ∧ acc.length < sizeLine ∧ I (i + 1) (acc ++ [d]) (S2.set n0 (.lst (acc ++ [d])))) (fun _ _ _ => False) := hb
        cases q2 : f e1 S1 with
        | bad => rw [q2] at hb2; exact hb2.elim
        | err c v S2 => rw [q2] at hb2; exact hb2.elim
        | ok d S2 =>
          rw [q2] at hb2
          obtain ⟨h1, h2, h3⟩ := hb2
          dsimp only
          rw [h1]
          dsimp only
          rw [if_pos h2]
          exact lcW_wp I step fin k (i + 1) (by omega) _ _ h3
/-- the row is a value at its end -/
theorem Sat_lc {vs : List Nat} {gi : DenI} {gt : Tgt} {t : DenT} {f : Den} {e : Env} {S S1 : Store} {xs : List D} {E : Nat → D → Store → Prop} {Q : D → Store → Prop} (hgi : gi e S = .ok (wkL xs, xs.length) S1)
    (I : Nat → List D → Store → Prop) (h0 : I 0 [] (S1 ++ [.lst []]))
    (step : ∀ i x acc S, xs[i]? = some x → I i acc S → ∃ e1, gt x (wipeE e vs) S = some e1 ∧ Sat (t e1 S) (fun b S2 => if b = true then Sat (f e1 S2) (fun d S3 => S3[S1.length]? = some (.lst acc) ∧ acc.length < sizeLine ∧ I (i + 1) (acc ++ [d]) (S3.set S1.length (.lst (acc ++ [d])))) (fun _ _ _ => False) else I (i + 1) acc S2) (fun _ _ _ => False))
    (fin : ∀ acc S', I xs.length acc S' → S'.length = S1.length + 1 ∧ S'[S1.length]? = some (.lst acc) ∧ noRefL acc = true ∧ Old S1 S' ∧ Q (.lst acc) (S'.take S1.length)) : Sat (eLc vs gi gt t f e S) Q E := by
  unfold eLc
  rw [hgi]
  show Sat (tidy S1 ((lcW gt t f (wkL xs) (wipeE e vs) S1.length xs.length 0 (S1 ++ [.lst []])).bind fun _ S2 => .ok (.ref S1.length) S2)) Q E
  have h := lcW_wp (E := fun _ _ _ => False) (N := fun S' => ∃ acc, S'.length = S1.length + 1 ∧ S'[S1.length]? = some (.lst acc) ∧ noRefL acc = true ∧ Old S1 S' ∧ Q (.lst acc) (S'.take S1.length)) I step (fun acc S' h => ⟨acc, fin acc S' h⟩) xs.length 0 (by omega) [] _ h0
  cases q : lcW gt t f (wkL xs) (wipeE e vs) S1.length xs.length 0 (S1 ++ [.lst []]) with
  | bad => rw [q] at h; exact h.elim
  | err c v S2 => rw [q] at h; exact h.elim
  | ok u S2 =>
    rw [q] at h
    obtain ⟨acc, h1, h2, h3, h4, h5⟩ := h
    show Sat (tidy S1 (.ok (.ref S1.length) S2)) Q E
    rw [tidy_lst h1 h2 h3 h4]
    exact h5

noncomputable def lcK (vs : List Nat) (gt : Tgt) (t : DenT) (f : Den) (e : Env) (w : Walk × Nat) (S1 : Store) : R D :=
  tidy S1 ((lcW gt t f w.1 (wipeE e vs) S1.length w.2 0 (S1 ++ [.lst []])).bind fun _ S2 => .ok (.ref S1.length) S2)
theorem W_lc {vs : List Nat} {gi : DenI} {gt : Tgt} {t : DenT} {f : Den} {e : Env} {S : Store} {E : Nat → D → Store → Prop} {Q : D → Store → Prop} :
    Sat (eLc vs gi gt t f e S) Q E = Sat (gi e S) (fun w S1 => Sat (lcK vs gt t f e w S1) Q E) E := by
  show Sat ((gi e S).bind fun w S1 => lcK vs gt t f e w S1) Q E = _
  rw [Sat_bind]
theorem Sat_lcK {vs : List Nat} {gt : Tgt} {t : DenT} {f : Den} {e : Env} {S1 : Store} {xs : List D} {E : Nat → D → Store → Prop} {Q : D → Store → Prop}
    (I : Nat → List D → Store → Prop) (h0 : I 0 [] (S1 ++ [.lst []]))
    (step : ∀ i x acc S, xs[i]? = some x → I i acc S → ∃ e1, gt x (wipeE e vs) S = some e1 ∧ Sat (t e1 S) (fun b S2 => if b = true then Sat (f e1 S2) (fun d S3 => S3[S1.length]? = some (.lst acc) ∧ acc.length < sizeLine ∧ I (i + 1) (acc ++ [d]) (S3.set S1.length (.lst (acc ++ [d])))) (fun _ _ _ => False) else I (i + 1) acc S2) (fun _ _ _ => False))
    (fin : ∀ acc S', I xs.length acc S' → S'.length = S1.length + 1 ∧ S'[S1.length]? = some (.lst acc) ∧ noRefL acc = true ∧ Old S1 S' ∧ Q (.lst acc) (S'.take S1.length)) : Sat (lcK vs gt t f e (wkL xs, xs.length) S1) Q E := by
  have := Sat_lc (vs := vs) (gi := fun _ S => .ok (wkL xs, xs.length) S) (gt := gt) (t := t) (f := f) (e := e) (S := S1) (E := E) (Q := Q) rfl I h0 step fin
  rw [W_lc] at this
  exact this
/-- .. that changes nothing: what each item becomes -/
theorem Sat_lcP {vs : List Nat} {gt : Tgt} {f : Den} {e : Env} {S1 : Store} {xs : List D} {E : Nat → D → Store → Prop} {Q : D → Store → Prop} (φ : D → D)
    (hs : ∀ x ∈ xs, ∀ S', (∃ T, S' = S1 ++ T) → ∃ e1, gt x (wipeE e vs) S' = some e1 ∧ Sat (f e1 S') (fun d S2 => d = φ x ∧ S2 = S') (fun _ _ _ => False)) (hn : ∀ x ∈ xs, noRef (φ x) = true) (hl : xs.length ≤ sizeLine)
    (fin : Q (.lst (xs.map φ)) S1) : Sat (lcK vs gt tYesD f e (wkL xs, xs.length) S1) Q E := by
  refine Sat_lcK (fun i acc S' => acc = (xs.take i).map φ ∧ S' = S1 ++ [.lst acc]) ⟨rfl, rfl⟩ ?_ ?_
  · rintro i x acc S' hx ⟨rfl, rfl⟩
    have hi := (List.getElem?_eq_some_iff.mp hx).1
    have hxi := (List.getElem?_eq_some_iff.mp hx).2
    obtain ⟨e1, h1, h2⟩ := hs x (by rw [← hxi]; exact List.getElem_mem hi) (S1 ++ [.lst ((xs.take i).map φ)]) ⟨_, rfl⟩
    refine ⟨e1, h1, ?_⟩
    show Sat (f e1 _) _ _
    refine Sat_use0 h2 ?_
    rintro d S2 ⟨rfl, rfl⟩
    refine ⟨by rw [List.getElem?_append_right (Nat.le_refl _), Nat.sub_self]; rfl, by rw [List.length_map, List.length_take]; omega, ?_, ?_⟩
    · rw [List.take_succ_eq_append_getElem hi, List.map_append, hxi]; rfl
    · rw [List.set_append_right _ _ (Nat.le_refl _), Nat.sub_self]; rfl
  · rintro acc S' ⟨rfl, rfl⟩
    rw [List.take_length]
    refine ⟨by rw [List.length_append]; rfl, by rw [List.getElem?_append_right (Nat.le_refl _), Nat.sub_self]; rfl, noRefL_map hn, Old.refl _ _, ?_⟩
    rw [List.take_left]
    exact fin
theorem noRefL_ints {l : List Int} : noRefL (l.map D.int) = true := noRefL_pure (pure_ints l)
theorem Pot.old {S S' : Store} {p : Nat} (hP : Pot S' p) (h : ∀ k, k < S.length → k ≠ p → S'[k]? = S[k]?) : Old S S' := by
  intro k hk
  by_cases hkp : k = p
  · subst hkp
    obtain ⟨a, b, c, cs, g, _⟩ := hP
    exact .inr ⟨_, g, mapRL_no (noRefL_ints (l := a :: b :: c :: cs))⟩
  · exact .inl (h k hk hkp)
theorem Pot.take {S' : Store} {p m : Nat} (hP : Pot S' p) (h : p < m) : Pot (S'.take m) p := hP.same (by rw [List.getElem?_take_of_lt h])
theorem noRefL_app : ∀ {xs ys : List D}, noRefL xs = true → noRefL ys = true → noRefL (xs ++ ys) = true
  | [], _, _, h => h
  | x :: xs, ys, h1, h2 => by
    unfold noRefL at h1
    rw [Bool.and_eq_true] at h1
    rw [List.cons_append]
    unfold noRefL
    rw [h1.1, noRefL_app h1.2 h2]
    rfl
/-- .. whose items are drawn -/
theorem Sat_draw {vs : List Nat} {gt : Tgt} {f : Den} {e : Env} {S1 : Store} {xs : List D} {p : Nat} {E : Nat → D → Store → Prop} {Q : D → Store → Prop} (R : Nat → D → D → Prop) (hP : Pot S1 p)
    (step : ∀ i x S, xs[i]? = some x → Pot S p → ∃ e1, gt x (wipeE e vs) S = some e1 ∧ Sat (f e1 S) (fun d S' => Pot S' p ∧ Fr1 S S' p ∧ noRef d = true ∧ R i x d) (fun _ _ _ => False))
    (hl : xs.length ≤ sizeLine)
    (fin : ∀ ds S', ds.length = xs.length → (∀ i x d, xs[i]? = some x → ds[i]? = some d → R i x d) → noRefL ds = true → Pot S' p → Fr1 S1 S' p → Q (.lst ds) S') : Sat (lcK vs gt tYesD f e (wkL xs, xs.length) S1) Q E := by
  have hp := hP.lt
  refine Sat_lcK (fun i acc S' => acc.length = i ∧ i ≤ xs.length ∧ (∀ j x d, xs[j]? = some x → acc[j]? = some d → R j x d) ∧ noRefL acc = true ∧ Pot S' p ∧ S'.length = S1.length + 1 ∧ S'[S1.length]? = some (.lst acc) ∧ ∀ k, k < S1.length → k ≠ p → S'[k]? = S1[k]?) ⟨rfl, Nat.zero_le _, fun j x d _ h => (by cases h), rfl, hP.app, by rw [List.length_append]; rfl, by rw [List.getElem?_append_right (Nat.le_refl _), Nat.sub_self]; rfl, fun k hk _ => List.getElem?_append_left hk⟩ ?_ ?_
  · rintro i x acc S' hx ⟨h1, h1', h2, h3, h4, h5, h6, h7⟩
    have hi := (List.getElem?_eq_some_iff.mp hx).1
    obtain ⟨e1, g1, g2⟩ := step i x S' hx h4
    refine ⟨e1, g1, ?_⟩
    show Sat (f e1 _) _ _
    refine Sat_use0 g2 ?_
    rintro d S2 ⟨P2, F2, nd, hR⟩
    have q6 : S2[S1.length]? = some (.lst acc) := (F2.2 _ (by omega)).trans h6
    have hlen : S2.length = S1.length + 1 := F2.1.trans h5
    refine ⟨q6, by omega, by rw [List.length_append, List.length_singleton]; omega, by omega, ?_, noRefL_app h3 (by unfold noRefL; rw [nd]; rfl), P2.same (List.getElem?_set_ne (by omega)), by rw [List.length_set]; exact hlen, List.getElem?_set_self (by omega), fun k hk hkp => ?_⟩
    · intro j x' d' hj hd
      by_cases hji : j < i
      · rw [List.getElem?_append_left (by omega)] at hd
        exact h2 j x' d' hj hd
      · by_cases hj2 : j = i
        · subst hj2
          rw [List.getElem?_append_right (by omega), h1, Nat.sub_self] at hd
          cases hd
          rw [hx] at hj
          cases hj
          exact hR
        · rw [List.getElem?_eq_none (by rw [List.length_append, List.length_singleton]; omega)] at hd
          cases hd
    · rw [List.getElem?_set_ne (by omega), F2.2 k hkp, h7 k hk hkp]
  · rintro acc S' ⟨h1, h1', h2, h3, h4, h5, h6, h7⟩
    refine ⟨h5, h6, h3, h4.old h7, fin acc _ h1 h2 h3 (h4.take hp) ⟨by rw [List.length_take]; omega, fun k hk => ?_⟩⟩
    by_cases hkl : k < S1.length
    · rw [List.getElem?_take_of_lt hkl, h7 k hkl hk]
    · rw [List.getElem?_eq_none (by rw [List.length_take]; omega), List.getElem?_eq_none (by omega)]
/-- _law_take -/
def Tk (Γ : Calls) (i : Nat) : Prop := ∀ {S : Store} {p : Nat} {m : Int}, Pot S p → 0 < m → m.natAbs < 2 ^ 1000 → Sat (Γ i [.ref p, .int m] S) (fun d S' => ∃ v : Int, d = .int v ∧ 0 ≤ v ∧ v < m ∧ Pot S' p ∧ Fr1 S S' p) (fun _ _ _ => False)
theorem tk_of {Γ : Calls} {i : Nat} (h : ∀ args S, Γ i args S = tidy S (runBody takeD 5 args S)) : Tk Γ i := fun {S p m} hP h0 h1 => by
  obtain ⟨v, S', hr, v0, v1, P', F'⟩ := take_body hP h0 h1
  rw [h, hr, tidy_same F'.1]
  exact ⟨v, rfl, v0, v1, P', F'⟩
theorem Sat_tidy {r : R D} {S : Store} {Q : D → Store → Prop} {E : Nat → D → Store → Prop} (h : Sat r (fun d S' => S'.length = S.length ∧ Q d S') (fun _ _ _ => False)) : Sat (tidy S r) Q E := by
  cases r with
  | ok a S' => obtain ⟨h1, h2⟩ := h; rw [tidy_same h1]; exact h2
  | err c v S' => exact h.elim
  | bad => exact h.elim
end Py

set_option maxHeartbeats 4000000
namespace K04
open PySem PySem.Spec PyProof.Rows L2 Py
/-! the text of the row: its tops -/
def top (i : Nat) : Stmt := PySem.Challenge.pw_wholerates_k04_whole_sums_products_power.main.body.getD i (.Pass ⟨0, 0, 0, 0⟩)
abbrev anc : Anc := [[0], [1, 0], [2, 0], [3, 0]]
abbrev csN : List Str := [(PySem.Str.ofString "WorthError"), (PySem.Str.ofString "InvalidNumber"), (PySem.Str.ofString "InvalidPolynomial"), (PySem.Str.ofString "InvalidInteger")]
abbrev ca (K : PySem.W.Frag) (c : Nat) : Addr := He.ga K (csN.getD c Str.empty)
/-! ### what each def does -/
/-- is_integer -/
noncomputable def d0 (Γ : Calls) : DenS :=
  (sRet (eAnd (eIsi anc [(.ty .int)] (eVar 0)) (eNot (eIsi anc [(.ty .bool)] (eVar 0)))))
abbrev N0 : List Str := [(PySem.Str.ofString "value")]
abbrev P0 : List Str := [(PySem.Str.ofString "value")]
/-- lowest -/
noncomputable def d1 (Γ : Calls) : DenS :=
  (sSeq (sSet 2 (eFn oGcd (dCons (eVar 0) (dCons (eVar 1) dNil))))
    (sSeq (sIf (tVal (eBin oLt (eVar 1) (eC (.int 0))))
    (sSet 2 (eUn oNeg (eVar 2)))
    sPass)
    (sRet (eTup (dCons (eBin oFdiv (eVar 0) (eVar 2)) (dCons (eBin oFdiv (eVar 1) (eVar 2)) dNil))))))
abbrev N1 : List Str := [(PySem.Str.ofString "top"), (PySem.Str.ofString "bottom"), (PySem.Str.ofString "common")]
abbrev P1 : List Str := [(PySem.Str.ofString "top"), (PySem.Str.ofString "bottom")]
/-- is_number -/
noncomputable def d2 (Γ : Calls) : DenS :=
  (sSeq (sIf (tOr (tNot (tVal (eIsi anc [(.ty .tuple)] (eVar 0)))) (tOr (tVal (eBin oNe (eFn oLen (dCons (eVar 0) dNil)) (eC (.int 2)))) (tNot (tVal (eFn oAll (dCons (eLc [1] (dSeq (eVar 0)) (gNm 1) tYesD (eCall Γ 0 (dCons (eVar 1) dNil))) dNil))))))
    (sRet (eC (.bl false)))
    sPass)
    (sRet (eAnd (eBin oGt (eBin oIdx (eVar 0) (eC (.int 1))) (eC (.int 0))) (eBin oEq (eFn oGcd (dCons (eBin oIdx (eVar 0) (eC (.int 0))) (dCons (eBin oIdx (eVar 0) (eC (.int 1))) dNil))) (eC (.int 1))))))
abbrev N2 : List Str := [(PySem.Str.ofString "told"), (PySem.Str.ofString "a")]
abbrev P2 : List Str := [(PySem.Str.ofString "told")]
/-- check_number -/
noncomputable def d3 (Γ : Calls) : DenS :=
  (sIf (tNot (tVal (eCall Γ 2 (dCons (eVar 0) dNil))))
    (sRaise 1 (eVar 0))
    sPass)
abbrev N3 : List Str := [(PySem.Str.ofString "told")]
abbrev P3 : List Str := [(PySem.Str.ofString "told")]
/-- check_integer -/
noncomputable def d4 (Γ : Calls) : DenS :=
  (sIf (tOr (tNot (tVal (eCall Γ 0 (dCons (eVar 0) dNil)))) (tAnd (tVal (eUn oNotN (eVar 1))) (tVal (eBin oLt (eVar 0) (eVar 1)))))
    (sRaise 3 (eVar 0))
    sPass)
abbrev N4 : List Str := [(PySem.Str.ofString "told"), (PySem.Str.ofString "least")]
abbrev P4 : List Str := [(PySem.Str.ofString "told"), (PySem.Str.ofString "least")]
/-- is_polynomial -/
noncomputable def d5 (Γ : Calls) : DenS :=
  (sSeq (sIf (tOr (tNot (tVal (eIsi anc [(.ty .tuple)] (eVar 0)))) (tNot (tVal (eFn oAll (dCons (eLc [1] (dSeq (eVar 0)) (gNm 1) tYesD (eCall Γ 0 (dCons (eVar 1) dNil))) dNil)))))
    (sRet (eC (.bl false)))
    sPass)
    (sRet (eOr (eBin oEq (eVar 0) (eTup dNil)) (eBin oNe (eBin oIdx (eVar 0) (eC (.int 0))) (eC (.int 0))))))
abbrev N5 : List Str := [(PySem.Str.ofString "told"), (PySem.Str.ofString "a")]
abbrev P5 : List Str := [(PySem.Str.ofString "told")]
/-- check_polynomial -/
noncomputable def d6 (Γ : Calls) : DenS :=
  (sIf (tNot (tVal (eCall Γ 5 (dCons (eVar 0) dNil))))
    (sRaise 2 (eVar 0))
    sPass)
abbrev N6 : List Str := [(PySem.Str.ofString "f")]
abbrev P6 : List Str := [(PySem.Str.ofString "f")]
/-- stripped -/
noncomputable def d7 (Γ : Calls) : DenS :=
  (sSeq (sSet 2 (eC (.int 0)))
    (sSeq (sWhile (tAnd (tVal (eBin oLt (eVar 2) (eFn oLen (dCons (eVar 0) dNil)))) (tVal (eBin oEq (eBin oIdx (eVar 0) (eVar 2)) (eVar 1))))
    (sSet 2 (eBin oCat (eVar 2) (eC (.int 1)))))
    (sRet (eFn oTuple (dCons (eSl (eVar 0) (oPart (eVar 2)) oNo) dNil)))))
abbrev N7 : List Str := [(PySem.Str.ofString "row"), (PySem.Str.ofString "nought"), (PySem.Str.ofString "at")]
abbrev P7 : List Str := [(PySem.Str.ofString "row"), (PySem.Str.ofString "nought")]
/-- value_of -/
noncomputable def d8 (Γ : Calls) : DenS :=
  (sSeq (sAsg (gTup ((gNm 2) :: ((gNm 3) :: []))) (eTup (dCons (eC (.int 0)) (dCons (eC (.int 1)) dNil))))
    (sSeq (sFor (gTup ((gNm 4) :: ((gNm 5) :: []))) (dEnumA (eVar 0))
    (sSeq (sSet 3 (eIf (tVal (eBin oGt (eVar 4) (eC (.int 0)))) (eBin oRep (eVar 3) (eBin oIdx (eVar 1) (eC (.int 1)))) (eC (.int 1))))
    (sSet 2 (eBin oCat (eBin oRep (eVar 2) (eBin oIdx (eVar 1) (eC (.int 0)))) (eBin oRep (eVar 5) (eVar 3))))))
    (sRet (eCall Γ 1 (dCons (eVar 2) (dCons (eVar 3) dNil))))))
abbrev N8 : List Str := [(PySem.Str.ofString "f"), (PySem.Str.ofString "x"), (PySem.Str.ofString "total"), (PySem.Str.ofString "bottom"), (PySem.Str.ofString "at"), (PySem.Str.ofString "a")]
abbrev P8 : List Str := [(PySem.Str.ofString "f"), (PySem.Str.ofString "x")]
/-- value -/
noncomputable def d9 (Γ : Calls) : DenS :=
  (sSeq (sExpr (eCall Γ 6 (dCons (eVar 0) dNil)))
    (sSeq (sExpr (eCall Γ 3 (dCons (eVar 1) dNil)))
    (sRet (eCall Γ 8 (dCons (eVar 0) (dCons (eVar 1) dNil))))))
abbrev N9 : List Str := [(PySem.Str.ofString "f"), (PySem.Str.ofString "x")]
abbrev P9 : List Str := [(PySem.Str.ofString "f"), (PySem.Str.ofString "x")]
/-- padded -/
noncomputable def d10 (Γ : Calls) : DenS :=
  (sRet (eBin oCat (eBin oRepA (eTup (dCons (eVar 2) dNil)) (eBin oSub (eVar 1) (eFn oLen (dCons (eVar 0) dNil)))) (eFn oTuple (dCons (eVar 0) dNil))))
abbrev N10 : List Str := [(PySem.Str.ofString "row"), (PySem.Str.ofString "many"), (PySem.Str.ofString "nought")]
abbrev P10 : List Str := [(PySem.Str.ofString "row"), (PySem.Str.ofString "many"), (PySem.Str.ofString "nought")]
/-- sum_of -/
noncomputable def d11 (Γ : Calls) : DenS :=
  (sSeq (sSet 2 (eFn oMax2 (dCons (eFn oLen (dCons (eVar 0) dNil)) (dCons (eFn oLen (dCons (eVar 1) dNil)) dNil))))
    (sRet (eCall Γ 7 (dCons (eLc [3, 4] (dZip2 (eCall Γ 10 (dCons (eVar 0) (dCons (eVar 2) (dCons (eC (.int 0)) dNil)))) (eCall Γ 10 (dCons (eVar 1) (dCons (eVar 2) (dCons (eC (.int 0)) dNil))))) (gTup ((gNm 3) :: ((gNm 4) :: []))) tYesD (eBin oCat (eVar 3) (eVar 4))) (dCons (eC (.int 0)) dNil)))))
abbrev N11 : List Str := [(PySem.Str.ofString "f"), (PySem.Str.ofString "g"), (PySem.Str.ofString "many"), (PySem.Str.ofString "a"), (PySem.Str.ofString "b")]
abbrev P11 : List Str := [(PySem.Str.ofString "f"), (PySem.Str.ofString "g")]
/-- times_of_two -/
noncomputable def d12 (Γ : Calls) : DenS :=
  (sSeq (sSet 2 (eNew (dRep (eLst (dCons (eC (.int 0)) dNil)) (eFn oMax2 (dCons (eC (.int 0)) (dCons (eBin oSub (eBin oCat (eFn oLen (dCons (eVar 0) dNil)) (eFn oLen (dCons (eVar 1) dNil))) (eC (.int 1))) dNil))))))
    (sSeq (sFor (gTup ((gNm 3) :: ((gNm 4) :: []))) (dEnumA (eVar 0))
    (sFor (gTup ((gNm 5) :: ((gNm 6) :: []))) (dEnumA (eVar 1))
    (sExpr (eSetI (eBin oCat (eBin oIdx (eVar 2) (eBin oCat (eVar 3) (eVar 5))) (eBin oRep (eVar 4) (eVar 6))) (eVar 2) (eBin oCat (eVar 3) (eVar 5))))))
    (sRet (eIf (tAnd (tVal (eBin oNe (eVar 0) (eTup dNil))) (tVal (eBin oNe (eVar 1) (eTup dNil)))) (eFn oTuple (dCons (eVar 2) dNil)) (eTup dNil)))))
abbrev N12 : List Str := [(PySem.Str.ofString "f"), (PySem.Str.ofString "g"), (PySem.Str.ofString "found"), (PySem.Str.ofString "at"), (PySem.Str.ofString "a"), (PySem.Str.ofString "place"), (PySem.Str.ofString "b")]
abbrev P12 : List Str := [(PySem.Str.ofString "f"), (PySem.Str.ofString "g")]
/-- scaled_by -/
noncomputable def d13 (Γ : Calls) : DenS :=
  (sRet (eIf (tVal (eBin oNe (eVar 1) (eC (.int 0)))) (eFn oTuple (dCons (eLc [2] (dSeq (eVar 0)) (gNm 2) tYesD (eBin oRep (eVar 1) (eVar 2))) dNil)) (eTup dNil)))
abbrev N13 : List Str := [(PySem.Str.ofString "f"), (PySem.Str.ofString "k"), (PySem.Str.ofString "a")]
abbrev P13 : List Str := [(PySem.Str.ofString "f"), (PySem.Str.ofString "k")]
/-- plus -/
noncomputable def d14 (Γ : Calls) : DenS :=
  (sSeq (sExpr (eCall Γ 6 (dCons (eVar 0) dNil)))
    (sSeq (sExpr (eCall Γ 6 (dCons (eVar 1) dNil)))
    (sRet (eCall Γ 11 (dCons (eVar 0) (dCons (eVar 1) dNil))))))
abbrev N14 : List Str := [(PySem.Str.ofString "f"), (PySem.Str.ofString "g")]
abbrev P14 : List Str := [(PySem.Str.ofString "f"), (PySem.Str.ofString "g")]
/-- times -/
noncomputable def d15 (Γ : Calls) : DenS :=
  (sSeq (sExpr (eCall Γ 6 (dCons (eVar 0) dNil)))
    (sSeq (sExpr (eCall Γ 6 (dCons (eVar 1) dNil)))
    (sRet (eCall Γ 12 (dCons (eVar 0) (dCons (eVar 1) dNil))))))
abbrev N15 : List Str := [(PySem.Str.ofString "f"), (PySem.Str.ofString "g")]
abbrev P15 : List Str := [(PySem.Str.ofString "f"), (PySem.Str.ofString "g")]
/-- scaled -/
noncomputable def d16 (Γ : Calls) : DenS :=
  (sSeq (sExpr (eCall Γ 6 (dCons (eVar 0) dNil)))
    (sSeq (sExpr (eCall Γ 4 (dCons (eVar 1) (dCons (eC .non) dNil))))
    (sRet (eCall Γ 13 (dCons (eVar 0) (dCons (eVar 1) dNil))))))
abbrev N16 : List Str := [(PySem.Str.ofString "f"), (PySem.Str.ofString "k")]
abbrev P16 : List Str := [(PySem.Str.ofString "f"), (PySem.Str.ofString "k")]
/-- power -/
noncomputable def d17 (Γ : Calls) : DenS :=
  (sSeq (sExpr (eCall Γ 6 (dCons (eVar 0) dNil)))
    (sSeq (sExpr (eCall Γ 4 (dCons (eVar 1) (dCons (eC (.int 0)) dNil))))
    (sSeq (sIf (tVal (eBin oGt (eVar 1) (eC (.int 6))))
    (sRaise 3 (eVar 1))
    sPass)
    (sSeq (sSet 2 (eTup (dCons (eC (.int 1)) dNil)))
    (sSeq (sFor (gNm 3) (dRng1 (eVar 1))
    (sSet 2 (eCall Γ 12 (dCons (eVar 2) (dCons (eVar 0) dNil)))))
    (sRet (eVar 2)))))))
abbrev N17 : List Str := [(PySem.Str.ofString "f"), (PySem.Str.ofString "k"), (PySem.Str.ofString "found"), (PySem.Str.ofString "turn")]
abbrev P17 : List Str := [(PySem.Str.ofString "f"), (PySem.Str.ofString "k")]
/-- _law_take -/
noncomputable def d18 (Γ : Calls) : DenS :=
  (sSeq (sIf (tAnd (tVal (eBin oEq (eBin oIdx (eVar 0) (eC (.int 0))) (eC (.int 0)))) (tVal (eBin oLt (eBin oIdx (eVar 0) (eC (.int 2))) (eFn oLen (dCons (eVar 0) dNil)))))
    (sSeq (sSet 2 (eBin oIdx (eVar 0) (eBin oIdx (eVar 0) (eC (.int 2)))))
    (sSeq (sExpr (eAugI (eVar 0) (eC (.int 2)) (fun i j => i + j) (eC (.int 1))))
    (sIf (tVal (eBin oGe (eVar 2) (eBin oPow (eC (.int 10)) (eC (.int 18)))))
    (sExpr (eSetI (eBin oSub (eVar 2) (eBin oPow (eC (.int 10)) (eC (.int 18)))) (eVar 0) (eC (.int 0))))
    (sSeq (sSet 3 (eBin oMod (eFn oInt (dCons (eVar 2) dNil)) (eC (.int 2147483647))))
    (sSeq (sSet 3 (eBin oMod (eFn oInt (dCons (eBin oCat (eBin oCat (eBin oRep (eVar 3) (eVar 3)) (eBin oRep (eC (.int 69621)) (eVar 3))) (eBin oRep (eC (.int 977)) (eBin oIdx (eVar 0) (eC (.int 2))))) dNil)) (eC (.int 2147483629))))
    (sExpr (eSetI (eBin oMod (eFn oInt (dCons (eBin oCat (eBin oIdx (eVar 0) (eC (.int 1))) (eVar 3)) dNil)) (eC (.int 2147483629))) (eVar 0) (eC (.int 1)))))))))
    sPass)
    (sSeq (sIf (tVal (eBin oGt (eBin oIdx (eVar 0) (eC (.int 0))) (eC (.int 0))))
    (sSeq (sSet 4 (eBin oMod (eFn oInt (dCons (eBin oIdx (eVar 0) (eC (.int 0))) dNil)) (eVar 1)))
    (sSeq (sExpr (eSetI (eBin oFdiv (eBin oIdx (eVar 0) (eC (.int 0))) (eVar 1)) (eVar 0) (eC (.int 0))))
    (sRet (eVar 4))))
    sPass)
    (sSeq (sExpr (eSetI (eBin oMod (eFn oInt (dCons (eBin oCat (eBin oCat (eBin oRep (eBin oIdx (eVar 0) (eC (.int 1))) (eC (.int 48271))) (eBin oRep (eC (.int 40692)) (eBin oIdx (eVar 0) (eC (.int 2))))) (eC (.int 11))) dNil)) (eC (.int 2147483647))) (eVar 0) (eC (.int 1))))
    (sSeq (sExpr (eSetI (eBin oMod (eFn oInt (dCons (eBin oCat (eBin oRep (eBin oIdx (eVar 0) (eC (.int 1))) (eBin oIdx (eVar 0) (eC (.int 1)))) (eC (.int 7))) dNil)) (eC (.int 2147483629))) (eVar 0) (eC (.int 1))))
    (sRet (eBin oMod (eFn oInt (dCons (eBin oFdiv (eBin oIdx (eVar 0) (eC (.int 1))) (eC (.int 8))) dNil)) (eVar 1)))))))
abbrev N18 : List Str := [(PySem.Str.ofString "pot"), (PySem.Str.ofString "many"), (PySem.Str.ofString "cell"), (PySem.Str.ofString "mixed"), (PySem.Str.ofString "drawn_now")]
abbrev P18 : List Str := [(PySem.Str.ofString "pot"), (PySem.Str.ofString "many")]
/-- _law_same -/
noncomputable def d19 (Γ : Calls) : DenS :=
  (sSeq (sIf (tVal (eUn oIsN (eVar 1)))
    (sRet (eUn oIsN (eVar 0)))
    sPass)
    (sSeq (sIf (tVal (eIsi anc [(.ty .bool), (.ty .str)] (eVar 1)))
    (sRet (eAnd (eBin oEq (eIsi anc [(.ty .bool)] (eVar 0)) (eIsi anc [(.ty .bool)] (eVar 1))) (eAnd (eIsi anc [(.ty .bool), (.ty .str)] (eVar 0)) (eBin oEq (eVar 0) (eVar 1)))))
    sPass)
    (sSeq (sIf (tVal (eIsi anc [(.ty .int)] (eVar 1)))
    (sRet (eAnd (eIsi anc [(.ty .int)] (eVar 0)) (eAnd (eNot (eIsi anc [(.ty .bool)] (eVar 0))) (eBin oEq (eVar 0) (eVar 1)))))
    sPass)
    (sSeq (sIf (tOr (tVal (eBin oNe (eIsi anc [(.ty .list)] (eVar 1)) (eIsi anc [(.ty .list)] (eVar 0)))) (tVal (eBin oNe (eIsi anc [(.ty .tuple)] (eVar 1)) (eIsi anc [(.ty .tuple)] (eVar 0)))))
    (sRet (eC (.bl false)))
    sPass)
    (sRet (eAnd (eBin oEq (eFn oLen (dCons (eVar 0) dNil)) (eFn oLen (dCons (eVar 1) dNil))) (eFn oAll (dCons (eLc [2] (dRng1 (eFn oLen (dCons (eVar 1) dNil))) (gNm 2) tYesD (eCall Γ 19 (dCons (eBin oIdx (eVar 0) (eVar 2)) (dCons (eBin oIdx (eVar 1) (eVar 2)) dNil)))) dNil))))))))
abbrev N19 : List Str := [(PySem.Str.ofString "got"), (PySem.Str.ofString "due"), (PySem.Str.ofString "k")]
abbrev P19 : List Str := [(PySem.Str.ofString "got"), (PySem.Str.ofString "due")]
/-- _law_low -/
noncomputable def d20 (Γ : Calls) : DenS :=
  (sSeq (sPar 2 3 (eFn oAbs (dCons (eVar 0) dNil)) (eFn oAbs (dCons (eVar 1) dNil)))
    (sSeq (sFor (gNm 4) (dRng1 (eC (.int 100000)))
    (sSeq (sIf (tVal (eBin oEq (eVar 3) (eC (.int 0))))
    sBrk
    sPass)
    (sPar 2 3 (eVar 3) (eBin oMod (eFn oInt (dCons (eVar 2) dNil)) (eVar 3)))))
    (sSeq (sSet 5 (eIf (tVal (eBin oGt (eVar 1) (eC (.int 0)))) (eC (.int 1)) (eUn oNeg (eC (.int 1)))))
    (sRet (eTup (dCons (eBin oFdiv (eBin oRep (eVar 5) (eVar 0)) (eVar 2)) (dCons (eBin oFdiv (eBin oRep (eVar 5) (eVar 1)) (eVar 2)) dNil)))))))
abbrev N20 : List Str := [(PySem.Str.ofString "top"), (PySem.Str.ofString "bottom"), (PySem.Str.ofString "one"), (PySem.Str.ofString "other"), (PySem.Str.ofString "turn"), (PySem.Str.ofString "sign")]
abbrev P20 : List Str := [(PySem.Str.ofString "top"), (PySem.Str.ofString "bottom")]
/-- _law_plus -/
noncomputable def d21 (Γ : Calls) : DenS :=
  (sRet (eCall Γ 20 (dCons (eBin oCat (eBin oRep (eBin oIdx (eVar 0) (eC (.int 0))) (eBin oIdx (eVar 1) (eC (.int 1)))) (eBin oRep (eBin oIdx (eVar 1) (eC (.int 0))) (eBin oIdx (eVar 0) (eC (.int 1))))) (dCons (eBin oRep (eBin oIdx (eVar 0) (eC (.int 1))) (eBin oIdx (eVar 1) (eC (.int 1)))) dNil))))
abbrev N21 : List Str := [(PySem.Str.ofString "a"), (PySem.Str.ofString "b")]
abbrev P21 : List Str := [(PySem.Str.ofString "a"), (PySem.Str.ofString "b")]
/-- _law_times -/
noncomputable def d22 (Γ : Calls) : DenS :=
  (sRet (eCall Γ 20 (dCons (eBin oRep (eBin oIdx (eVar 0) (eC (.int 0))) (eBin oIdx (eVar 1) (eC (.int 0)))) (dCons (eBin oRep (eBin oIdx (eVar 0) (eC (.int 1))) (eBin oIdx (eVar 1) (eC (.int 1)))) dNil))))
abbrev N22 : List Str := [(PySem.Str.ofString "a"), (PySem.Str.ofString "b")]
abbrev P22 : List Str := [(PySem.Str.ofString "a"), (PySem.Str.ofString "b")]
/-- _law_dot -/
noncomputable def d23 (Γ : Calls) : DenS :=
  (sSeq (sSet 2 (eTup (dCons (eC (.int 0)) (dCons (eC (.int 1)) dNil))))
    (sSeq (sFor (gTup ((gNm 3) :: ((gNm 4) :: []))) (dZip2 (eVar 0) (eVar 1))
    (sIf (tAnd (tVal (eBin oNe (eBin oIdx (eVar 3) (eC (.int 0))) (eC (.int 0)))) (tVal (eBin oNe (eBin oIdx (eVar 4) (eC (.int 0))) (eC (.int 0)))))
    (sSet 2 (eCall Γ 21 (dCons (eVar 2) (dCons (eCall Γ 22 (dCons (eVar 3) (dCons (eVar 4) dNil))) dNil))))
    sPass))
    (sRet (eVar 2))))
abbrev N23 : List Str := [(PySem.Str.ofString "one"), (PySem.Str.ofString "other"), (PySem.Str.ofString "total"), (PySem.Str.ofString "a"), (PySem.Str.ofString "b")]
abbrev P23 : List Str := [(PySem.Str.ofString "one"), (PySem.Str.ofString "other")]
/-- _law_trim -/
noncomputable def d24 (Γ : Calls) : DenS :=
  (sSeq (sSet 1 (eC (.int 0)))
    (sSeq (sWhile (tAnd (tVal (eBin oLt (eVar 1) (eFn oLen (dCons (eVar 0) dNil)))) (tVal (eBin oInT (eBin oIdx (eVar 0) (eVar 1)) (eTup (dCons (eC (.int 0)) (dCons (eTup (dCons (eC (.int 0)) (dCons (eC (.int 1)) dNil))) dNil))))))
    (sSet 1 (eBin oCat (eVar 1) (eC (.int 1)))))
    (sRet (eFn oTuple (dCons (eSl (eVar 0) (oPart (eVar 1)) oNo) dNil)))))
abbrev N24 : List Str := [(PySem.Str.ofString "row"), (PySem.Str.ofString "at_now")]
abbrev P24 : List Str := [(PySem.Str.ofString "row")]
/-- _law_sum -/
noncomputable def d25 (Γ : Calls) : DenS :=
  (sSeq (sSet 2 (eFn oMax2 (dCons (eFn oLen (dCons (eVar 0) dNil)) (dCons (eFn oLen (dCons (eVar 1) dNil)) dNil))))
    (sSeq (sPar 3 4 (eBin oCat (eBin oRep (eLst (dCons (eC (.int 0)) dNil)) (eBin oSub (eVar 2) (eFn oLen (dCons (eVar 0) dNil)))) (eLst (dFn oList (dCons (eVar 0) dNil)))) (eBin oCat (eBin oRep (eLst (dCons (eC (.int 0)) dNil)) (eBin oSub (eVar 2) (eFn oLen (dCons (eVar 1) dNil)))) (eLst (dFn oList (dCons (eVar 1) dNil)))))
    (sRet (eCall Γ 24 (dCons (eLc [5, 6] (dZip2 (eVar 3) (eVar 4)) (gTup ((gNm 5) :: ((gNm 6) :: []))) tYesD (eBin oCat (eVar 5) (eVar 6))) dNil)))))
abbrev N25 : List Str := [(PySem.Str.ofString "f"), (PySem.Str.ofString "g"), (PySem.Str.ofString "many"), (PySem.Str.ofString "one"), (PySem.Str.ofString "other"), (PySem.Str.ofString "a"), (PySem.Str.ofString "b")]
abbrev P25 : List Str := [(PySem.Str.ofString "f"), (PySem.Str.ofString "g")]
/-- _law_product -/
noncomputable def d26 (Γ : Calls) : DenS :=
  (sSeq (sIf (tOr (tVal (eBin oEq (eVar 0) (eTup dNil))) (tVal (eBin oEq (eVar 1) (eTup dNil))))
    (sRet (eTup dNil))
    sPass)
    (sSeq (sSet 2 (eNew (dRep (eLst (dCons (eC (.int 0)) dNil)) (eBin oSub (eBin oCat (eFn oLen (dCons (eVar 0) dNil)) (eFn oLen (dCons (eVar 1) dNil))) (eC (.int 1))))))
    (sSeq (sFor (gNm 3) (dRng1 (eFn oLen (dCons (eVar 0) dNil)))
    (sFor (gNm 4) (dRng1 (eFn oLen (dCons (eVar 1) dNil)))
    (sExpr (eSetI (eBin oCat (eBin oIdx (eVar 2) (eBin oCat (eVar 3) (eVar 4))) (eBin oRep (eBin oIdx (eVar 0) (eVar 3)) (eBin oIdx (eVar 1) (eVar 4)))) (eVar 2) (eBin oCat (eVar 3) (eVar 4))))))
    (sRet (eFn oTuple (dCons (eVar 2) dNil))))))
abbrev N26 : List Str := [(PySem.Str.ofString "f"), (PySem.Str.ofString "g"), (PySem.Str.ofString "found"), (PySem.Str.ofString "i"), (PySem.Str.ofString "j")]
abbrev P26 : List Str := [(PySem.Str.ofString "f"), (PySem.Str.ofString "g")]
/-- _law_at -/
noncomputable def d27 (Γ : Calls) : DenS :=
  (sSeq (sAsg (gTup ((gNm 2) :: ((gNm 3) :: ((gNm 4) :: ((gNm 5) :: []))))) (eTup (dCons (eBin oIdx (eVar 1) (eC (.int 0))) (dCons (eBin oIdx (eVar 1) (eC (.int 1))) (dCons (eC (.int 0)) (dCons (eBin oSub (eFn oLen (dCons (eVar 0) dNil)) (eC (.int 1))) dNil))))))
    (sSeq (sFor (gNm 6) (dRng1 (eFn oLen (dCons (eVar 0) dNil)))
    (sSeq (sSet 7 (eBin oIdx (eVar 0) (eVar 6)))
    (sSeq (sFor (gNm 8) (dRng1 (eBin oSub (eVar 5) (eVar 6)))
    (sSet 7 (eBin oRep (eVar 7) (eVar 2))))
    (sSeq (sFor (gNm 8) (dRng1 (eVar 6))
    (sSet 7 (eBin oRep (eVar 7) (eVar 3))))
    (sSet 4 (eBin oCat (eVar 4) (eVar 7)))))))
    (sSeq (sSet 9 (eC (.int 1)))
    (sSeq (sFor (gNm 8) (dRng1 (eFn oMax2 (dCons (eC (.int 0)) (dCons (eVar 5) dNil))))
    (sSet 9 (eBin oRep (eVar 9) (eVar 3))))
    (sRet (eCall Γ 20 (dCons (eVar 4) (dCons (eVar 9) dNil))))))))
abbrev N27 : List Str := [(PySem.Str.ofString "f"), (PySem.Str.ofString "x"), (PySem.Str.ofString "top"), (PySem.Str.ofString "bottom"), (PySem.Str.ofString "total"), (PySem.Str.ofString "n"), (PySem.Str.ofString "k"), (PySem.Str.ofString "part"), (PySem.Str.ofString "turn"), (PySem.Str.ofString "under")]
abbrev P27 : List Str := [(PySem.Str.ofString "f"), (PySem.Str.ofString "x")]
/-- _law_polynomial -/
noncomputable def d28 (Γ : Calls) : DenS :=
  (sSeq (sIf (tVal (eBin oEq (eCall Γ 18 (dCons (eVar 0) (dCons (eC (.int 14)) dNil))) (eC (.int 0))))
    (sRet (eTup dNil))
    sPass)
    (sSeq (sSet 3 (eLc [4] (dRng1 (eBin oCat (eC (.int 1)) (eCall Γ 18 (dCons (eVar 0) (dCons (eBin oCat (eVar 1) (eC (.int 1))) dNil))))) (gNm 4) tYesD (eBin oSub (eCall Γ 18 (dCons (eVar 0) (dCons (eBin oCat (eBin oRep (eC (.int 2)) (eVar 2)) (eC (.int 1))) dNil))) (eVar 2))))
    (sSeq (sSet 3 (eLc [5] (dSeq (eVar 3)) (gNm 5) tYesD (eIf (tVal (eBin oGt (eCall Γ 18 (dCons (eVar 0) (dCons (eC (.int 4)) dNil))) (eC (.int 0)))) (eVar 5) (eC (.int 0)))))
    (sRet (eIf (tVal (eBin oNe (eCall Γ 24 (dCons (eVar 3) dNil)) (eTup dNil))) (eCall Γ 24 (dCons (eVar 3) dNil)) (eTup (dCons (eBin oCat (eC (.int 1)) (eCall Γ 18 (dCons (eVar 0) (dCons (eVar 2) dNil)))) dNil)))))))
abbrev N28 : List Str := [(PySem.Str.ofString "pot"), (PySem.Str.ofString "most"), (PySem.Str.ofString "far"), (PySem.Str.ofString "row"), (PySem.Str.ofString "k"), (PySem.Str.ofString "a")]
abbrev P28 : List Str := [(PySem.Str.ofString "pot"), (PySem.Str.ofString "most"), (PySem.Str.ofString "far")]
/-- _law_drawn -/
noncomputable def d29 (Γ : Calls) : DenS :=
  (sRet (eCall Γ 20 (dCons (eBin oSub (eCall Γ 18 (dCons (eVar 0) (dCons (eBin oCat (eBin oRep (eC (.int 2)) (eVar 1)) (eC (.int 1))) dNil))) (eVar 1)) (dCons (eBin oCat (eC (.int 1)) (eCall Γ 18 (dCons (eVar 0) (dCons (eBin oIdx (eLst (dCons (eC (.int 1)) (dCons (eC (.int 4)) (dCons (eVar 1) dNil)))) (eCall Γ 18 (dCons (eVar 0) (dCons (eC (.int 3)) dNil)))) dNil)))) dNil))))
abbrev N29 : List Str := [(PySem.Str.ofString "pot"), (PySem.Str.ofString "far")]
abbrev P29 : List Str := [(PySem.Str.ofString "pot"), (PySem.Str.ofString "far")]
/-- _law_far -/
noncomputable def d30 (Γ : Calls) : DenS :=
  (sRet (eCall Γ 28 (dCons (eVar 0) (dCons (eC (.int 8)) (dCons (eBin oIdx (eLst (dCons (eC (.int 3)) (dCons (eC (.int 20)) (dCons (eBin oPow (eC (.int 10)) (eC (.int 30))) dNil)))) (eCall Γ 18 (dCons (eVar 0) (dCons (eC (.int 3)) dNil)))) dNil)))))
abbrev N30 : List Str := [(PySem.Str.ofString "pot")]
abbrev P30 : List Str := [(PySem.Str.ofString "pot")]
/-- _law_right -/
noncomputable def d31 (Γ : Calls) : DenS :=
  (sSeq (sAsg (gTup ((gNm 4) :: ((gNm 5) :: []))) (eTup (dCons (eBin oSub (eCall Γ 18 (dCons (eVar 0) (dCons (eC (.int 41)) dNil))) (eC (.int 20))) (dCons (eCall Γ 18 (dCons (eVar 0) (dCons (eIf (tVal (eBin oLt (eFn oLen (dCons (eVar 1) dNil)) (eC (.int 4)))) (eC (.int 7)) (eC (.int 3))) dNil))) dNil))))
    (sSeq (sSet 6 (eLst (dCons (eCall Γ 25 (dCons (eVar 1) (dCons (eVar 2) dNil))) (dCons (eCall Γ 26 (dCons (eVar 1) (dCons (eVar 2) dNil))) (dCons (eIf (tVal (eBin oNe (eVar 4) (eC (.int 0)))) (eFn oTuple (dCons (eLc [12] (dSeq (eVar 1)) (gNm 12) tYesD (eBin oRep (eVar 4) (eVar 12))) dNil)) (eTup dNil)) dNil)))))
    (sSeq (sSet 7 (eLst (dCons (eCall Γ 14 (dCons (eVar 1) (dCons (eVar 2) dNil))) (dCons (eCall Γ 15 (dCons (eVar 1) (dCons (eVar 2) dNil))) (dCons (eCall Γ 16 (dCons (eVar 1) (dCons (eVar 4) dNil))) dNil)))))
    (sSeq (sIf (tOr (tNot (tVal (eCall Γ 19 (dCons (eVar 7) (dCons (eVar 6) dNil))))) (tNot (tVal (eCall Γ 19 (dCons (eLst (dCons (eCallP Γ 14 [1, 0] dNil (dCons (eVar 2) (dCons (eVar 1) dNil))) (dCons (eCallP Γ 15 [1, 0] dNil (dCons (eVar 2) (dCons (eVar 1) dNil))) (dCons (eCallP Γ 16 [1, 0] dNil (dCons (eVar 4) (dCons (eVar 1) dNil))) dNil)))) (dCons (eVar 6) dNil))))))
    (sRet (eC (.bl false)))
    sPass)
    (sSeq (sSet 8 (eTup (dCons (eC (.int 1)) dNil)))
    (sSeq (sFor (gNm 9) (dRng1 (eVar 5))
    (sSet 8 (eCall Γ 26 (dCons (eVar 8) (dCons (eVar 1) dNil)))))
    (sSeq (sIf (tNot (tVal (eCall Γ 19 (dCons (eLst (dCons (eCall Γ 17 (dCons (eVar 1) (dCons (eVar 5) dNil))) (dCons (eCallP Γ 17 [1, 0] dNil (dCons (eVar 5) (dCons (eVar 1) dNil))) dNil))) (dCons (eLst (dCons (eVar 8) (dCons (eVar 8) dNil))) dNil)))))
    (sRet (eC (.bl false)))
    sPass)
    (sSeq (sSet 10 (eLst (dCons (eCall Γ 27 (dCons (eVar 1) (dCons (eVar 3) dNil))) (dCons (eCall Γ 27 (dCons (eVar 2) (dCons (eVar 3) dNil))) dNil))))
    (sSeq (sIf (tNot (tVal (eCall Γ 19 (dCons (eLst (dCons (eCall Γ 9 (dCons (eVar 1) (dCons (eVar 3) dNil))) (dCons (eCallP Γ 9 [1, 0] dNil (dCons (eVar 3) (dCons (eVar 2) dNil))) dNil))) (dCons (eVar 10) dNil)))))
    (sRet (eC (.bl false)))
    sPass)
    (sSeq (sSet 11 (eLst (dCons (eCall Γ 21 (dCons (eBin oIdx (eVar 10) (eC (.int 0))) (dCons (eBin oIdx (eVar 10) (eC (.int 1))) dNil))) (dCons (eCall Γ 22 (dCons (eBin oIdx (eVar 10) (eC (.int 0))) (dCons (eBin oIdx (eVar 10) (eC (.int 1))) dNil))) (dCons (eCall Γ 22 (dCons (eTup (dCons (eVar 4) (dCons (eC (.int 1)) dNil))) (dCons (eBin oIdx (eVar 10) (eC (.int 0))) dNil))) dNil)))))
    (sRet (eCall Γ 19 (dCons (eLst (dCons (eCall Γ 9 (dCons (eBin oIdx (eVar 7) (eC (.int 0))) (dCons (eVar 3) dNil))) (dCons (eCall Γ 9 (dCons (eBin oIdx (eVar 7) (eC (.int 1))) (dCons (eVar 3) dNil))) (dCons (eCall Γ 9 (dCons (eBin oIdx (eVar 7) (eC (.int 2))) (dCons (eVar 3) dNil))) dNil)))) (dCons (eVar 11) dNil))))))))))))))
abbrev N31 : List Str := [(PySem.Str.ofString "pot"), (PySem.Str.ofString "f"), (PySem.Str.ofString "g"), (PySem.Str.ofString "x"), (PySem.Str.ofString "k"), (PySem.Str.ofString "many"), (PySem.Str.ofString "due"), (PySem.Str.ofString "told"), (PySem.Str.ofString "found"), (PySem.Str.ofString "turn"), (PySem.Str.ofString "values"), (PySem.Str.ofString "both"), (PySem.Str.ofString "a")]
abbrev P31 : List Str := [(PySem.Str.ofString "pot"), (PySem.Str.ofString "f"), (PySem.Str.ofString "g"), (PySem.Str.ofString "x")]
/-- law -/
noncomputable def d32 (Γ : Calls) : DenS :=
  (sSeq (sSet 1 (eNew (dCat (eLst (dCons (eC (.int 0)) (dCons (eC (.int 7)) (dCons (eC (.int 3)) dNil)))) (eLst (dFn oList (dCons (eVar 0) dNil))))))
    (sSeq (sFor (gNm 2) (dRng1 (eC (.int 8)))
    (sIf (tNot (tVal (eCall Γ 31 (dCons (eVar 1) (dCons (eCall Γ 30 (dCons (eVar 1) dNil)) (dCons (eCall Γ 30 (dCons (eVar 1) dNil)) (dCons (eCall Γ 29 (dCons (eVar 1) (dCons (eBin oIdx (eLst (dCons (eC (.int 3)) (dCons (eC (.int 999)) dNil))) (eCall Γ 18 (dCons (eVar 1) (dCons (eC (.int 2)) dNil)))) dNil))) dNil)))))))
    (sRet (eC (.bl false)))
    sPass))
    (sRet (eC (.bl true)))))
abbrev N32 : List Str := [(PySem.Str.ofString "script"), (PySem.Str.ofString "pot"), (PySem.Str.ofString "turn")]
abbrev P32 : List Str := [(PySem.Str.ofString "script")]
/-! ### what is called -/
noncomputable def calls : Nat → Calls
  | 0 => fun _ _ _ => .bad
  | n + 1 => fun i => match i with
    | 0 => runTidy (d0 (calls n)) 1
    | 1 => runTidy (d1 (calls n)) 3
    | 2 => runTidy (d2 (calls n)) 2
    | 3 => runTidy (d3 (calls n)) 1
    | 4 => runTidy (d4 (calls n)) 2
    | 5 => runTidy (d5 (calls n)) 2
    | 6 => runTidy (d6 (calls n)) 1
    | 7 => runTidy (d7 (calls n)) 3
    | 8 => runTidy (d8 (calls n)) 6
    | 9 => runTidy (d9 (calls n)) 2
    | 10 => runTidy (d10 (calls n)) 3
    | 11 => runTidy (d11 (calls n)) 5
    | 12 => runTidy (d12 (calls n)) 7
    | 13 => runTidy (d13 (calls n)) 3
    | 14 => runTidy (d14 (calls n)) 2
    | 15 => runTidy (d15 (calls n)) 2
    | 16 => runTidy (d16 (calls n)) 2
    | 17 => runTidy (d17 (calls n)) 4
    | 18 => runTidy (d18 (calls n)) 5
    | 19 => runTidy (d19 (calls n)) 3
    | 20 => runTidy (d20 (calls n)) 6
    | 21 => runTidy (d21 (calls n)) 2
    | 22 => runTidy (d22 (calls n)) 2
    | 23 => runTidy (d23 (calls n)) 5
    | 24 => runTidy (d24 (calls n)) 2
    | 25 => runTidy (d25 (calls n)) 7
    | 26 => runTidy (d26 (calls n)) 5
    | 27 => runTidy (d27 (calls n)) 10
    | 28 => runTidy (d28 (calls n)) 6
    | 29 => runTidy (d29 (calls n)) 2
    | 30 => runTidy (d30 (calls n)) 1
    | 31 => runTidy (d31 (calls n)) 13
    | 32 => runTidy (d32 (calls n)) 3
    | _ => fun _ _ => .bad
/-! ### what the written part says -/
structure Ctx (K : PySem.W.Frag) (mg : Str → Option Value) where
  C : ClsOk K (ca K) anc
  fI : Addr
  fdI : FuncData
  ex : ∀ c, c < anc.length → ExcT K (ca K c) fI
  tI : PySem.W.typeIn K (.ref fI) = some (.type "function")
  FI : FunD K "__init__" "WorthError.__init__" (defArgs (clsM (top 2))) (defBody (clsM (top 2))) (defScope (clsM (top 2))) [] [] fI fdI
  fd0 : FuncData
  F0 : FunD K (PySem.Str.ofString "is_integer") (PySem.Str.ofString "is_integer") (defArgs (top 7)) (defBody (top 7)) (defScope (top 7)) [] [] (He.ga K (PySem.Str.ofString "is_integer")) fd0
  g_is_integer : mg (PySem.Str.ofString "is_integer") = some (.ref (He.ga K (PySem.Str.ofString "is_integer")))
  fd1 : FuncData
  F1 : FunD K (PySem.Str.ofString "lowest") (PySem.Str.ofString "lowest") (defArgs (top 8)) (defBody (top 8)) (defScope (top 8)) [] [] (He.ga K (PySem.Str.ofString "lowest")) fd1
  g_lowest : mg (PySem.Str.ofString "lowest") = some (.ref (He.ga K (PySem.Str.ofString "lowest")))
  fd2 : FuncData
  F2 : FunD K (PySem.Str.ofString "is_number") (PySem.Str.ofString "is_number") (defArgs (top 9)) (defBody (top 9)) (defScope (top 9)) [] [] (He.ga K (PySem.Str.ofString "is_number")) fd2
  g_is_number : mg (PySem.Str.ofString "is_number") = some (.ref (He.ga K (PySem.Str.ofString "is_number")))
  fd3 : FuncData
  F3 : FunD K (PySem.Str.ofString "check_number") (PySem.Str.ofString "check_number") (defArgs (top 10)) (defBody (top 10)) (defScope (top 10)) [] [] (He.ga K (PySem.Str.ofString "check_number")) fd3
  g_check_number : mg (PySem.Str.ofString "check_number") = some (.ref (He.ga K (PySem.Str.ofString "check_number")))
  fd4 : FuncData
  F4 : FunD K (PySem.Str.ofString "check_integer") (PySem.Str.ofString "check_integer") (defArgs (top 11)) (defBody (top 11)) (defScope (top 11)) [] [] (He.ga K (PySem.Str.ofString "check_integer")) fd4
  g_check_integer : mg (PySem.Str.ofString "check_integer") = some (.ref (He.ga K (PySem.Str.ofString "check_integer")))
  fd5 : FuncData
  F5 : FunD K (PySem.Str.ofString "is_polynomial") (PySem.Str.ofString "is_polynomial") (defArgs (top 13)) (defBody (top 13)) (defScope (top 13)) [] [] (He.ga K (PySem.Str.ofString "is_polynomial")) fd5
  g_is_polynomial : mg (PySem.Str.ofString "is_polynomial") = some (.ref (He.ga K (PySem.Str.ofString "is_polynomial")))
  fd6 : FuncData
  F6 : FunD K (PySem.Str.ofString "check_polynomial") (PySem.Str.ofString "check_polynomial") (defArgs (top 14)) (defBody (top 14)) (defScope (top 14)) [] [] (He.ga K (PySem.Str.ofString "check_polynomial")) fd6
  g_check_polynomial : mg (PySem.Str.ofString "check_polynomial") = some (.ref (He.ga K (PySem.Str.ofString "check_polynomial")))
  fd7 : FuncData
  F7 : FunD K (PySem.Str.ofString "stripped") (PySem.Str.ofString "stripped") (defArgs (top 15)) (defBody (top 15)) (defScope (top 15)) [] [] (He.ga K (PySem.Str.ofString "stripped")) fd7
  g_stripped : mg (PySem.Str.ofString "stripped") = some (.ref (He.ga K (PySem.Str.ofString "stripped")))
  fd8 : FuncData
  F8 : FunD K (PySem.Str.ofString "value_of") (PySem.Str.ofString "value_of") (defArgs (top 16)) (defBody (top 16)) (defScope (top 16)) [] [] (He.ga K (PySem.Str.ofString "value_of")) fd8
  g_value_of : mg (PySem.Str.ofString "value_of") = some (.ref (He.ga K (PySem.Str.ofString "value_of")))
  fd9 : FuncData
  F9 : FunD K (PySem.Str.ofString "value") (PySem.Str.ofString "value") (defArgs (top 17)) (defBody (top 17)) (defScope (top 17)) [] [] (He.ga K (PySem.Str.ofString "value")) fd9
  g_value : mg (PySem.Str.ofString "value") = some (.ref (He.ga K (PySem.Str.ofString "value")))
  fd10 : FuncData
  F10 : FunD K (PySem.Str.ofString "padded") (PySem.Str.ofString "padded") (defArgs (top 18)) (defBody (top 18)) (defScope (top 18)) [] [] (He.ga K (PySem.Str.ofString "padded")) fd10
  g_padded : mg (PySem.Str.ofString "padded") = some (.ref (He.ga K (PySem.Str.ofString "padded")))
  fd11 : FuncData
  F11 : FunD K (PySem.Str.ofString "sum_of") (PySem.Str.ofString "sum_of") (defArgs (top 19)) (defBody (top 19)) (defScope (top 19)) [] [] (He.ga K (PySem.Str.ofString "sum_of")) fd11
  g_sum_of : mg (PySem.Str.ofString "sum_of") = some (.ref (He.ga K (PySem.Str.ofString "sum_of")))
  fd12 : FuncData
  F12 : FunD K (PySem.Str.ofString "times_of_two") (PySem.Str.ofString "times_of_two") (defArgs (top 20)) (defBody (top 20)) (defScope (top 20)) [] [] (He.ga K (PySem.Str.ofString "times_of_two")) fd12
  g_times_of_two : mg (PySem.Str.ofString "times_of_two") = some (.ref (He.ga K (PySem.Str.ofString "times_of_two")))
  fd13 : FuncData
  F13 : FunD K (PySem.Str.ofString "scaled_by") (PySem.Str.ofString "scaled_by") (defArgs (top 21)) (defBody (top 21)) (defScope (top 21)) [] [] (He.ga K (PySem.Str.ofString "scaled_by")) fd13
  g_scaled_by : mg (PySem.Str.ofString "scaled_by") = some (.ref (He.ga K (PySem.Str.ofString "scaled_by")))
  fd14 : FuncData
  F14 : FunD K (PySem.Str.ofString "plus") (PySem.Str.ofString "plus") (defArgs (top 22)) (defBody (top 22)) (defScope (top 22)) [] [] (He.ga K (PySem.Str.ofString "plus")) fd14
  g_plus : mg (PySem.Str.ofString "plus") = some (.ref (He.ga K (PySem.Str.ofString "plus")))
  fd15 : FuncData
  F15 : FunD K (PySem.Str.ofString "times") (PySem.Str.ofString "times") (defArgs (top 23)) (defBody (top 23)) (defScope (top 23)) [] [] (He.ga K (PySem.Str.ofString "times")) fd15
  g_times : mg (PySem.Str.ofString "times") = some (.ref (He.ga K (PySem.Str.ofString "times")))
  fd16 : FuncData
  F16 : FunD K (PySem.Str.ofString "scaled") (PySem.Str.ofString "scaled") (defArgs (top 24)) (defBody (top 24)) (defScope (top 24)) [] [] (He.ga K (PySem.Str.ofString "scaled")) fd16
  g_scaled : mg (PySem.Str.ofString "scaled") = some (.ref (He.ga K (PySem.Str.ofString "scaled")))
  fd17 : FuncData
  F17 : FunD K (PySem.Str.ofString "power") (PySem.Str.ofString "power") (defArgs (top 25)) (defBody (top 25)) (defScope (top 25)) [] [] (He.ga K (PySem.Str.ofString "power")) fd17
  g_power : mg (PySem.Str.ofString "power") = some (.ref (He.ga K (PySem.Str.ofString "power")))
  fd18 : FuncData
  F18 : FunD K (PySem.Str.ofString "_law_take") (PySem.Str.ofString "_law_take") (defArgs (top 27)) (defBody (top 27)) (defScope (top 27)) [] [] (He.ga K (PySem.Str.ofString "_law_take")) fd18
  g__law_take : mg (PySem.Str.ofString "_law_take") = some (.ref (He.ga K (PySem.Str.ofString "_law_take")))
  fd19 : FuncData
  F19 : FunD K (PySem.Str.ofString "_law_same") (PySem.Str.ofString "_law_same") (defArgs (top 28)) (defBody (top 28)) (defScope (top 28)) [] [] (He.ga K (PySem.Str.ofString "_law_same")) fd19
  g__law_same : mg (PySem.Str.ofString "_law_same") = some (.ref (He.ga K (PySem.Str.ofString "_law_same")))
  fd20 : FuncData
  F20 : FunD K (PySem.Str.ofString "_law_low") (PySem.Str.ofString "_law_low") (defArgs (top 29)) (defBody (top 29)) (defScope (top 29)) [] [] (He.ga K (PySem.Str.ofString "_law_low")) fd20
  g__law_low : mg (PySem.Str.ofString "_law_low") = some (.ref (He.ga K (PySem.Str.ofString "_law_low")))
  fd21 : FuncData
  F21 : FunD K (PySem.Str.ofString "_law_plus") (PySem.Str.ofString "_law_plus") (defArgs (top 30)) (defBody (top 30)) (defScope (top 30)) [] [] (He.ga K (PySem.Str.ofString "_law_plus")) fd21
  g__law_plus : mg (PySem.Str.ofString "_law_plus") = some (.ref (He.ga K (PySem.Str.ofString "_law_plus")))
  fd22 : FuncData
  F22 : FunD K (PySem.Str.ofString "_law_times") (PySem.Str.ofString "_law_times") (defArgs (top 31)) (defBody (top 31)) (defScope (top 31)) [] [] (He.ga K (PySem.Str.ofString "_law_times")) fd22
  g__law_times : mg (PySem.Str.ofString "_law_times") = some (.ref (He.ga K (PySem.Str.ofString "_law_times")))
  fd23 : FuncData
  F23 : FunD K (PySem.Str.ofString "_law_dot") (PySem.Str.ofString "_law_dot") (defArgs (top 32)) (defBody (top 32)) (defScope (top 32)) [] [] (He.ga K (PySem.Str.ofString "_law_dot")) fd23
  g__law_dot : mg (PySem.Str.ofString "_law_dot") = some (.ref (He.ga K (PySem.Str.ofString "_law_dot")))
  fd24 : FuncData
  F24 : FunD K (PySem.Str.ofString "_law_trim") (PySem.Str.ofString "_law_trim") (defArgs (top 33)) (defBody (top 33)) (defScope (top 33)) [] [] (He.ga K (PySem.Str.ofString "_law_trim")) fd24
  g__law_trim : mg (PySem.Str.ofString "_law_trim") = some (.ref (He.ga K (PySem.Str.ofString "_law_trim")))
  fd25 : FuncData
  F25 : FunD K (PySem.Str.ofString "_law_sum") (PySem.Str.ofString "_law_sum") (defArgs (top 34)) (defBody (top 34)) (defScope (top 34)) [] [] (He.ga K (PySem.Str.ofString "_law_sum")) fd25
  g__law_sum : mg (PySem.Str.ofString "_law_sum") = some (.ref (He.ga K (PySem.Str.ofString "_law_sum")))
  fd26 : FuncData
  F26 : FunD K (PySem.Str.ofString "_law_product") (PySem.Str.ofString "_law_product") (defArgs (top 35)) (defBody (top 35)) (defScope (top 35)) [] [] (He.ga K (PySem.Str.ofString "_law_product")) fd26
  g__law_product : mg (PySem.Str.ofString "_law_product") = some (.ref (He.ga K (PySem.Str.ofString "_law_product")))
  fd27 : FuncData
  F27 : FunD K (PySem.Str.ofString "_law_at") (PySem.Str.ofString "_law_at") (defArgs (top 36)) (defBody (top 36)) (defScope (top 36)) [] [] (He.ga K (PySem.Str.ofString "_law_at")) fd27
  g__law_at : mg (PySem.Str.ofString "_law_at") = some (.ref (He.ga K (PySem.Str.ofString "_law_at")))
  fd28 : FuncData
  F28 : FunD K (PySem.Str.ofString "_law_polynomial") (PySem.Str.ofString "_law_polynomial") (defArgs (top 37)) (defBody (top 37)) (defScope (top 37)) [] [] (He.ga K (PySem.Str.ofString "_law_polynomial")) fd28
  g__law_polynomial : mg (PySem.Str.ofString "_law_polynomial") = some (.ref (He.ga K (PySem.Str.ofString "_law_polynomial")))
  fd29 : FuncData
  F29 : FunD K (PySem.Str.ofString "_law_drawn") (PySem.Str.ofString "_law_drawn") (defArgs (top 38)) (defBody (top 38)) (defScope (top 38)) [] [] (He.ga K (PySem.Str.ofString "_law_drawn")) fd29
  g__law_drawn : mg (PySem.Str.ofString "_law_drawn") = some (.ref (He.ga K (PySem.Str.ofString "_law_drawn")))
  fd30 : FuncData
  F30 : FunD K (PySem.Str.ofString "_law_far") (PySem.Str.ofString "_law_far") (defArgs (top 39)) (defBody (top 39)) (defScope (top 39)) [] [] (He.ga K (PySem.Str.ofString "_law_far")) fd30
  g__law_far : mg (PySem.Str.ofString "_law_far") = some (.ref (He.ga K (PySem.Str.ofString "_law_far")))
  fd31 : FuncData
  F31 : FunD K (PySem.Str.ofString "_law_right") (PySem.Str.ofString "_law_right") (defArgs (top 40)) (defBody (top 40)) (defScope (top 40)) [] [] (He.ga K (PySem.Str.ofString "_law_right")) fd31
  g__law_right : mg (PySem.Str.ofString "_law_right") = some (.ref (He.ga K (PySem.Str.ofString "_law_right")))
  fd32 : FuncData
  F32 : FunD K (PySem.Str.ofString "law") (PySem.Str.ofString "law") (defArgs (top 41)) (defBody (top 41)) (defScope (top 41)) [] [] (He.ga K (PySem.Str.ofString "law")) fd32
  g_law : mg (PySem.Str.ofString "law") = some (.ref (He.ga K (PySem.Str.ofString "law")))
  g_WorthError : mg (PySem.Str.ofString "WorthError") = some (.ref (ca K 0))
  g_InvalidNumber : mg (PySem.Str.ofString "InvalidNumber") = some (.ref (ca K 1))
  g_InvalidPolynomial : mg (PySem.Str.ofString "InvalidPolynomial") = some (.ref (ca K 2))
  g_InvalidInteger : mg (PySem.Str.ofString "InvalidInteger") = some (.ref (ca K 3))
  i_gcd : mg (PySem.Str.ofString "gcd") = some (.builtin "math.gcd")
  b_ValueError : mg (PySem.Str.ofString "ValueError") = none
  b_abs : mg (PySem.Str.ofString "abs") = none
  b_all : mg (PySem.Str.ofString "all") = none
  b_bool : mg (PySem.Str.ofString "bool") = none
  b_enumerate : mg (PySem.Str.ofString "enumerate") = none
  b_int : mg (PySem.Str.ofString "int") = none
  b_isinstance : mg (PySem.Str.ofString "isinstance") = none
  b_len : mg (PySem.Str.ofString "len") = none
  b_list : mg (PySem.Str.ofString "list") = none
  b_max : mg (PySem.Str.ofString "max") = none
  b_range : mg (PySem.Str.ofString "range") = none
  b_str : mg (PySem.Str.ofString "str") = none
  b_tuple : mg (PySem.Str.ofString "tuple") = none
  b_zip : mg (PySem.Str.ofString "zip") = none
  vV : PySem.W.findCls K (.type "ValueError") (.type "type") "__init__" = some (.val (.builtin "ValueError.__init__"))
structure AllOk (P : Program) (w : World) (K : PySem.W.Frag) (mg : Str → Option Value) (base : Heap) (x : Ctx K mg) (k : Nat) (Γ : Calls) : Prop where
  f0 : FnOk P w K mg base (L2.CX P w) k (He.ga K (PySem.Str.ofString "is_integer")) x.fd0 P0 (spF K (ca K) Γ 0 1)
  f1 : FnOk P w K mg base (L2.CX P w) k (He.ga K (PySem.Str.ofString "lowest")) x.fd1 P1 (spF K (ca K) Γ 1 2)
  f2 : FnOk P w K mg base (L2.CX P w) k (He.ga K (PySem.Str.ofString "is_number")) x.fd2 P2 (spF K (ca K) Γ 2 1)
  f3 : FnOk P w K mg base (L2.CX P w) k (He.ga K (PySem.Str.ofString "check_number")) x.fd3 P3 (spF K (ca K) Γ 3 1)
  f4 : FnOk P w K mg base (L2.CX P w) k (He.ga K (PySem.Str.ofString "check_integer")) x.fd4 P4 (spF K (ca K) Γ 4 2)
  f5 : FnOk P w K mg base (L2.CX P w) k (He.ga K (PySem.Str.ofString "is_polynomial")) x.fd5 P5 (spF K (ca K) Γ 5 1)
  f6 : FnOk P w K mg base (L2.CX P w) k (He.ga K (PySem.Str.ofString "check_polynomial")) x.fd6 P6 (spF K (ca K) Γ 6 1)
  f7 : FnOk P w K mg base (L2.CX P w) k (He.ga K (PySem.Str.ofString "stripped")) x.fd7 P7 (spF K (ca K) Γ 7 2)
  f8 : FnOk P w K mg base (L2.CX P w) k (He.ga K (PySem.Str.ofString "value_of")) x.fd8 P8 (spF K (ca K) Γ 8 2)
  f9 : FnOk P w K mg base (L2.CX P w) k (He.ga K (PySem.Str.ofString "value")) x.fd9 P9 (spF K (ca K) Γ 9 2)
  f10 : FnOk P w K mg base (L2.CX P w) k (He.ga K (PySem.Str.ofString "padded")) x.fd10 P10 (spF K (ca K) Γ 10 3)
  f11 : FnOk P w K mg base (L2.CX P w) k (He.ga K (PySem.Str.ofString "sum_of")) x.fd11 P11 (spF K (ca K) Γ 11 2)
  f12 : FnOk P w K mg base (L2.CX P w) k (He.ga K (PySem.Str.ofString "times_of_two")) x.fd12 P12 (spF K (ca K) Γ 12 2)
  f13 : FnOk P w K mg base (L2.CX P w) k (He.ga K (PySem.Str.ofString "scaled_by")) x.fd13 P13 (spF K (ca K) Γ 13 2)
  f14 : FnOk P w K mg base (L2.CX P w) k (He.ga K (PySem.Str.ofString "plus")) x.fd14 P14 (spF K (ca K) Γ 14 2)
  f15 : FnOk P w K mg base (L2.CX P w) k (He.ga K (PySem.Str.ofString "times")) x.fd15 P15 (spF K (ca K) Γ 15 2)
  f16 : FnOk P w K mg base (L2.CX P w) k (He.ga K (PySem.Str.ofString "scaled")) x.fd16 P16 (spF K (ca K) Γ 16 2)
  f17 : FnOk P w K mg base (L2.CX P w) k (He.ga K (PySem.Str.ofString "power")) x.fd17 P17 (spF K (ca K) Γ 17 2)
  f18 : FnOk P w K mg base (L2.CX P w) k (He.ga K (PySem.Str.ofString "_law_take")) x.fd18 P18 (spF K (ca K) Γ 18 2)
  f19 : FnOk P w K mg base (L2.CX P w) k (He.ga K (PySem.Str.ofString "_law_same")) x.fd19 P19 (spF K (ca K) Γ 19 2)
  f20 : FnOk P w K mg base (L2.CX P w) k (He.ga K (PySem.Str.ofString "_law_low")) x.fd20 P20 (spF K (ca K) Γ 20 2)
  f21 : FnOk P w K mg base (L2.CX P w) k (He.ga K (PySem.Str.ofString "_law_plus")) x.fd21 P21 (spF K (ca K) Γ 21 2)
  f22 : FnOk P w K mg base (L2.CX P w) k (He.ga K (PySem.Str.ofString "_law_times")) x.fd22 P22 (spF K (ca K) Γ 22 2)
  f23 : FnOk P w K mg base (L2.CX P w) k (He.ga K (PySem.Str.ofString "_law_dot")) x.fd23 P23 (spF K (ca K) Γ 23 2)
  f24 : FnOk P w K mg base (L2.CX P w) k (He.ga K (PySem.Str.ofString "_law_trim")) x.fd24 P24 (spF K (ca K) Γ 24 1)
  f25 : FnOk P w K mg base (L2.CX P w) k (He.ga K (PySem.Str.ofString "_law_sum")) x.fd25 P25 (spF K (ca K) Γ 25 2)
  f26 : FnOk P w K mg base (L2.CX P w) k (He.ga K (PySem.Str.ofString "_law_product")) x.fd26 P26 (spF K (ca K) Γ 26 2)
  f27 : FnOk P w K mg base (L2.CX P w) k (He.ga K (PySem.Str.ofString "_law_at")) x.fd27 P27 (spF K (ca K) Γ 27 2)
  f28 : FnOk P w K mg base (L2.CX P w) k (He.ga K (PySem.Str.ofString "_law_polynomial")) x.fd28 P28 (spF K (ca K) Γ 28 3)
  f29 : FnOk P w K mg base (L2.CX P w) k (He.ga K (PySem.Str.ofString "_law_drawn")) x.fd29 P29 (spF K (ca K) Γ 29 2)
  f30 : FnOk P w K mg base (L2.CX P w) k (He.ga K (PySem.Str.ofString "_law_far")) x.fd30 P30 (spF K (ca K) Γ 30 1)
  f31 : FnOk P w K mg base (L2.CX P w) k (He.ga K (PySem.Str.ofString "_law_right")) x.fd31 P31 (spF K (ca K) Γ 31 4)
  f32 : FnOk P w K mg base (L2.CX P w) k (He.ga K (PySem.Str.ofString "law")) x.fd32 P32 (spF K (ca K) Γ 32 1)
section
variable {P : Program} {w : World} {K : PySem.W.Frag} {mg : Str → Option Value} {base : Heap}
theorem hN0 : N0.Nodup := by decide +kernel
theorem sc0 : FnScope N0 P0 (defScope (top 7)) := ⟨rfl, rfl, rfl, hN0, rfl, by decide +kernel, by decide +kernel⟩
theorem bN0 (x : Ctx K mg) : Binds K x.fd0 P0 [] := x.F0.bindsN fun _ _ _ _ _ _ us hl => match us, hl with | [_], _ => rfl
theorem hN1 : N1.Nodup := by decide +kernel
theorem sc1 : FnScope N1 P1 (defScope (top 8)) := ⟨rfl, rfl, rfl, hN1, rfl, by decide +kernel, by decide +kernel⟩
theorem bN1 (x : Ctx K mg) : Binds K x.fd1 P1 [] := x.F1.bindsN fun _ _ _ _ _ _ us hl => match us, hl with | [_, _], _ => rfl
theorem hN2 : N2.Nodup := by decide +kernel
theorem sc2 : FnScope N2 P2 (defScope (top 9)) := ⟨rfl, rfl, rfl, hN2, rfl, by decide +kernel, by decide +kernel⟩
theorem bN2 (x : Ctx K mg) : Binds K x.fd2 P2 [] := x.F2.bindsN fun _ _ _ _ _ _ us hl => match us, hl with | [_], _ => rfl
theorem hN3 : N3.Nodup := by decide +kernel
theorem sc3 : FnScope N3 P3 (defScope (top 10)) := ⟨rfl, rfl, rfl, hN3, rfl, by decide +kernel, by decide +kernel⟩
theorem bN3 (x : Ctx K mg) : Binds K x.fd3 P3 [] := x.F3.bindsN fun _ _ _ _ _ _ us hl => match us, hl with | [_], _ => rfl
theorem hN4 : N4.Nodup := by decide +kernel
theorem sc4 : FnScope N4 P4 (defScope (top 11)) := ⟨rfl, rfl, rfl, hN4, rfl, by decide +kernel, by decide +kernel⟩
theorem bN4 (x : Ctx K mg) : Binds K x.fd4 P4 [] := x.F4.bindsN fun _ _ _ _ _ _ us hl => match us, hl with | [_, _], _ => rfl
theorem hN5 : N5.Nodup := by decide +kernel
theorem sc5 : FnScope N5 P5 (defScope (top 13)) := ⟨rfl, rfl, rfl, hN5, rfl, by decide +kernel, by decide +kernel⟩
theorem bN5 (x : Ctx K mg) : Binds K x.fd5 P5 [] := x.F5.bindsN fun _ _ _ _ _ _ us hl => match us, hl with | [_], _ => rfl
theorem hN6 : N6.Nodup := by decide +kernel
theorem sc6 : FnScope N6 P6 (defScope (top 14)) := ⟨rfl, rfl, rfl, hN6, rfl, by decide +kernel, by decide +kernel⟩
theorem bN6 (x : Ctx K mg) : Binds K x.fd6 P6 [] := x.F6.bindsN fun _ _ _ _ _ _ us hl => match us, hl with | [_], _ => rfl
theorem hN7 : N7.Nodup := by decide +kernel
theorem sc7 : FnScope N7 P7 (defScope (top 15)) := ⟨rfl, rfl, rfl, hN7, rfl, by decide +kernel, by decide +kernel⟩
theorem bN7 (x : Ctx K mg) : Binds K x.fd7 P7 [] := x.F7.bindsN fun _ _ _ _ _ _ us hl => match us, hl with | [_, _], _ => rfl
theorem hN8 : N8.Nodup := by decide +kernel
theorem sc8 : FnScope N8 P8 (defScope (top 16)) := ⟨rfl, rfl, rfl, hN8, rfl, by decide +kernel, by decide +kernel⟩
theorem bN8 (x : Ctx K mg) : Binds K x.fd8 P8 [] := x.F8.bindsN fun _ _ _ _ _ _ us hl => match us, hl with | [_, _], _ => rfl
theorem hN9 : N9.Nodup := by decide +kernel
theorem sc9 : FnScope N9 P9 (defScope (top 17)) := ⟨rfl, rfl, rfl, hN9, rfl, by decide +kernel, by decide +kernel⟩
theorem bN9 (x : Ctx K mg) : Binds K x.fd9 P9 [] := x.F9.bindsN fun _ _ _ _ _ _ us hl => match us, hl with | [_, _], _ => rfl
theorem hN10 : N10.Nodup := by decide +kernel
theorem sc10 : FnScope N10 P10 (defScope (top 18)) := ⟨rfl, rfl, rfl, hN10, rfl, by decide +kernel, by decide +kernel⟩
theorem bN10 (x : Ctx K mg) : Binds K x.fd10 P10 [] := x.F10.bindsN fun _ _ _ _ _ _ us hl => match us, hl with | [_, _, _], _ => rfl
theorem hN11 : N11.Nodup := by decide +kernel
theorem sc11 : FnScope N11 P11 (defScope (top 19)) := ⟨rfl, rfl, rfl, hN11, rfl, by decide +kernel, by decide +kernel⟩
theorem bN11 (x : Ctx K mg) : Binds K x.fd11 P11 [] := x.F11.bindsN fun _ _ _ _ _ _ us hl => match us, hl with | [_, _], _ => rfl
theorem hN12 : N12.Nodup := by decide +kernel
theorem sc12 : FnScope N12 P12 (defScope (top 20)) := ⟨rfl, rfl, rfl, hN12, rfl, by decide +kernel, by decide +kernel⟩
theorem bN12 (x : Ctx K mg) : Binds K x.fd12 P12 [] := x.F12.bindsN fun _ _ _ _ _ _ us hl => match us, hl with | [_, _], _ => rfl
theorem hN13 : N13.Nodup := by decide +kernel
theorem sc13 : FnScope N13 P13 (defScope (top 21)) := ⟨rfl, rfl, rfl, hN13, rfl, by decide +kernel, by decide +kernel⟩
theorem bN13 (x : Ctx K mg) : Binds K x.fd13 P13 [] := x.F13.bindsN fun _ _ _ _ _ _ us hl => match us, hl with | [_, _], _ => rfl
theorem hN14 : N14.Nodup := by decide +kernel
theorem sc14 : FnScope N14 P14 (defScope (top 22)) := ⟨rfl, rfl, rfl, hN14, rfl, by decide +kernel, by decide +kernel⟩
theorem bN14 (x : Ctx K mg) : Binds K x.fd14 P14 [] := x.F14.bindsN fun _ _ _ _ _ _ us hl => match us, hl with | [_, _], _ => rfl
theorem hN15 : N15.Nodup := by decide +kernel
theorem sc15 : FnScope N15 P15 (defScope (top 23)) := ⟨rfl, rfl, rfl, hN15, rfl, by decide +kernel, by decide +kernel⟩
theorem bN15 (x : Ctx K mg) : Binds K x.fd15 P15 [] := x.F15.bindsN fun _ _ _ _ _ _ us hl => match us, hl with | [_, _], _ => rfl
theorem hN16 : N16.Nodup := by decide +kernel
theorem sc16 : FnScope N16 P16 (defScope (top 24)) := ⟨rfl, rfl, rfl, hN16, rfl, by decide +kernel, by decide +kernel⟩
theorem bN16 (x : Ctx K mg) : Binds K x.fd16 P16 [] := x.F16.bindsN fun _ _ _ _ _ _ us hl => match us, hl with | [_, _], _ => rfl
theorem hN17 : N17.Nodup := by decide +kernel
theorem sc17 : FnScope N17 P17 (defScope (top 25)) := ⟨rfl, rfl, rfl, hN17, rfl, by decide +kernel, by decide +kernel⟩
theorem bN17 (x : Ctx K mg) : Binds K x.fd17 P17 [] := x.F17.bindsN fun _ _ _ _ _ _ us hl => match us, hl with | [_, _], _ => rfl
theorem hN18 : N18.Nodup := by decide +kernel
theorem sc18 : FnScope N18 P18 (defScope (top 27)) := ⟨rfl, rfl, rfl, hN18, rfl, by decide +kernel, by decide +kernel⟩
theorem bN18 (x : Ctx K mg) : Binds K x.fd18 P18 [] := x.F18.bindsN fun _ _ _ _ _ _ us hl => match us, hl with | [_, _], _ => rfl
theorem hN19 : N19.Nodup := by decide +kernel
theorem sc19 : FnScope N19 P19 (defScope (top 28)) := ⟨rfl, rfl, rfl, hN19, rfl, by decide +kernel, by decide +kernel⟩
theorem bN19 (x : Ctx K mg) : Binds K x.fd19 P19 [] := x.F19.bindsN fun _ _ _ _ _ _ us hl => match us, hl with | [_, _], _ => rfl
theorem hN20 : N20.Nodup := by decide +kernel
theorem sc20 : FnScope N20 P20 (defScope (top 29)) := ⟨rfl, rfl, rfl, hN20, rfl, by decide +kernel, by decide +kernel⟩
theorem bN20 (x : Ctx K mg) : Binds K x.fd20 P20 [] := x.F20.bindsN fun _ _ _ _ _ _ us hl => match us, hl with | [_, _], _ => rfl
theorem hN21 : N21.Nodup := by decide +kernel
theorem sc21 : FnScope N21 P21 (defScope (top 30)) := ⟨rfl, rfl, rfl, hN21, rfl, by decide +kernel, by decide +kernel⟩
theorem bN21 (x : Ctx K mg) : Binds K x.fd21 P21 [] := x.F21.bindsN fun _ _ _ _ _ _ us hl => match us, hl with | [_, _], _ => rfl
theorem hN22 : N22.Nodup := by decide +kernel
theorem sc22 : FnScope N22 P22 (defScope (top 31)) := ⟨rfl, rfl, rfl, hN22, rfl, by decide +kernel, by decide +kernel⟩
theorem bN22 (x : Ctx K mg) : Binds K x.fd22 P22 [] := x.F22.bindsN fun _ _ _ _ _ _ us hl => match us, hl with | [_, _], _ => rfl
theorem hN23 : N23.Nodup := by decide +kernel
theorem sc23 : FnScope N23 P23 (defScope (top 32)) := ⟨rfl, rfl, rfl, hN23, rfl, by decide +kernel, by decide +kernel⟩
theorem bN23 (x : Ctx K mg) : Binds K x.fd23 P23 [] := x.F23.bindsN fun _ _ _ _ _ _ us hl => match us, hl with | [_, _], _ => rfl
theorem hN24 : N24.Nodup := by decide +kernel
theorem sc24 : FnScope N24 P24 (defScope (top 33)) := ⟨rfl, rfl, rfl, hN24, rfl, by decide +kernel, by decide +kernel⟩
theorem bN24 (x : Ctx K mg) : Binds K x.fd24 P24 [] := x.F24.bindsN fun _ _ _ _ _ _ us hl => match us, hl with | [_], _ => rfl
theorem hN25 : N25.Nodup := by decide +kernel
theorem sc25 : FnScope N25 P25 (defScope (top 34)) := ⟨rfl, rfl, rfl, hN25, rfl, by decide +kernel, by decide +kernel⟩
theorem bN25 (x : Ctx K mg) : Binds K x.fd25 P25 [] := x.F25.bindsN fun _ _ _ _ _ _ us hl => match us, hl with | [_, _], _ => rfl
theorem hN26 : N26.Nodup := by decide +kernel
theorem sc26 : FnScope N26 P26 (defScope (top 35)) := ⟨rfl, rfl, rfl, hN26, rfl, by decide +kernel, by decide +kernel⟩
theorem bN26 (x : Ctx K mg) : Binds K x.fd26 P26 [] := x.F26.bindsN fun _ _ _ _ _ _ us hl => match us, hl with | [_, _], _ => rfl
theorem hN27 : N27.Nodup := by decide +kernel
theorem sc27 : FnScope N27 P27 (defScope (top 36)) := ⟨rfl, rfl, rfl, hN27, rfl, by decide +kernel, by decide +kernel⟩
theorem bN27 (x : Ctx K mg) : Binds K x.fd27 P27 [] := x.F27.bindsN fun _ _ _ _ _ _ us hl => match us, hl with | [_, _], _ => rfl
theorem hN28 : N28.Nodup := by decide +kernel
theorem sc28 : FnScope N28 P28 (defScope (top 37)) := ⟨rfl, rfl, rfl, hN28, rfl, by decide +kernel, by decide +kernel⟩
theorem bN28 (x : Ctx K mg) : Binds K x.fd28 P28 [] := x.F28.bindsN fun _ _ _ _ _ _ us hl => match us, hl with | [_, _, _], _ => rfl
theorem hN29 : N29.Nodup := by decide +kernel
theorem sc29 : FnScope N29 P29 (defScope (top 38)) := ⟨rfl, rfl, rfl, hN29, rfl, by decide +kernel, by decide +kernel⟩
theorem bN29 (x : Ctx K mg) : Binds K x.fd29 P29 [] := x.F29.bindsN fun _ _ _ _ _ _ us hl => match us, hl with | [_, _], _ => rfl
theorem hN30 : N30.Nodup := by decide +kernel
theorem sc30 : FnScope N30 P30 (defScope (top 39)) := ⟨rfl, rfl, rfl, hN30, rfl, by decide +kernel, by decide +kernel⟩
theorem bN30 (x : Ctx K mg) : Binds K x.fd30 P30 [] := x.F30.bindsN fun _ _ _ _ _ _ us hl => match us, hl with | [_], _ => rfl
theorem hN31 : N31.Nodup := by decide +kernel
theorem sc31 : FnScope N31 P31 (defScope (top 40)) := ⟨rfl, rfl, rfl, hN31, rfl, by decide +kernel, by decide +kernel⟩
theorem bN31 (x : Ctx K mg) : Binds K x.fd31 P31 [] := x.F31.bindsN fun _ _ _ _ _ _ us hl => match us, hl with | [_, _, _, _], _ => rfl
theorem hN32 : N32.Nodup := by decide +kernel
theorem sc32 : FnScope N32 P32 (defScope (top 41)) := ⟨rfl, rfl, rfl, hN32, rfl, by decide +kernel, by decide +kernel⟩
theorem bN32 (x : Ctx K mg) : Binds K x.fd32 P32 [] := x.F32.bindsN fun _ _ _ _ _ _ us hl => match us, hl with | [_], _ => rfl
theorem scI : FnScope [(PySem.Str.ofString "self"), (PySem.Str.ofString "value")] [(PySem.Str.ofString "self"), (PySem.Str.ofString "value")] (defScope (clsM (top 2))) := ⟨rfl, rfl, rfl, by decide +kernel, rfl, by decide +kernel, by decide +kernel⟩
theorem bI (x : Ctx K mg) : Binds K x.fdI [(PySem.Str.ofString "self"), (PySem.Str.ofString "value")] [] := x.FI.bindsN fun _ _ _ _ _ _ us hl => match us, hl with | [_, _], _ => rfl
theorem init (x : Ctx K mg) : FnOk P w K mg base (L2.CX P w) 1 x.fI x.fdI [(PySem.Str.ofString "self"), (PySem.Str.ofString "value")] (spInit K) := init_ok x.FI scI rfl rfl (fun _ h => by unfold PySem.Env.kindOf; rw [h]; rfl) (fun _ => ⟨_, rfl⟩) x.b_ValueError x.vV
/-- is_integer -/
theorem b0 {Γ : Calls} {k : Nat} (x : Ctx K mg) (hk : 2 ≤ k) (IH : AllOk P w K mg base x k Γ) (cdv : Value) (A : Around) (outer : List PySem.Env) (s : Shared) (H : Hp) (E : XK) (hr : Room k (A.deeper (envOfC (PySem.Str.ofString "is_integer") (defScope (top 7)) s.heap.objs.size (He.ga K (PySem.Str.ofString "is_integer")) cdv))) :
    PSs (cxOf (L2.CX P w) P w K mg base N0 (PySem.Str.ofString "is_integer") (defScope (top 7)) (He.ga K (PySem.Str.ofString "is_integer")) cdv A outer s H E) (defBody (top 7)) (tS K (ca K) (fun cls d _ H => E cls d H) (d0 Γ)) := by
  have tk : Takes (cxOf (L2.CX P w) P w K mg base N0 (PySem.Str.ofString "is_integer") (defScope (top 7)) (He.ga K (PySem.Str.ofString "is_integer")) cdv A outer s H E) (fun cls d _ H => E cls d H) := takes_of rfl rfl rfl rfl
  have po : PassesOwn (model P w) (A.deeper (envOfC (PySem.Str.ofString "is_integer") (defScope (top 7)) s.heap.objs.size (He.ga K (PySem.Str.ofString "is_integer")) cdv)) _ (cxOf (L2.CX P w) P w K mg base N0 (PySem.Str.ofString "is_integer") (defScope (top 7)) (He.ga K (PySem.Str.ofString "is_integer")) cdv A outer s H E).xe := passes_of (X := cxOf (L2.CX P w) P w K mg base N0 (PySem.Str.ofString "is_integer") (defScope (top 7)) (He.ga K (PySem.Str.ofString "is_integer")) cdv A outer s H E) rfl
  have hu := hr.units
  have hu1 : (A.deeper (envOfC (PySem.Str.ofString "is_integer") (defScope (top 7)) s.heap.objs.size (He.ga K (PySem.Str.ofString "is_integer")) cdv)).units + 65 < cLine := by have := hr.un; omega
  unfold d0
  exact (s_one (s_ret (e_and (e_isi x.C (by decide) rfl x.b_isinstance (e_var rfl (Or.inl rfl)) (c_ty rfl x.b_int (by decide +kernel))) (e_one (e_not (e_isi x.C (by decide) rfl x.b_isinstance (e_var rfl (Or.inl rfl)) (c_ty rfl x.b_bool (by decide +kernel))))))))
/-- lowest -/
theorem b1 {Γ : Calls} {k : Nat} (x : Ctx K mg) (hk : 2 ≤ k) (IH : AllOk P w K mg base x k Γ) (cdv : Value) (A : Around) (outer : List PySem.Env) (s : Shared) (H : Hp) (E : XK) (hr : Room k (A.deeper (envOfC (PySem.Str.ofString "lowest") (defScope (top 8)) s.heap.objs.size (He.ga K (PySem.Str.ofString "lowest")) cdv))) :
    PSs (cxOf (L2.CX P w) P w K mg base N1 (PySem.Str.ofString "lowest") (defScope (top 8)) (He.ga K (PySem.Str.ofString "lowest")) cdv A outer s H E) (defBody (top 8)) (tS K (ca K) (fun cls d _ H => E cls d H) (d1 Γ)) := by
  have tk : Takes (cxOf (L2.CX P w) P w K mg base N1 (PySem.Str.ofString "lowest") (defScope (top 8)) (He.ga K (PySem.Str.ofString "lowest")) cdv A outer s H E) (fun cls d _ H => E cls d H) := takes_of rfl rfl rfl rfl
  have po : PassesOwn (model P w) (A.deeper (envOfC (PySem.Str.ofString "lowest") (defScope (top 8)) s.heap.objs.size (He.ga K (PySem.Str.ofString "lowest")) cdv)) _ (cxOf (L2.CX P w) P w K mg base N1 (PySem.Str.ofString "lowest") (defScope (top 8)) (He.ga K (PySem.Str.ofString "lowest")) cdv A outer s H E).xe := passes_of (X := cxOf (L2.CX P w) P w K mg base N1 (PySem.Str.ofString "lowest") (defScope (top 8)) (He.ga K (PySem.Str.ofString "lowest")) cdv A outer s H E) rfl
  have hu := hr.units
  have hu1 : (A.deeper (envOfC (PySem.Str.ofString "lowest") (defScope (top 8)) s.heap.objs.size (He.ga K (PySem.Str.ofString "lowest")) cdv)).units + 65 < cLine := by have := hr.un; omega
  unfold d1
  exact (s_cons (s_set (i := 2) hN1 rfl (Or.inl rfl) (e_fnM c_gcd n_gcd rfl x.i_gcd (d_cons (e_var rfl (Or.inl rfl)) (d_cons (e_var rfl (Or.inl rfl)) d_nil))))
    (s_cons (s_if (t_cmp r_lt m_lt (e_var rfl (Or.inl rfl)) e_int rfl)
    (s_one (s_set (i := 2) hN1 rfl (Or.inl rfl) (e_un r_neg m_neg (e_var rfl (Or.inl rfl)))))
    s_nil)
    (s_one (s_ret (e_tup (d_cons (e_bin r_fdiv m_fdiv (e_var rfl (Or.inl rfl)) (e_var rfl (Or.inl rfl))) (d_cons (e_bin r_fdiv m_fdiv (e_var rfl (Or.inl rfl)) (e_var rfl (Or.inl rfl))) d_nil)) (len_cons (len_cons len_nil)))))))
/-- is_number -/
theorem b2 {Γ : Calls} {k : Nat} (x : Ctx K mg) (hk : 2 ≤ k) (IH : AllOk P w K mg base x k Γ) (cdv : Value) (A : Around) (outer : List PySem.Env) (s : Shared) (H : Hp) (E : XK) (hr : Room k (A.deeper (envOfC (PySem.Str.ofString "is_number") (defScope (top 9)) s.heap.objs.size (He.ga K (PySem.Str.ofString "is_number")) cdv))) :
    PSs (cxOf (L2.CX P w) P w K mg base N2 (PySem.Str.ofString "is_number") (defScope (top 9)) (He.ga K (PySem.Str.ofString "is_number")) cdv A outer s H E) (defBody (top 9)) (tS K (ca K) (fun cls d _ H => E cls d H) (d2 Γ)) := by
  have tk : Takes (cxOf (L2.CX P w) P w K mg base N2 (PySem.Str.ofString "is_number") (defScope (top 9)) (He.ga K (PySem.Str.ofString "is_number")) cdv A outer s H E) (fun cls d _ H => E cls d H) := takes_of rfl rfl rfl rfl
  have po : PassesOwn (model P w) (A.deeper (envOfC (PySem.Str.ofString "is_number") (defScope (top 9)) s.heap.objs.size (He.ga K (PySem.Str.ofString "is_number")) cdv)) _ (cxOf (L2.CX P w) P w K mg base N2 (PySem.Str.ofString "is_number") (defScope (top 9)) (He.ga K (PySem.Str.ofString "is_number")) cdv A outer s H E).xe := passes_of (X := cxOf (L2.CX P w) P w K mg base N2 (PySem.Str.ofString "is_number") (defScope (top 9)) (He.ga K (PySem.Str.ofString "is_number")) cdv A outer s H E) rfl
  have hu := hr.units
  have hu1 : (A.deeper (envOfC (PySem.Str.ofString "is_number") (defScope (top 9)) s.heap.objs.size (He.ga K (PySem.Str.ofString "is_number")) cdv)).units + 65 < cLine := by have := hr.un; omega
  unfold d2
  exact (s_cons (s_if (PW.pt (w_or (t_not (t_val (e_isi x.C (by decide) rfl x.b_isinstance (e_var rfl (Or.inl rfl)) (c_ty rfl x.b_tuple (by decide +kernel))))) (w_or (t_cmp (r_ne hu) m_ne (e_fnB c_len n_len rfl x.b_len (by decide +kernel) (d_cons (e_var rfl (Or.inl rfl)) d_nil)) e_int rfl) (w_or1 (t_not (t_val (e_fnB (c_all rfl) n_all rfl x.b_all (by decide +kernel) (d_cons (e_lc (own := [(PySem.Str.ofString "a", 1)]) rfl hN2 rfl (i_seq (e_var rfl (Or.inl rfl))) (blkOk_by (by kernel_rfl)) (fun _ _ _ _ _ => (gv_name (by decide) hN2 rfl (Or.inl rfl))) (fun _ _ _ _ _ => pts0) (fun _ _ _ _ _ => (e_call (IH.f0) hr rfl x.g_is_integer x.F0.kp (bN0 x) tk0 (d_cons (e_var rfl (Or.inl rfl)) d_nil) (len_cons len_nil)))) d_nil))))))))
    (s_one (s_ret e_bl))
    s_nil)
    (s_one (s_ret (e_and (e_cmp r_gt m_gt (e_idx (e_var rfl (Or.inl rfl)) e_int (fun _ _ => rfl)) e_int rfl) (e_one (e_cmp (r_eq hu) m_eq (e_fnM c_gcd n_gcd rfl x.i_gcd (d_cons (e_idx (e_var rfl (Or.inl rfl)) e_int (fun _ _ => rfl)) (d_cons (e_idx (e_var rfl (Or.inl rfl)) e_int (fun _ _ => rfl)) d_nil))) e_int rfl))))))
/-- check_number -/
theorem b3 {Γ : Calls} {k : Nat} (x : Ctx K mg) (hk : 2 ≤ k) (IH : AllOk P w K mg base x k Γ) (cdv : Value) (A : Around) (outer : List PySem.Env) (s : Shared) (H : Hp) (E : XK) (hr : Room k (A.deeper (envOfC (PySem.Str.ofString "check_number") (defScope (top 10)) s.heap.objs.size (He.ga K (PySem.Str.ofString "check_number")) cdv))) :
    PSs (cxOf (L2.CX P w) P w K mg base N3 (PySem.Str.ofString "check_number") (defScope (top 10)) (He.ga K (PySem.Str.ofString "check_number")) cdv A outer s H E) (defBody (top 10)) (tS K (ca K) (fun cls d _ H => E cls d H) (d3 Γ)) := by
  have tk : Takes (cxOf (L2.CX P w) P w K mg base N3 (PySem.Str.ofString "check_number") (defScope (top 10)) (He.ga K (PySem.Str.ofString "check_number")) cdv A outer s H E) (fun cls d _ H => E cls d H) := takes_of rfl rfl rfl rfl
  have po : PassesOwn (model P w) (A.deeper (envOfC (PySem.Str.ofString "check_number") (defScope (top 10)) s.heap.objs.size (He.ga K (PySem.Str.ofString "check_number")) cdv)) _ (cxOf (L2.CX P w) P w K mg base N3 (PySem.Str.ofString "check_number") (defScope (top 10)) (He.ga K (PySem.Str.ofString "check_number")) cdv A outer s H E).xe := passes_of (X := cxOf (L2.CX P w) P w K mg base N3 (PySem.Str.ofString "check_number") (defScope (top 10)) (He.ga K (PySem.Str.ofString "check_number")) cdv A outer s H E) rfl
  have hu := hr.units
  have hu1 : (A.deeper (envOfC (PySem.Str.ofString "check_number") (defScope (top 10)) s.heap.objs.size (He.ga K (PySem.Str.ofString "check_number")) cdv)).units + 65 < cLine := by have := hr.un; omega
  unfold d3
  exact (s_one (s_if (t_not (t_val (e_call (IH.f2) hr rfl x.g_is_number x.F2.kp (bN2 x) tk (d_cons (e_var rfl (Or.inl rfl)) d_nil) (len_cons len_nil))))
    (s_one (s_raise (c := 1) rfl tk (x.ex 1 (by decide)) x.tI (init x) (hr.mono hk) (bI x) rfl x.g_InvalidNumber (e_var rfl (Or.inl rfl))))
    s_nil))
/-- check_integer -/
theorem b4 {Γ : Calls} {k : Nat} (x : Ctx K mg) (hk : 2 ≤ k) (IH : AllOk P w K mg base x k Γ) (cdv : Value) (A : Around) (outer : List PySem.Env) (s : Shared) (H : Hp) (E : XK) (hr : Room k (A.deeper (envOfC (PySem.Str.ofString "check_integer") (defScope (top 11)) s.heap.objs.size (He.ga K (PySem.Str.ofString "check_integer")) cdv))) :
    PSs (cxOf (L2.CX P w) P w K mg base N4 (PySem.Str.ofString "check_integer") (defScope (top 11)) (He.ga K (PySem.Str.ofString "check_integer")) cdv A outer s H E) (defBody (top 11)) (tS K (ca K) (fun cls d _ H => E cls d H) (d4 Γ)) := by
  have tk : Takes (cxOf (L2.CX P w) P w K mg base N4 (PySem.Str.ofString "check_integer") (defScope (top 11)) (He.ga K (PySem.Str.ofString "check_integer")) cdv A outer s H E) (fun cls d _ H => E cls d H) := takes_of rfl rfl rfl rfl
  have po : PassesOwn (model P w) (A.deeper (envOfC (PySem.Str.ofString "check_integer") (defScope (top 11)) s.heap.objs.size (He.ga K (PySem.Str.ofString "check_integer")) cdv)) _ (cxOf (L2.CX P w) P w K mg base N4 (PySem.Str.ofString "check_integer") (defScope (top 11)) (He.ga K (PySem.Str.ofString "check_integer")) cdv A outer s H E).xe := passes_of (X := cxOf (L2.CX P w) P w K mg base N4 (PySem.Str.ofString "check_integer") (defScope (top 11)) (He.ga K (PySem.Str.ofString "check_integer")) cdv A outer s H E) rfl
  have hu := hr.units
  have hu1 : (A.deeper (envOfC (PySem.Str.ofString "check_integer") (defScope (top 11)) s.heap.objs.size (He.ga K (PySem.Str.ofString "check_integer")) cdv)).units + 65 < cLine := by have := hr.un; omega
  unfold d4
  exact (s_one (s_if (PW.pt (w_or (t_not (t_val (e_call (IH.f0) hr rfl x.g_is_integer x.F0.kp (bN0 x) tk (d_cons (e_var rfl (Or.inl rfl)) d_nil) (len_cons len_nil)))) (w_or1 (PW.pt (w_and (t_notN (e_var rfl (Or.inl rfl))) (w_and1 (t_cmp r_lt m_lt (e_var rfl (Or.inl rfl)) (e_var rfl (Or.inl rfl)) rfl)))))))
    (s_one (s_raise (c := 3) rfl tk (x.ex 3 (by decide)) x.tI (init x) (hr.mono hk) (bI x) rfl x.g_InvalidInteger (e_var rfl (Or.inl rfl))))
    s_nil))
/-- is_polynomial -/
theorem b5 {Γ : Calls} {k : Nat} (x : Ctx K mg) (hk : 2 ≤ k) (IH : AllOk P w K mg base x k Γ) (cdv : Value) (A : Around) (outer : List PySem.Env) (s : Shared) (H : Hp) (E : XK) (hr : Room k (A.deeper (envOfC (PySem.Str.ofString "is_polynomial") (defScope (top 13)) s.heap.objs.size (He.ga K (PySem.Str.ofString "is_polynomial")) cdv))) :
    PSs (cxOf (L2.CX P w) P w K mg base N5 (PySem.Str.ofString "is_polynomial") (defScope (top 13)) (He.ga K (PySem.Str.ofString "is_polynomial")) cdv A outer s H E) (defBody (top 13)) (tS K (ca K) (fun cls d _ H => E cls d H) (d5 Γ)) := by
  have tk : Takes (cxOf (L2.CX P w) P w K mg base N5 (PySem.Str.ofString "is_polynomial") (defScope (top 13)) (He.ga K (PySem.Str.ofString "is_polynomial")) cdv A outer s H E) (fun cls d _ H => E cls d H) := takes_of rfl rfl rfl rfl
  have po : PassesOwn (model P w) (A.deeper (envOfC (PySem.Str.ofString "is_polynomial") (defScope (top 13)) s.heap.objs.size (He.ga K (PySem.Str.ofString "is_polynomial")) cdv)) _ (cxOf (L2.CX P w) P w K mg base N5 (PySem.Str.ofString "is_polynomial") (defScope (top 13)) (He.ga K (PySem.Str.ofString "is_polynomial")) cdv A outer s H E).xe := passes_of (X := cxOf (L2.CX P w) P w K mg base N5 (PySem.Str.ofString "is_polynomial") (defScope (top 13)) (He.ga K (PySem.Str.ofString "is_polynomial")) cdv A outer s H E) rfl
  have hu := hr.units
  have hu1 : (A.deeper (envOfC (PySem.Str.ofString "is_polynomial") (defScope (top 13)) s.heap.objs.size (He.ga K (PySem.Str.ofString "is_polynomial")) cdv)).units + 65 < cLine := by have := hr.un; omega
  unfold d5
  exact (s_cons (s_if (PW.pt (w_or (t_not (t_val (e_isi x.C (by decide) rfl x.b_isinstance (e_var rfl (Or.inl rfl)) (c_ty rfl x.b_tuple (by decide +kernel))))) (w_or1 (t_not (t_val (e_fnB (c_all rfl) n_all rfl x.b_all (by decide +kernel) (d_cons (e_lc (own := [(PySem.Str.ofString "a", 1)]) rfl hN5 rfl (i_seq (e_var rfl (Or.inl rfl))) (blkOk_by (by kernel_rfl)) (fun _ _ _ _ _ => (gv_name (by decide) hN5 rfl (Or.inl rfl))) (fun _ _ _ _ _ => pts0) (fun _ _ _ _ _ => (e_call (IH.f0) hr rfl x.g_is_integer x.F0.kp (bN0 x) tk0 (d_cons (e_var rfl (Or.inl rfl)) d_nil) (len_cons len_nil)))) d_nil)))))))
    (s_one (s_ret e_bl))
    s_nil)
    (s_one (s_ret (e_or (e_cmp (r_eq hu) m_eq (e_var rfl (Or.inl rfl)) (e_tup d_nil len_nil) rfl) (e_one (e_cmp (r_ne hu) m_ne (e_idx (e_var rfl (Or.inl rfl)) e_int (fun _ _ => rfl)) e_int rfl))))))
/-- check_polynomial -/
theorem b6 {Γ : Calls} {k : Nat} (x : Ctx K mg) (hk : 2 ≤ k) (IH : AllOk P w K mg base x k Γ) (cdv : Value) (A : Around) (outer : List PySem.Env) (s : Shared) (H : Hp) (E : XK) (hr : Room k (A.deeper (envOfC (PySem.Str.ofString "check_polynomial") (defScope (top 14)) s.heap.objs.size (He.ga K (PySem.Str.ofString "check_polynomial")) cdv))) :
    PSs (cxOf (L2.CX P w) P w K mg base N6 (PySem.Str.ofString "check_polynomial") (defScope (top 14)) (He.ga K (PySem.Str.ofString "check_polynomial")) cdv A outer s H E) (defBody (top 14)) (tS K (ca K) (fun cls d _ H => E cls d H) (d6 Γ)) := by
  have tk : Takes (cxOf (L2.CX P w) P w K mg base N6 (PySem.Str.ofString "check_polynomial") (defScope (top 14)) (He.ga K (PySem.Str.ofString "check_polynomial")) cdv A outer s H E) (fun cls d _ H => E cls d H) := takes_of rfl rfl rfl rfl
  have po : PassesOwn (model P w) (A.deeper (envOfC (PySem.Str.ofString "check_polynomial") (defScope (top 14)) s.heap.objs.size (He.ga K (PySem.Str.ofString "check_polynomial")) cdv)) _ (cxOf (L2.CX P w) P w K mg base N6 (PySem.Str.ofString "check_polynomial") (defScope (top 14)) (He.ga K (PySem.Str.ofString "check_polynomial")) cdv A outer s H E).xe := passes_of (X := cxOf (L2.CX P w) P w K mg base N6 (PySem.Str.ofString "check_polynomial") (defScope (top 14)) (He.ga K (PySem.Str.ofString "check_polynomial")) cdv A outer s H E) rfl
  have hu := hr.units
  have hu1 : (A.deeper (envOfC (PySem.Str.ofString "check_polynomial") (defScope (top 14)) s.heap.objs.size (He.ga K (PySem.Str.ofString "check_polynomial")) cdv)).units + 65 < cLine := by have := hr.un; omega
  unfold d6
  exact (s_one (s_if (t_not (t_val (e_call (IH.f5) hr rfl x.g_is_polynomial x.F5.kp (bN5 x) tk (d_cons (e_var rfl (Or.inl rfl)) d_nil) (len_cons len_nil))))
    (s_one (s_raise (c := 2) rfl tk (x.ex 2 (by decide)) x.tI (init x) (hr.mono hk) (bI x) rfl x.g_InvalidPolynomial (e_var rfl (Or.inl rfl))))
    s_nil))
/-- stripped -/
theorem b7 {Γ : Calls} {k : Nat} (x : Ctx K mg) (hk : 2 ≤ k) (IH : AllOk P w K mg base x k Γ) (cdv : Value) (A : Around) (outer : List PySem.Env) (s : Shared) (H : Hp) (E : XK) (hr : Room k (A.deeper (envOfC (PySem.Str.ofString "stripped") (defScope (top 15)) s.heap.objs.size (He.ga K (PySem.Str.ofString "stripped")) cdv))) :
    PSs (cxOf (L2.CX P w) P w K mg base N7 (PySem.Str.ofString "stripped") (defScope (top 15)) (He.ga K (PySem.Str.ofString "stripped")) cdv A outer s H E) (defBody (top 15)) (tS K (ca K) (fun cls d _ H => E cls d H) (d7 Γ)) := by
  have tk : Takes (cxOf (L2.CX P w) P w K mg base N7 (PySem.Str.ofString "stripped") (defScope (top 15)) (He.ga K (PySem.Str.ofString "stripped")) cdv A outer s H E) (fun cls d _ H => E cls d H) := takes_of rfl rfl rfl rfl
  have po : PassesOwn (model P w) (A.deeper (envOfC (PySem.Str.ofString "stripped") (defScope (top 15)) s.heap.objs.size (He.ga K (PySem.Str.ofString "stripped")) cdv)) _ (cxOf (L2.CX P w) P w K mg base N7 (PySem.Str.ofString "stripped") (defScope (top 15)) (He.ga K (PySem.Str.ofString "stripped")) cdv A outer s H E).xe := passes_of (X := cxOf (L2.CX P w) P w K mg base N7 (PySem.Str.ofString "stripped") (defScope (top 15)) (He.ga K (PySem.Str.ofString "stripped")) cdv A outer s H E) rfl
  have hu := hr.units
  have hu1 : (A.deeper (envOfC (PySem.Str.ofString "stripped") (defScope (top 15)) s.heap.objs.size (He.ga K (PySem.Str.ofString "stripped")) cdv)).units + 65 < cLine := by have := hr.un; omega
  unfold d7
  exact (s_cons (s_set (i := 2) hN7 rfl (Or.inl rfl) e_int)
    (s_cons (s_while po (PW.pt (w_and (t_cmp r_lt m_lt (e_var rfl (Or.inl rfl)) (e_fnB c_len n_len rfl x.b_len (by decide +kernel) (d_cons (e_var rfl (Or.inl rfl)) d_nil)) rfl) (w_and1 (t_cmp (r_eq hu) m_eq (e_idx (e_var rfl (Or.inl rfl)) (e_var rfl (Or.inl rfl)) (fun _ _ => rfl)) (e_var rfl (Or.inl rfl)) rfl))))
    (s_one (s_set (i := 2) hN7 rfl (Or.inl rfl) (e_bin r_cat m_cat (e_var rfl (Or.inl rfl)) e_int))))
    (s_one (s_ret (e_fnT c_tuple n_tuple rfl x.b_tuple (by decide +kernel) (d_cons (e_sl (e_var rfl (Or.inl rfl)) (o_some (e_var rfl (Or.inl rfl))) o_none) d_nil))))))
/-- value_of -/
theorem b8 {Γ : Calls} {k : Nat} (x : Ctx K mg) (hk : 2 ≤ k) (IH : AllOk P w K mg base x k Γ) (cdv : Value) (A : Around) (outer : List PySem.Env) (s : Shared) (H : Hp) (E : XK) (hr : Room k (A.deeper (envOfC (PySem.Str.ofString "value_of") (defScope (top 16)) s.heap.objs.size (He.ga K (PySem.Str.ofString "value_of")) cdv))) :
    PSs (cxOf (L2.CX P w) P w K mg base N8 (PySem.Str.ofString "value_of") (defScope (top 16)) (He.ga K (PySem.Str.ofString "value_of")) cdv A outer s H E) (defBody (top 16)) (tS K (ca K) (fun cls d _ H => E cls d H) (d8 Γ)) := by
  have tk : Takes (cxOf (L2.CX P w) P w K mg base N8 (PySem.Str.ofString "value_of") (defScope (top 16)) (He.ga K (PySem.Str.ofString "value_of")) cdv A outer s H E) (fun cls d _ H => E cls d H) := takes_of rfl rfl rfl rfl
  have po : PassesOwn (model P w) (A.deeper (envOfC (PySem.Str.ofString "value_of") (defScope (top 16)) s.heap.objs.size (He.ga K (PySem.Str.ofString "value_of")) cdv)) _ (cxOf (L2.CX P w) P w K mg base N8 (PySem.Str.ofString "value_of") (defScope (top 16)) (He.ga K (PySem.Str.ofString "value_of")) cdv A outer s H E).xe := passes_of (X := cxOf (L2.CX P w) P w K mg base N8 (PySem.Str.ofString "value_of") (defScope (top 16)) (He.ga K (PySem.Str.ofString "value_of")) cdv A outer s H E) rfl
  have hu := hr.units
  have hu1 : (A.deeper (envOfC (PySem.Str.ofString "value_of") (defScope (top 16)) s.heap.objs.size (He.ga K (PySem.Str.ofString "value_of")) cdv)).units + 65 < cLine := by have := hr.un; omega
  unfold d8
  exact (s_cons (s_asg (e_tup (d_cons e_int (d_cons e_int d_nil)) (len_cons (len_cons len_nil))) (g_tup rfl (gs_cons (g_name hN8 rfl (Or.inl rfl)) (gs_cons (g_name hN8 rfl (Or.inl rfl)) gs_nil))))
    (s_cons (s_for po rfl (i_enumA rfl x.b_enumerate (e_var rfl (Or.inl rfl))) (g_tup rfl (gs_cons (g_name hN8 rfl (Or.inl rfl)) (gs_cons (g_name hN8 rfl (Or.inl rfl)) gs_nil)))
    (s_cons (s_set (i := 3) hN8 rfl (Or.inl rfl) (e_ifExp (t_cmp r_gt m_gt (e_var rfl (Or.inl rfl)) e_int rfl) (e_bin r_rep m_rep (e_var rfl (Or.inl rfl)) (e_idx (e_var rfl (Or.inl rfl)) e_int (fun _ _ => rfl))) e_int))
    (s_one (s_set (i := 2) hN8 rfl (Or.inl rfl) (e_bin r_cat m_cat (e_bin r_rep m_rep (e_var rfl (Or.inl rfl)) (e_idx (e_var rfl (Or.inl rfl)) e_int (fun _ _ => rfl))) (e_bin r_rep m_rep (e_var rfl (Or.inl rfl)) (e_var rfl (Or.inl rfl))))))))
    (s_one (s_ret (e_call (IH.f1) hr rfl x.g_lowest x.F1.kp (bN1 x) tk (d_cons (e_var rfl (Or.inl rfl)) (d_cons (e_var rfl (Or.inl rfl)) d_nil)) (len_cons (len_cons len_nil)))))))
/-- value -/
theorem b9 {Γ : Calls} {k : Nat} (x : Ctx K mg) (hk : 2 ≤ k) (IH : AllOk P w K mg base x k Γ) (cdv : Value) (A : Around) (outer : List PySem.Env) (s : Shared) (H : Hp) (E : XK) (hr : Room k (A.deeper (envOfC (PySem.Str.ofString "value") (defScope (top 17)) s.heap.objs.size (He.ga K (PySem.Str.ofString "value")) cdv))) :
    PSs (cxOf (L2.CX P w) P w K mg base N9 (PySem.Str.ofString "value") (defScope (top 17)) (He.ga K (PySem.Str.ofString "value")) cdv A outer s H E) (defBody (top 17)) (tS K (ca K) (fun cls d _ H => E cls d H) (d9 Γ)) := by
  have tk : Takes (cxOf (L2.CX P w) P w K mg base N9 (PySem.Str.ofString "value") (defScope (top 17)) (He.ga K (PySem.Str.ofString "value")) cdv A outer s H E) (fun cls d _ H => E cls d H) := takes_of rfl rfl rfl rfl
  have po : PassesOwn (model P w) (A.deeper (envOfC (PySem.Str.ofString "value") (defScope (top 17)) s.heap.objs.size (He.ga K (PySem.Str.ofString "value")) cdv)) _ (cxOf (L2.CX P w) P w K mg base N9 (PySem.Str.ofString "value") (defScope (top 17)) (He.ga K (PySem.Str.ofString "value")) cdv A outer s H E).xe := passes_of (X := cxOf (L2.CX P w) P w K mg base N9 (PySem.Str.ofString "value") (defScope (top 17)) (He.ga K (PySem.Str.ofString "value")) cdv A outer s H E) rfl
  have hu := hr.units
  have hu1 : (A.deeper (envOfC (PySem.Str.ofString "value") (defScope (top 17)) s.heap.objs.size (He.ga K (PySem.Str.ofString "value")) cdv)).units + 65 < cLine := by have := hr.un; omega
  unfold d9
  exact (s_cons (s_expr (e_call (IH.f6) hr rfl x.g_check_polynomial x.F6.kp (bN6 x) tk (d_cons (e_var rfl (Or.inl rfl)) d_nil) (len_cons len_nil)))
    (s_cons (s_expr (e_call (IH.f3) hr rfl x.g_check_number x.F3.kp (bN3 x) tk (d_cons (e_var rfl (Or.inl rfl)) d_nil) (len_cons len_nil)))
    (s_one (s_ret (e_call (IH.f8) hr rfl x.g_value_of x.F8.kp (bN8 x) tk (d_cons (e_var rfl (Or.inl rfl)) (d_cons (e_var rfl (Or.inl rfl)) d_nil)) (len_cons (len_cons len_nil)))))))
/-- padded -/
theorem b10 {Γ : Calls} {k : Nat} (x : Ctx K mg) (hk : 2 ≤ k) (IH : AllOk P w K mg base x k Γ) (cdv : Value) (A : Around) (outer : List PySem.Env) (s : Shared) (H : Hp) (E : XK) (hr : Room k (A.deeper (envOfC (PySem.Str.ofString "padded") (defScope (top 18)) s.heap.objs.size (He.ga K (PySem.Str.ofString "padded")) cdv))) :
    PSs (cxOf (L2.CX P w) P w K mg base N10 (PySem.Str.ofString "padded") (defScope (top 18)) (He.ga K (PySem.Str.ofString "padded")) cdv A outer s H E) (defBody (top 18)) (tS K (ca K) (fun cls d _ H => E cls d H) (d10 Γ)) := by
  have tk : Takes (cxOf (L2.CX P w) P w K mg base N10 (PySem.Str.ofString "padded") (defScope (top 18)) (He.ga K (PySem.Str.ofString "padded")) cdv A outer s H E) (fun cls d _ H => E cls d H) := takes_of rfl rfl rfl rfl
  have po : PassesOwn (model P w) (A.deeper (envOfC (PySem.Str.ofString "padded") (defScope (top 18)) s.heap.objs.size (He.ga K (PySem.Str.ofString "padded")) cdv)) _ (cxOf (L2.CX P w) P w K mg base N10 (PySem.Str.ofString "padded") (defScope (top 18)) (He.ga K (PySem.Str.ofString "padded")) cdv A outer s H E).xe := passes_of (X := cxOf (L2.CX P w) P w K mg base N10 (PySem.Str.ofString "padded") (defScope (top 18)) (He.ga K (PySem.Str.ofString "padded")) cdv A outer s H E) rfl
  have hu := hr.units
  have hu1 : (A.deeper (envOfC (PySem.Str.ofString "padded") (defScope (top 18)) s.heap.objs.size (He.ga K (PySem.Str.ofString "padded")) cdv)).units + 65 < cLine := by have := hr.un; omega
  unfold d10
  exact (s_one (s_ret (e_bin r_cat m_cat (e_bin r_repA m_repA (e_tup (d_cons (e_var rfl (Or.inl rfl)) d_nil) (len_cons len_nil)) (e_bin r_sub m_sub (e_var rfl (Or.inl rfl)) (e_fnB c_len n_len rfl x.b_len (by decide +kernel) (d_cons (e_var rfl (Or.inl rfl)) d_nil)))) (e_fnT c_tuple n_tuple rfl x.b_tuple (by decide +kernel) (d_cons (e_var rfl (Or.inl rfl)) d_nil)))))
/-- sum_of -/
theorem b11 {Γ : Calls} {k : Nat} (x : Ctx K mg) (hk : 2 ≤ k) (IH : AllOk P w K mg base x k Γ) (cdv : Value) (A : Around) (outer : List PySem.Env) (s : Shared) (H : Hp) (E : XK) (hr : Room k (A.deeper (envOfC (PySem.Str.ofString "sum_of") (defScope (top 19)) s.heap.objs.size (He.ga K (PySem.Str.ofString "sum_of")) cdv))) :
    PSs (cxOf (L2.CX P w) P w K mg base N11 (PySem.Str.ofString "sum_of") (defScope (top 19)) (He.ga K (PySem.Str.ofString "sum_of")) cdv A outer s H E) (defBody (top 19)) (tS K (ca K) (fun cls d _ H => E cls d H) (d11 Γ)) := by
  have tk : Takes (cxOf (L2.CX P w) P w K mg base N11 (PySem.Str.ofString "sum_of") (defScope (top 19)) (He.ga K (PySem.Str.ofString "sum_of")) cdv A outer s H E) (fun cls d _ H => E cls d H) := takes_of rfl rfl rfl rfl
  have po : PassesOwn (model P w) (A.deeper (envOfC (PySem.Str.ofString "sum_of") (defScope (top 19)) s.heap.objs.size (He.ga K (PySem.Str.ofString "sum_of")) cdv)) _ (cxOf (L2.CX P w) P w K mg base N11 (PySem.Str.ofString "sum_of") (defScope (top 19)) (He.ga K (PySem.Str.ofString "sum_of")) cdv A outer s H E).xe := passes_of (X := cxOf (L2.CX P w) P w K mg base N11 (PySem.Str.ofString "sum_of") (defScope (top 19)) (He.ga K (PySem.Str.ofString "sum_of")) cdv A outer s H E) rfl
  have hu := hr.units
  have hu1 : (A.deeper (envOfC (PySem.Str.ofString "sum_of") (defScope (top 19)) s.heap.objs.size (He.ga K (PySem.Str.ofString "sum_of")) cdv)).units + 65 < cLine := by have := hr.un; omega
  unfold d11
  exact (s_cons (s_set (i := 2) hN11 rfl (Or.inl rfl) (e_fnB (c_max2 rfl) n_max2 rfl x.b_max (by decide +kernel) (d_cons (e_fnB c_len n_len rfl x.b_len (by decide +kernel) (d_cons (e_var rfl (Or.inl rfl)) d_nil)) (d_cons (e_fnB c_len n_len rfl x.b_len (by decide +kernel) (d_cons (e_var rfl (Or.inl rfl)) d_nil)) d_nil))))
    (s_one (s_ret (e_call (IH.f7) hr rfl x.g_stripped x.F7.kp (bN7 x) tk (d_cons (e_lc (own := [(PySem.Str.ofString "a", 3), (PySem.Str.ofString "b", 4)]) rfl hN11 rfl (i_zip rfl x.b_zip (e_call (IH.f10) hr rfl x.g_padded x.F10.kp (bN10 x) tk (d_cons (e_var rfl (Or.inl rfl)) (d_cons (e_var rfl (Or.inl rfl)) (d_cons e_int d_nil))) (len_cons (len_cons (len_cons len_nil)))) (e_call (IH.f10) hr rfl x.g_padded x.F10.kp (bN10 x) tk (d_cons (e_var rfl (Or.inl rfl)) (d_cons (e_var rfl (Or.inl rfl)) (d_cons e_int d_nil))) (len_cons (len_cons (len_cons len_nil))))) (blkOk_by (by kernel_rfl)) (fun _ _ _ _ _ => (gv_tup rfl (gvs_cons (gv_name (by decide) hN11 rfl (Or.inl rfl)) (gvs_cons (gv_name (by decide) hN11 rfl (Or.inl rfl)) gvs_nil)))) (fun _ _ _ _ _ => pts0) (fun _ _ _ _ _ => (e_bin r_cat m_cat (e_var rfl (Or.inl rfl)) (e_var rfl (Or.inl rfl))))) (d_cons e_int d_nil)) (len_cons (len_cons len_nil))))))
/-- times_of_two -/
theorem b12 {Γ : Calls} {k : Nat} (x : Ctx K mg) (hk : 2 ≤ k) (IH : AllOk P w K mg base x k Γ) (cdv : Value) (A : Around) (outer : List PySem.Env) (s : Shared) (H : Hp) (E : XK) (hr : Room k (A.deeper (envOfC (PySem.Str.ofString "times_of_two") (defScope (top 20)) s.heap.objs.size (He.ga K (PySem.Str.ofString "times_of_two")) cdv))) :
    PSs (cxOf (L2.CX P w) P w K mg base N12 (PySem.Str.ofString "times_of_two") (defScope (top 20)) (He.ga K (PySem.Str.ofString "times_of_two")) cdv A outer s H E) (defBody (top 20)) (tS K (ca K) (fun cls d _ H => E cls d H) (d12 Γ)) := by
  have tk : Takes (cxOf (L2.CX P w) P w K mg base N12 (PySem.Str.ofString "times_of_two") (defScope (top 20)) (He.ga K (PySem.Str.ofString "times_of_two")) cdv A outer s H E) (fun cls d _ H => E cls d H) := takes_of rfl rfl rfl rfl
  have po : PassesOwn (model P w) (A.deeper (envOfC (PySem.Str.ofString "times_of_two") (defScope (top 20)) s.heap.objs.size (He.ga K (PySem.Str.ofString "times_of_two")) cdv)) _ (cxOf (L2.CX P w) P w K mg base N12 (PySem.Str.ofString "times_of_two") (defScope (top 20)) (He.ga K (PySem.Str.ofString "times_of_two")) cdv A outer s H E).xe := passes_of (X := cxOf (L2.CX P w) P w K mg base N12 (PySem.Str.ofString "times_of_two") (defScope (top 20)) (He.ga K (PySem.Str.ofString "times_of_two")) cdv A outer s H E) rfl
  have hu := hr.units
  have hu1 : (A.deeper (envOfC (PySem.Str.ofString "times_of_two") (defScope (top 20)) s.heap.objs.size (He.ga K (PySem.Str.ofString "times_of_two")) cdv)).units + 65 < cLine := by have := hr.un; omega
  unfold d12
  exact (s_cons (s_set (i := 2) hN12 rfl (Or.inl rfl) (f_new (f_rep (f_val (f_lst (d_cons e_int d_nil) (len_cons len_nil))) (e_fnB (c_max2 rfl) n_max2 rfl x.b_max (by decide +kernel) (d_cons e_int (d_cons (e_bin r_sub m_sub (e_bin r_cat m_cat (e_fnB c_len n_len rfl x.b_len (by decide +kernel) (d_cons (e_var rfl (Or.inl rfl)) d_nil)) (e_fnB c_len n_len rfl x.b_len (by decide +kernel) (d_cons (e_var rfl (Or.inl rfl)) d_nil))) e_int) d_nil))))))
    (s_cons (s_for po rfl (i_enumA rfl x.b_enumerate (e_var rfl (Or.inl rfl))) (g_tup rfl (gs_cons (g_name hN12 rfl (Or.inl rfl)) (gs_cons (g_name hN12 rfl (Or.inl rfl)) gs_nil)))
    (s_one (s_for po rfl (i_enumA rfl x.b_enumerate (e_var rfl (Or.inl rfl))) (g_tup rfl (gs_cons (g_name hN12 rfl (Or.inl rfl)) (gs_cons (g_name hN12 rfl (Or.inl rfl)) gs_nil)))
    (s_one (s_setI (e_bin r_cat m_cat (e_idx (e_var rfl (Or.inl rfl)) (e_bin r_cat m_cat (e_var rfl (Or.inl rfl)) (e_var rfl (Or.inl rfl))) (fun _ _ => rfl)) (e_bin r_rep m_rep (e_var rfl (Or.inl rfl)) (e_var rfl (Or.inl rfl)))) (e_var rfl (Or.inl rfl)) (e_bin r_cat m_cat (e_var rfl (Or.inl rfl)) (e_var rfl (Or.inl rfl))))))))
    (s_one (s_ret (e_ifExp (PW.pt (w_and (t_cmp (r_ne hu) m_ne (e_var rfl (Or.inl rfl)) (e_tup d_nil len_nil) rfl) (w_and1 (t_cmp (r_ne hu) m_ne (e_var rfl (Or.inl rfl)) (e_tup d_nil len_nil) rfl)))) (e_fnT c_tuple n_tuple rfl x.b_tuple (by decide +kernel) (d_cons (e_var rfl (Or.inl rfl)) d_nil)) (e_tup d_nil len_nil))))))
/-- scaled_by -/
theorem b13 {Γ : Calls} {k : Nat} (x : Ctx K mg) (hk : 2 ≤ k) (IH : AllOk P w K mg base x k Γ) (cdv : Value) (A : Around) (outer : List PySem.Env) (s : Shared) (H : Hp) (E : XK) (hr : Room k (A.deeper (envOfC (PySem.Str.ofString "scaled_by") (defScope (top 21)) s.heap.objs.size (He.ga K (PySem.Str.ofString "scaled_by")) cdv))) :
    PSs (cxOf (L2.CX P w) P w K mg base N13 (PySem.Str.ofString "scaled_by") (defScope (top 21)) (He.ga K (PySem.Str.ofString "scaled_by")) cdv A outer s H E) (defBody (top 21)) (tS K (ca K) (fun cls d _ H => E cls d H) (d13 Γ)) := by
  have tk : Takes (cxOf (L2.CX P w) P w K mg base N13 (PySem.Str.ofString "scaled_by") (defScope (top 21)) (He.ga K (PySem.Str.ofString "scaled_by")) cdv A outer s H E) (fun cls d _ H => E cls d H) := takes_of rfl rfl rfl rfl
  have po : PassesOwn (model P w) (A.deeper (envOfC (PySem.Str.ofString "scaled_by") (defScope (top 21)) s.heap.objs.size (He.ga K (PySem.Str.ofString "scaled_by")) cdv)) _ (cxOf (L2.CX P w) P w K mg base N13 (PySem.Str.ofString "scaled_by") (defScope (top 21)) (He.ga K (PySem.Str.ofString "scaled_by")) cdv A outer s H E).xe := passes_of (X := cxOf (L2.CX P w) P w K mg base N13 (PySem.Str.ofString "scaled_by") (defScope (top 21)) (He.ga K (PySem.Str.ofString "scaled_by")) cdv A outer s H E) rfl
  have hu := hr.units
  have hu1 : (A.deeper (envOfC (PySem.Str.ofString "scaled_by") (defScope (top 21)) s.heap.objs.size (He.ga K (PySem.Str.ofString "scaled_by")) cdv)).units + 65 < cLine := by have := hr.un; omega
  unfold d13
  exact (s_one (s_ret (e_ifExp (t_cmp (r_ne hu) m_ne (e_var rfl (Or.inr (Or.inl rfl))) e_int rfl) (e_fnT c_tuple n_tuple rfl x.b_tuple (by decide +kernel) (d_cons (e_lc (own := [(PySem.Str.ofString "a", 2)]) rfl hN13 rfl (i_seq (e_var rfl (Or.inl rfl))) (blkOk_by (by kernel_rfl)) (fun _ _ _ _ _ => (gv_name (by decide) hN13 rfl (Or.inl rfl))) (fun _ _ _ _ _ => pts0) (fun _ _ _ _ _ => (e_bin r_rep m_rep (e_var rfl (Or.inr (Or.inl rfl))) (e_var rfl (Or.inl rfl))))) d_nil)) (e_tup d_nil len_nil))))
/-- plus -/
theorem b14 {Γ : Calls} {k : Nat} (x : Ctx K mg) (hk : 2 ≤ k) (IH : AllOk P w K mg base x k Γ) (cdv : Value) (A : Around) (outer : List PySem.Env) (s : Shared) (H : Hp) (E : XK) (hr : Room k (A.deeper (envOfC (PySem.Str.ofString "plus") (defScope (top 22)) s.heap.objs.size (He.ga K (PySem.Str.ofString "plus")) cdv))) :
    PSs (cxOf (L2.CX P w) P w K mg base N14 (PySem.Str.ofString "plus") (defScope (top 22)) (He.ga K (PySem.Str.ofString "plus")) cdv A outer s H E) (defBody (top 22)) (tS K (ca K) (fun cls d _ H => E cls d H) (d14 Γ)) := by
  have tk : Takes (cxOf (L2.CX P w) P w K mg base N14 (PySem.Str.ofString "plus") (defScope (top 22)) (He.ga K (PySem.Str.ofString "plus")) cdv A outer s H E) (fun cls d _ H => E cls d H) := takes_of rfl rfl rfl rfl
  have po : PassesOwn (model P w) (A.deeper (envOfC (PySem.Str.ofString "plus") (defScope (top 22)) s.heap.objs.size (He.ga K (PySem.Str.ofString "plus")) cdv)) _ (cxOf (L2.CX P w) P w K mg base N14 (PySem.Str.ofString "plus") (defScope (top 22)) (He.ga K (PySem.Str.ofString "plus")) cdv A outer s H E).xe := passes_of (X := cxOf (L2.CX P w) P w K mg base N14 (PySem.Str.ofString "plus") (defScope (top 22)) (He.ga K (PySem.Str.ofString "plus")) cdv A outer s H E) rfl
  have hu := hr.units
  have hu1 : (A.deeper (envOfC (PySem.Str.ofString "plus") (defScope (top 22)) s.heap.objs.size (He.ga K (PySem.Str.ofString "plus")) cdv)).units + 65 < cLine := by have := hr.un; omega
  unfold d14
  exact (s_cons (s_expr (e_call (IH.f6) hr rfl x.g_check_polynomial x.F6.kp (bN6 x) tk (d_cons (e_var rfl (Or.inl rfl)) d_nil) (len_cons len_nil)))
    (s_cons (s_expr (e_call (IH.f6) hr rfl x.g_check_polynomial x.F6.kp (bN6 x) tk (d_cons (e_var rfl (Or.inl rfl)) d_nil) (len_cons len_nil)))
    (s_one (s_ret (e_call (IH.f11) hr rfl x.g_sum_of x.F11.kp (bN11 x) tk (d_cons (e_var rfl (Or.inl rfl)) (d_cons (e_var rfl (Or.inl rfl)) d_nil)) (len_cons (len_cons len_nil)))))))
/-- times -/
theorem b15 {Γ : Calls} {k : Nat} (x : Ctx K mg) (hk : 2 ≤ k) (IH : AllOk P w K mg base x k Γ) (cdv : Value) (A : Around) (outer : List PySem.Env) (s : Shared) (H : Hp) (E : XK) (hr : Room k (A.deeper (envOfC (PySem.Str.ofString "times") (defScope (top 23)) s.heap.objs.size (He.ga K (PySem.Str.ofString "times")) cdv))) :
    PSs (cxOf (L2.CX P w) P w K mg base N15 (PySem.Str.ofString "times") (defScope (top 23)) (He.ga K (PySem.Str.ofString "times")) cdv A outer s H E) (defBody (top 23)) (tS K (ca K) (fun cls d _ H => E cls d H) (d15 Γ)) := by
  have tk : Takes (cxOf (L2.CX P w) P w K mg base N15 (PySem.Str.ofString "times") (defScope (top 23)) (He.ga K (PySem.Str.ofString "times")) cdv A outer s H E) (fun cls d _ H => E cls d H) := takes_of rfl rfl rfl rfl
  have po : PassesOwn (model P w) (A.deeper (envOfC (PySem.Str.ofString "times") (defScope (top 23)) s.heap.objs.size (He.ga K (PySem.Str.ofString "times")) cdv)) _ (cxOf (L2.CX P w) P w K mg base N15 (PySem.Str.ofString "times") (defScope (top 23)) (He.ga K (PySem.Str.ofString "times")) cdv A outer s H E).xe := passes_of (X := cxOf (L2.CX P w) P w K mg base N15 (PySem.Str.ofString "times") (defScope (top 23)) (He.ga K (PySem.Str.ofString "times")) cdv A outer s H E) rfl
  have hu := hr.units
  have hu1 : (A.deeper (envOfC (PySem.Str.ofString "times") (defScope (top 23)) s.heap.objs.size (He.ga K (PySem.Str.ofString "times")) cdv)).units + 65 < cLine := by have := hr.un; omega
  unfold d15
  exact (s_cons (s_expr (e_call (IH.f6) hr rfl x.g_check_polynomial x.F6.kp (bN6 x) tk (d_cons (e_var rfl (Or.inl rfl)) d_nil) (len_cons len_nil)))
    (s_cons (s_expr (e_call (IH.f6) hr rfl x.g_check_polynomial x.F6.kp (bN6 x) tk (d_cons (e_var rfl (Or.inl rfl)) d_nil) (len_cons len_nil)))
    (s_one (s_ret (e_call (IH.f12) hr rfl x.g_times_of_two x.F12.kp (bN12 x) tk (d_cons (e_var rfl (Or.inl rfl)) (d_cons (e_var rfl (Or.inl rfl)) d_nil)) (len_cons (len_cons len_nil)))))))
/-- scaled -/
theorem b16 {Γ : Calls} {k : Nat} (x : Ctx K mg) (hk : 2 ≤ k) (IH : AllOk P w K mg base x k Γ) (cdv : Value) (A : Around) (outer : List PySem.Env) (s : Shared) (H : Hp) (E : XK) (hr : Room k (A.deeper (envOfC (PySem.Str.ofString "scaled") (defScope (top 24)) s.heap.objs.size (He.ga K (PySem.Str.ofString "scaled")) cdv))) :
    PSs (cxOf (L2.CX P w) P w K mg base N16 (PySem.Str.ofString "scaled") (defScope (top 24)) (He.ga K (PySem.Str.ofString "scaled")) cdv A outer s H E) (defBody (top 24)) (tS K (ca K) (fun cls d _ H => E cls d H) (d16 Γ)) := by
  have tk : Takes (cxOf (L2.CX P w) P w K mg base N16 (PySem.Str.ofString "scaled") (defScope (top 24)) (He.ga K (PySem.Str.ofString "scaled")) cdv A outer s H E) (fun cls d _ H => E cls d H) := takes_of rfl rfl rfl rfl
  have po : PassesOwn (model P w) (A.deeper (envOfC (PySem.Str.ofString "scaled") (defScope (top 24)) s.heap.objs.size (He.ga K (PySem.Str.ofString "scaled")) cdv)) _ (cxOf (L2.CX P w) P w K mg base N16 (PySem.Str.ofString "scaled") (defScope (top 24)) (He.ga K (PySem.Str.ofString "scaled")) cdv A outer s H E).xe := passes_of (X := cxOf (L2.CX P w) P w K mg base N16 (PySem.Str.ofString "scaled") (defScope (top 24)) (He.ga K (PySem.Str.ofString "scaled")) cdv A outer s H E) rfl
  have hu := hr.units
  have hu1 : (A.deeper (envOfC (PySem.Str.ofString "scaled") (defScope (top 24)) s.heap.objs.size (He.ga K (PySem.Str.ofString "scaled")) cdv)).units + 65 < cLine := by have := hr.un; omega
  unfold d16
  exact (s_cons (s_expr (e_call (IH.f6) hr rfl x.g_check_polynomial x.F6.kp (bN6 x) tk (d_cons (e_var rfl (Or.inl rfl)) d_nil) (len_cons len_nil)))
    (s_cons (s_expr (e_call (IH.f4) hr rfl x.g_check_integer x.F4.kp (bN4 x) tk (d_cons (e_var rfl (Or.inl rfl)) (d_cons e_non d_nil)) (len_cons (len_cons len_nil))))
    (s_one (s_ret (e_call (IH.f13) hr rfl x.g_scaled_by x.F13.kp (bN13 x) tk (d_cons (e_var rfl (Or.inl rfl)) (d_cons (e_var rfl (Or.inl rfl)) d_nil)) (len_cons (len_cons len_nil)))))))
/-- power -/
theorem b17 {Γ : Calls} {k : Nat} (x : Ctx K mg) (hk : 2 ≤ k) (IH : AllOk P w K mg base x k Γ) (cdv : Value) (A : Around) (outer : List PySem.Env) (s : Shared) (H : Hp) (E : XK) (hr : Room k (A.deeper (envOfC (PySem.Str.ofString "power") (defScope (top 25)) s.heap.objs.size (He.ga K (PySem.Str.ofString "power")) cdv))) :
    PSs (cxOf (L2.CX P w) P w K mg base N17 (PySem.Str.ofString "power") (defScope (top 25)) (He.ga K (PySem.Str.ofString "power")) cdv A outer s H E) (defBody (top 25)) (tS K (ca K) (fun cls d _ H => E cls d H) (d17 Γ)) := by
  have tk : Takes (cxOf (L2.CX P w) P w K mg base N17 (PySem.Str.ofString "power") (defScope (top 25)) (He.ga K (PySem.Str.ofString "power")) cdv A outer s H E) (fun cls d _ H => E cls d H) := takes_of rfl rfl rfl rfl
  have po : PassesOwn (model P w) (A.deeper (envOfC (PySem.Str.ofString "power") (defScope (top 25)) s.heap.objs.size (He.ga K (PySem.Str.ofString "power")) cdv)) _ (cxOf (L2.CX P w) P w K mg base N17 (PySem.Str.ofString "power") (defScope (top 25)) (He.ga K (PySem.Str.ofString "power")) cdv A outer s H E).xe := passes_of (X := cxOf (L2.CX P w) P w K mg base N17 (PySem.Str.ofString "power") (defScope (top 25)) (He.ga K (PySem.Str.ofString "power")) cdv A outer s H E) rfl
  have hu := hr.units
  have hu1 : (A.deeper (envOfC (PySem.Str.ofString "power") (defScope (top 25)) s.heap.objs.size (He.ga K (PySem.Str.ofString "power")) cdv)).units + 65 < cLine := by have := hr.un; omega
  unfold d17
  exact (s_cons (s_expr (e_call (IH.f6) hr rfl x.g_check_polynomial x.F6.kp (bN6 x) tk (d_cons (e_var rfl (Or.inl rfl)) d_nil) (len_cons len_nil)))
    (s_cons (s_expr (e_call (IH.f4) hr rfl x.g_check_integer x.F4.kp (bN4 x) tk (d_cons (e_var rfl (Or.inl rfl)) (d_cons e_int d_nil)) (len_cons (len_cons len_nil))))
    (s_cons (s_if (t_cmp r_gt m_gt (e_var rfl (Or.inl rfl)) e_int rfl)
    (s_one (s_raise (c := 3) rfl tk (x.ex 3 (by decide)) x.tI (init x) (hr.mono hk) (bI x) rfl x.g_InvalidInteger (e_var rfl (Or.inl rfl))))
    s_nil)
    (s_cons (s_set (i := 2) hN17 rfl (Or.inl rfl) (e_tup (d_cons e_int d_nil) (len_cons len_nil)))
    (s_cons (s_for po rfl (i_rng1 rfl x.b_range (e_var rfl (Or.inl rfl))) (g_name hN17 rfl (Or.inl rfl))
    (s_one (s_set (i := 2) hN17 rfl (Or.inl rfl) (e_call (IH.f12) hr rfl x.g_times_of_two x.F12.kp (bN12 x) tk (d_cons (e_var rfl (Or.inl rfl)) (d_cons (e_var rfl (Or.inl rfl)) d_nil)) (len_cons (len_cons len_nil))))))
    (s_one (s_ret (e_var rfl (Or.inl rfl)))))))))
/-- _law_take -/
theorem b18 {Γ : Calls} {k : Nat} (x : Ctx K mg) (hk : 2 ≤ k) (IH : AllOk P w K mg base x k Γ) (cdv : Value) (A : Around) (outer : List PySem.Env) (s : Shared) (H : Hp) (E : XK) (hr : Room k (A.deeper (envOfC (PySem.Str.ofString "_law_take") (defScope (top 27)) s.heap.objs.size (He.ga K (PySem.Str.ofString "_law_take")) cdv))) :
    PSs (cxOf (L2.CX P w) P w K mg base N18 (PySem.Str.ofString "_law_take") (defScope (top 27)) (He.ga K (PySem.Str.ofString "_law_take")) cdv A outer s H E) (defBody (top 27)) (tS K (ca K) (fun cls d _ H => E cls d H) (d18 Γ)) := by
  have tk : Takes (cxOf (L2.CX P w) P w K mg base N18 (PySem.Str.ofString "_law_take") (defScope (top 27)) (He.ga K (PySem.Str.ofString "_law_take")) cdv A outer s H E) (fun cls d _ H => E cls d H) := takes_of rfl rfl rfl rfl
  have po : PassesOwn (model P w) (A.deeper (envOfC (PySem.Str.ofString "_law_take") (defScope (top 27)) s.heap.objs.size (He.ga K (PySem.Str.ofString "_law_take")) cdv)) _ (cxOf (L2.CX P w) P w K mg base N18 (PySem.Str.ofString "_law_take") (defScope (top 27)) (He.ga K (PySem.Str.ofString "_law_take")) cdv A outer s H E).xe := passes_of (X := cxOf (L2.CX P w) P w K mg base N18 (PySem.Str.ofString "_law_take") (defScope (top 27)) (He.ga K (PySem.Str.ofString "_law_take")) cdv A outer s H E) rfl
  have hu := hr.units
  have hu1 : (A.deeper (envOfC (PySem.Str.ofString "_law_take") (defScope (top 27)) s.heap.objs.size (He.ga K (PySem.Str.ofString "_law_take")) cdv)).units + 65 < cLine := by have := hr.un; omega
  unfold d18
  exact (s_cons (s_if (PW.pt (w_and (t_cmp (r_eq hu) m_eq (e_idx (e_var rfl (Or.inl rfl)) e_int (fun _ _ => rfl)) e_int rfl) (w_and1 (t_cmp r_lt m_lt (e_idx (e_var rfl (Or.inl rfl)) e_int (fun _ _ => rfl)) (e_fnB c_len n_len rfl x.b_len (by decide +kernel) (d_cons (e_var rfl (Or.inl rfl)) d_nil)) rfl))))
    (s_cons (s_set (i := 2) hN18 rfl (Or.inl rfl) (e_idx (e_var rfl (Or.inl rfl)) (e_idx (e_var rfl (Or.inl rfl)) e_int (fun _ _ => rfl)) (fun _ _ => rfl)))
    (s_cons (s_augI ip_add (e_var rfl (Or.inl rfl)) e_int e_int)
    (s_one (s_if (t_cmp r_ge m_ge (e_var rfl (Or.inl rfl)) (e_bin r_pow m_pow e_int e_int) rfl)
    (s_one (s_setI (e_bin r_sub m_sub (e_var rfl (Or.inl rfl)) (e_bin r_pow m_pow e_int e_int)) (e_var rfl (Or.inl rfl)) e_int))
    (s_cons (s_set (i := 3) hN18 rfl (Or.inl rfl) (e_bin r_mod m_mod (e_fnT c_int n_int rfl x.b_int (by decide +kernel) (d_cons (e_var rfl (Or.inl rfl)) d_nil)) e_int))
    (s_cons (s_set (i := 3) hN18 rfl (Or.inl rfl) (e_bin r_mod m_mod (e_fnT c_int n_int rfl x.b_int (by decide +kernel) (d_cons (e_bin r_cat m_cat (e_bin r_cat m_cat (e_bin r_rep m_rep (e_var rfl (Or.inl rfl)) (e_var rfl (Or.inl rfl))) (e_bin r_rep m_rep e_int (e_var rfl (Or.inl rfl)))) (e_bin r_rep m_rep e_int (e_idx (e_var rfl (Or.inl rfl)) e_int (fun _ _ => rfl)))) d_nil)) e_int))
    (s_one (s_setI (e_bin r_mod m_mod (e_fnT c_int n_int rfl x.b_int (by decide +kernel) (d_cons (e_bin r_cat m_cat (e_idx (e_var rfl (Or.inl rfl)) e_int (fun _ _ => rfl)) (e_var rfl (Or.inl rfl))) d_nil)) e_int) (e_var rfl (Or.inl rfl)) e_int))))))))
    s_nil)
    (s_cons (s_if (t_cmp r_gt m_gt (e_idx (e_var rfl (Or.inl rfl)) e_int (fun _ _ => rfl)) e_int rfl)
    (s_cons (s_set (i := 4) hN18 rfl (Or.inl rfl) (e_bin r_mod m_mod (e_fnT c_int n_int rfl x.b_int (by decide +kernel) (d_cons (e_idx (e_var rfl (Or.inl rfl)) e_int (fun _ _ => rfl)) d_nil)) (e_var rfl (Or.inl rfl))))
    (s_cons (s_setI (e_bin r_fdiv m_fdiv (e_idx (e_var rfl (Or.inl rfl)) e_int (fun _ _ => rfl)) (e_var rfl (Or.inl rfl))) (e_var rfl (Or.inl rfl)) e_int)
    (s_one (s_ret (e_var rfl (Or.inl rfl))))))
    s_nil)
    (s_cons (s_setI (e_bin r_mod m_mod (e_fnT c_int n_int rfl x.b_int (by decide +kernel) (d_cons (e_bin r_cat m_cat (e_bin r_cat m_cat (e_bin r_rep m_rep (e_idx (e_var rfl (Or.inl rfl)) e_int (fun _ _ => rfl)) e_int) (e_bin r_rep m_rep e_int (e_idx (e_var rfl (Or.inl rfl)) e_int (fun _ _ => rfl)))) e_int) d_nil)) e_int) (e_var rfl (Or.inl rfl)) e_int)
    (s_cons (s_setI (e_bin r_mod m_mod (e_fnT c_int n_int rfl x.b_int (by decide +kernel) (d_cons (e_bin r_cat m_cat (e_bin r_rep m_rep (e_idx (e_var rfl (Or.inl rfl)) e_int (fun _ _ => rfl)) (e_idx (e_var rfl (Or.inl rfl)) e_int (fun _ _ => rfl))) e_int) d_nil)) e_int) (e_var rfl (Or.inl rfl)) e_int)
    (s_one (s_ret (e_bin r_mod m_mod (e_fnT c_int n_int rfl x.b_int (by decide +kernel) (d_cons (e_bin r_fdiv m_fdiv (e_idx (e_var rfl (Or.inl rfl)) e_int (fun _ _ => rfl)) e_int) d_nil)) (e_var rfl (Or.inl rfl)))))))))
/-- _law_same -/
theorem b19 {Γ : Calls} {k : Nat} (x : Ctx K mg) (hk : 2 ≤ k) (IH : AllOk P w K mg base x k Γ) (cdv : Value) (A : Around) (outer : List PySem.Env) (s : Shared) (H : Hp) (E : XK) (hr : Room k (A.deeper (envOfC (PySem.Str.ofString "_law_same") (defScope (top 28)) s.heap.objs.size (He.ga K (PySem.Str.ofString "_law_same")) cdv))) :
    PSs (cxOf (L2.CX P w) P w K mg base N19 (PySem.Str.ofString "_law_same") (defScope (top 28)) (He.ga K (PySem.Str.ofString "_law_same")) cdv A outer s H E) (defBody (top 28)) (tS K (ca K) (fun cls d _ H => E cls d H) (d19 Γ)) := by
  have tk : Takes (cxOf (L2.CX P w) P w K mg base N19 (PySem.Str.ofString "_law_same") (defScope (top 28)) (He.ga K (PySem.Str.ofString "_law_same")) cdv A outer s H E) (fun cls d _ H => E cls d H) := takes_of rfl rfl rfl rfl
  have po : PassesOwn (model P w) (A.deeper (envOfC (PySem.Str.ofString "_law_same") (defScope (top 28)) s.heap.objs.size (He.ga K (PySem.Str.ofString "_law_same")) cdv)) _ (cxOf (L2.CX P w) P w K mg base N19 (PySem.Str.ofString "_law_same") (defScope (top 28)) (He.ga K (PySem.Str.ofString "_law_same")) cdv A outer s H E).xe := passes_of (X := cxOf (L2.CX P w) P w K mg base N19 (PySem.Str.ofString "_law_same") (defScope (top 28)) (He.ga K (PySem.Str.ofString "_law_same")) cdv A outer s H E) rfl
  have hu := hr.units
  have hu1 : (A.deeper (envOfC (PySem.Str.ofString "_law_same") (defScope (top 28)) s.heap.objs.size (He.ga K (PySem.Str.ofString "_law_same")) cdv)).units + 65 < cLine := by have := hr.un; omega
  unfold d19
  exact (s_cons (s_if (t_isN (e_var rfl (Or.inr (Or.inl rfl))))
    (s_one (s_ret (e_isN (e_var rfl (Or.inr (Or.inl rfl))))))
    s_nil)
    (s_cons (s_if (t_val (e_isiN x.C (by decide) (by decide) rfl x.b_isinstance (e_var rfl (Or.inr (Or.inl rfl))) (cls_cons (c_ty rfl x.b_bool (by decide +kernel)) (cls_cons (c_ty rfl x.b_str (by decide +kernel)) cls_nil))))
    (s_one (s_ret (e_and (e_cmp (r_eq hu) m_eq (e_isi x.C (by decide) rfl x.b_isinstance (e_var rfl (Or.inr (Or.inl rfl))) (c_ty rfl x.b_bool (by decide +kernel))) (e_isi x.C (by decide) rfl x.b_isinstance (e_var rfl (Or.inr (Or.inl rfl))) (c_ty rfl x.b_bool (by decide +kernel))) rfl) (e_and (e_isiN x.C (by decide) (by decide) rfl x.b_isinstance (e_var rfl (Or.inr (Or.inl rfl))) (cls_cons (c_ty rfl x.b_bool (by decide +kernel)) (cls_cons (c_ty rfl x.b_str (by decide +kernel)) cls_nil))) (e_one (e_cmp (r_eq hu) m_eq (e_var rfl (Or.inr (Or.inl rfl))) (e_var rfl (Or.inr (Or.inl rfl))) rfl))))))
    s_nil)
    (s_cons (s_if (t_val (e_isi x.C (by decide) rfl x.b_isinstance (e_var rfl (Or.inr (Or.inl rfl))) (c_ty rfl x.b_int (by decide +kernel))))
    (s_one (s_ret (e_and (e_isi x.C (by decide) rfl x.b_isinstance (e_var rfl (Or.inr (Or.inl rfl))) (c_ty rfl x.b_int (by decide +kernel))) (e_and (e_not (e_isi x.C (by decide) rfl x.b_isinstance (e_var rfl (Or.inr (Or.inl rfl))) (c_ty rfl x.b_bool (by decide +kernel)))) (e_one (e_cmp (r_eq hu) m_eq (e_var rfl (Or.inr (Or.inl rfl))) (e_var rfl (Or.inr (Or.inl rfl))) rfl))))))
    s_nil)
    (s_cons (s_if (PW.pt (w_or (t_cmp (r_ne hu) m_ne (e_isi x.C (by decide) rfl x.b_isinstance (e_var rfl (Or.inr (Or.inl rfl))) (c_ty rfl x.b_list (by decide +kernel))) (e_isi x.C (by decide) rfl x.b_isinstance (e_var rfl (Or.inr (Or.inl rfl))) (c_ty rfl x.b_list (by decide +kernel))) rfl) (w_or1 (t_cmp (r_ne hu) m_ne (e_isi x.C (by decide) rfl x.b_isinstance (e_var rfl (Or.inr (Or.inl rfl))) (c_ty rfl x.b_tuple (by decide +kernel))) (e_isi x.C (by decide) rfl x.b_isinstance (e_var rfl (Or.inr (Or.inl rfl))) (c_ty rfl x.b_tuple (by decide +kernel))) rfl))))
    (s_one (s_ret e_bl))
    s_nil)
    (s_one (s_ret (e_and (e_cmp (r_eq hu) m_eq (e_fnB c_len n_len rfl x.b_len (by decide +kernel) (d_cons (e_var rfl (Or.inr (Or.inl rfl))) d_nil)) (e_fnB c_len n_len rfl x.b_len (by decide +kernel) (d_cons (e_var rfl (Or.inr (Or.inl rfl))) d_nil)) rfl) (e_one (e_fnB (c_all rfl) n_all rfl x.b_all (by decide +kernel) (d_cons (e_lc (own := [(PySem.Str.ofString "k", 2)]) rfl hN19 rfl (i_rng1 rfl x.b_range (e_fnB c_len n_len rfl x.b_len (by decide +kernel) (d_cons (e_var rfl (Or.inr (Or.inl rfl))) d_nil))) (blkOk_by (by kernel_rfl)) (fun _ _ _ _ _ => (gv_name (by decide) hN19 rfl (Or.inl rfl))) (fun _ _ _ _ _ => pts0) (fun _ _ _ _ _ => (e_call (IH.f19) hr rfl x.g__law_same x.F19.kp (bN19 x) tk0 (d_cons (e_idx (e_var rfl (Or.inr (Or.inl rfl))) (e_var rfl (Or.inl rfl)) (fun _ _ => rfl)) (d_cons (e_idx (e_var rfl (Or.inr (Or.inl rfl))) (e_var rfl (Or.inl rfl)) (fun _ _ => rfl)) d_nil)) (len_cons (len_cons len_nil))))) d_nil))))))))))
/-- _law_low -/
theorem b20 {Γ : Calls} {k : Nat} (x : Ctx K mg) (hk : 2 ≤ k) (IH : AllOk P w K mg base x k Γ) (cdv : Value) (A : Around) (outer : List PySem.Env) (s : Shared) (H : Hp) (E : XK) (hr : Room k (A.deeper (envOfC (PySem.Str.ofString "_law_low") (defScope (top 29)) s.heap.objs.size (He.ga K (PySem.Str.ofString "_law_low")) cdv))) :
    PSs (cxOf (L2.CX P w) P w K mg base N20 (PySem.Str.ofString "_law_low") (defScope (top 29)) (He.ga K (PySem.Str.ofString "_law_low")) cdv A outer s H E) (defBody (top 29)) (tS K (ca K) (fun cls d _ H => E cls d H) (d20 Γ)) := by
  have tk : Takes (cxOf (L2.CX P w) P w K mg base N20 (PySem.Str.ofString "_law_low") (defScope (top 29)) (He.ga K (PySem.Str.ofString "_law_low")) cdv A outer s H E) (fun cls d _ H => E cls d H) := takes_of rfl rfl rfl rfl
  have po : PassesOwn (model P w) (A.deeper (envOfC (PySem.Str.ofString "_law_low") (defScope (top 29)) s.heap.objs.size (He.ga K (PySem.Str.ofString "_law_low")) cdv)) _ (cxOf (L2.CX P w) P w K mg base N20 (PySem.Str.ofString "_law_low") (defScope (top 29)) (He.ga K (PySem.Str.ofString "_law_low")) cdv A outer s H E).xe := passes_of (X := cxOf (L2.CX P w) P w K mg base N20 (PySem.Str.ofString "_law_low") (defScope (top 29)) (He.ga K (PySem.Str.ofString "_law_low")) cdv A outer s H E) rfl
  have hu := hr.units
  have hu1 : (A.deeper (envOfC (PySem.Str.ofString "_law_low") (defScope (top 29)) s.heap.objs.size (He.ga K (PySem.Str.ofString "_law_low")) cdv)).units + 65 < cLine := by have := hr.un; omega
  unfold d20
  exact (s_cons (s_par (i := 2) (j := 3) rfl hN20 rfl rfl (by decide) rfl rfl (e_fnB c_abs n_abs rfl x.b_abs (by decide +kernel) (d_cons (e_var rfl (Or.inl rfl)) d_nil)) (e_fnB c_abs n_abs rfl x.b_abs (by decide +kernel) (d_cons (e_var rfl (Or.inl rfl)) d_nil)) rfl)
    (s_cons (s_for po rfl (i_rng1 rfl x.b_range e_int) (g_name hN20 rfl (Or.inl rfl))
    (s_cons (s_if (t_cmp (r_eq hu) m_eq (e_var rfl (Or.inl rfl)) e_int rfl)
    (s_one s_brk)
    s_nil)
    (s_one (s_par (i := 2) (j := 3) rfl hN20 rfl rfl (by decide) rfl rfl (e_var rfl (Or.inl rfl)) (e_bin r_mod m_mod (e_fnT c_int n_int rfl x.b_int (by decide +kernel) (d_cons (e_var rfl (Or.inl rfl)) d_nil)) (e_var rfl (Or.inl rfl))) rfl))))
    (s_cons (s_set (i := 5) hN20 rfl (Or.inl rfl) (e_ifExp (t_cmp r_gt m_gt (e_var rfl (Or.inl rfl)) e_int rfl) e_int (e_un r_neg m_neg e_int)))
    (s_one (s_ret (e_tup (d_cons (e_bin r_fdiv m_fdiv (e_bin r_rep m_rep (e_var rfl (Or.inl rfl)) (e_var rfl (Or.inl rfl))) (e_var rfl (Or.inl rfl))) (d_cons (e_bin r_fdiv m_fdiv (e_bin r_rep m_rep (e_var rfl (Or.inl rfl)) (e_var rfl (Or.inl rfl))) (e_var rfl (Or.inl rfl))) d_nil)) (len_cons (len_cons len_nil))))))))
/-- _law_plus -/
theorem b21 {Γ : Calls} {k : Nat} (x : Ctx K mg) (hk : 2 ≤ k) (IH : AllOk P w K mg base x k Γ) (cdv : Value) (A : Around) (outer : List PySem.Env) (s : Shared) (H : Hp) (E : XK) (hr : Room k (A.deeper (envOfC (PySem.Str.ofString "_law_plus") (defScope (top 30)) s.heap.objs.size (He.ga K (PySem.Str.ofString "_law_plus")) cdv))) :
    PSs (cxOf (L2.CX P w) P w K mg base N21 (PySem.Str.ofString "_law_plus") (defScope (top 30)) (He.ga K (PySem.Str.ofString "_law_plus")) cdv A outer s H E) (defBody (top 30)) (tS K (ca K) (fun cls d _ H => E cls d H) (d21 Γ)) := by
  have tk : Takes (cxOf (L2.CX P w) P w K mg base N21 (PySem.Str.ofString "_law_plus") (defScope (top 30)) (He.ga K (PySem.Str.ofString "_law_plus")) cdv A outer s H E) (fun cls d _ H => E cls d H) := takes_of rfl rfl rfl rfl
  have po : PassesOwn (model P w) (A.deeper (envOfC (PySem.Str.ofString "_law_plus") (defScope (top 30)) s.heap.objs.size (He.ga K (PySem.Str.ofString "_law_plus")) cdv)) _ (cxOf (L2.CX P w) P w K mg base N21 (PySem.Str.ofString "_law_plus") (defScope (top 30)) (He.ga K (PySem.Str.ofString "_law_plus")) cdv A outer s H E).xe := passes_of (X := cxOf (L2.CX P w) P w K mg base N21 (PySem.Str.ofString "_law_plus") (defScope (top 30)) (He.ga K (PySem.Str.ofString "_law_plus")) cdv A outer s H E) rfl
  have hu := hr.units
  have hu1 : (A.deeper (envOfC (PySem.Str.ofString "_law_plus") (defScope (top 30)) s.heap.objs.size (He.ga K (PySem.Str.ofString "_law_plus")) cdv)).units + 65 < cLine := by have := hr.un; omega
  unfold d21
  exact (s_one (s_ret (e_call (IH.f20) hr rfl x.g__law_low x.F20.kp (bN20 x) tk (d_cons (e_bin r_cat m_cat (e_bin r_rep m_rep (e_idx (e_var rfl (Or.inl rfl)) e_int (fun _ _ => rfl)) (e_idx (e_var rfl (Or.inl rfl)) e_int (fun _ _ => rfl))) (e_bin r_rep m_rep (e_idx (e_var rfl (Or.inl rfl)) e_int (fun _ _ => rfl)) (e_idx (e_var rfl (Or.inl rfl)) e_int (fun _ _ => rfl)))) (d_cons (e_bin r_rep m_rep (e_idx (e_var rfl (Or.inl rfl)) e_int (fun _ _ => rfl)) (e_idx (e_var rfl (Or.inl rfl)) e_int (fun _ _ => rfl))) d_nil)) (len_cons (len_cons len_nil)))))
/-- _law_times -/
theorem b22 {Γ : Calls} {k : Nat} (x : Ctx K mg) (hk : 2 ≤ k) (IH : AllOk P w K mg base x k Γ) (cdv : Value) (A : Around) (outer : List PySem.Env) (s : Shared) (H : Hp) (E : XK) (hr : Room k (A.deeper (envOfC (PySem.Str.ofString "_law_times") (defScope (top 31)) s.heap.objs.size (He.ga K (PySem.Str.ofString "_law_times")) cdv))) :
    PSs (cxOf (L2.CX P w) P w K mg base N22 (PySem.Str.ofString "_law_times") (defScope (top 31)) (He.ga K (PySem.Str.ofString "_law_times")) cdv A outer s H E) (defBody (top 31)) (tS K (ca K) (fun cls d _ H => E cls d H) (d22 Γ)) := by
  have tk : Takes (cxOf (L2.CX P w) P w K mg base N22 (PySem.Str.ofString "_law_times") (defScope (top 31)) (He.ga K (PySem.Str.ofString "_law_times")) cdv A outer s H E) (fun cls d _ H => E cls d H) := takes_of rfl rfl rfl rfl
  have po : PassesOwn (model P w) (A.deeper (envOfC (PySem.Str.ofString "_law_times") (defScope (top 31)) s.heap.objs.size (He.ga K (PySem.Str.ofString "_law_times")) cdv)) _ (cxOf (L2.CX P w) P w K mg base N22 (PySem.Str.ofString "_law_times") (defScope (top 31)) (He.ga K (PySem.Str.ofString "_law_times")) cdv A outer s H E).xe := passes_of (X := cxOf (L2.CX P w) P w K mg base N22 (PySem.Str.ofString "_law_times") (defScope (top 31)) (He.ga K (PySem.Str.ofString "_law_times")) cdv A outer s H E) rfl
  have hu := hr.units
  have hu1 : (A.deeper (envOfC (PySem.Str.ofString "_law_times") (defScope (top 31)) s.heap.objs.size (He.ga K (PySem.Str.ofString "_law_times")) cdv)).units + 65 < cLine := by have := hr.un; omega
  unfold d22
  exact (s_one (s_ret (e_call (IH.f20) hr rfl x.g__law_low x.F20.kp (bN20 x) tk (d_cons (e_bin r_rep m_rep (e_idx (e_var rfl (Or.inl rfl)) e_int (fun _ _ => rfl)) (e_idx (e_var rfl (Or.inl rfl)) e_int (fun _ _ => rfl))) (d_cons (e_bin r_rep m_rep (e_idx (e_var rfl (Or.inl rfl)) e_int (fun _ _ => rfl)) (e_idx (e_var rfl (Or.inl rfl)) e_int (fun _ _ => rfl))) d_nil)) (len_cons (len_cons len_nil)))))
/-- _law_dot -/
theorem b23 {Γ : Calls} {k : Nat} (x : Ctx K mg) (hk : 2 ≤ k) (IH : AllOk P w K mg base x k Γ) (cdv : Value) (A : Around) (outer : List PySem.Env) (s : Shared) (H : Hp) (E : XK) (hr : Room k (A.deeper (envOfC (PySem.Str.ofString "_law_dot") (defScope (top 32)) s.heap.objs.size (He.ga K (PySem.Str.ofString "_law_dot")) cdv))) :
    PSs (cxOf (L2.CX P w) P w K mg base N23 (PySem.Str.ofString "_law_dot") (defScope (top 32)) (He.ga K (PySem.Str.ofString "_law_dot")) cdv A outer s H E) (defBody (top 32)) (tS K (ca K) (fun cls d _ H => E cls d H) (d23 Γ)) := by
  have tk : Takes (cxOf (L2.CX P w) P w K mg base N23 (PySem.Str.ofString "_law_dot") (defScope (top 32)) (He.ga K (PySem.Str.ofString "_law_dot")) cdv A outer s H E) (fun cls d _ H => E cls d H) := takes_of rfl rfl rfl rfl
  have po : PassesOwn (model P w) (A.deeper (envOfC (PySem.Str.ofString "_law_dot") (defScope (top 32)) s.heap.objs.size (He.ga K (PySem.Str.ofString "_law_dot")) cdv)) _ (cxOf (L2.CX P w) P w K mg base N23 (PySem.Str.ofString "_law_dot") (defScope (top 32)) (He.ga K (PySem.Str.ofString "_law_dot")) cdv A outer s H E).xe := passes_of (X := cxOf (L2.CX P w) P w K mg base N23 (PySem.Str.ofString "_law_dot") (defScope (top 32)) (He.ga K (PySem.Str.ofString "_law_dot")) cdv A outer s H E) rfl
  have hu := hr.units
  have hu1 : (A.deeper (envOfC (PySem.Str.ofString "_law_dot") (defScope (top 32)) s.heap.objs.size (He.ga K (PySem.Str.ofString "_law_dot")) cdv)).units + 65 < cLine := by have := hr.un; omega
  unfold d23
  exact (s_cons (s_set (i := 2) hN23 rfl (Or.inl rfl) (e_tup (d_cons e_int (d_cons e_int d_nil)) (len_cons (len_cons len_nil))))
    (s_cons (s_for po rfl (i_zip rfl x.b_zip (e_var rfl (Or.inl rfl)) (e_var rfl (Or.inl rfl))) (g_tup rfl (gs_cons (g_name hN23 rfl (Or.inl rfl)) (gs_cons (g_name hN23 rfl (Or.inl rfl)) gs_nil)))
    (s_one (s_if (PW.pt (w_and (t_cmp (r_ne hu) m_ne (e_idx (e_var rfl (Or.inl rfl)) e_int (fun _ _ => rfl)) e_int rfl) (w_and1 (t_cmp (r_ne hu) m_ne (e_idx (e_var rfl (Or.inl rfl)) e_int (fun _ _ => rfl)) e_int rfl))))
    (s_one (s_set (i := 2) hN23 rfl (Or.inl rfl) (e_call (IH.f21) hr rfl x.g__law_plus x.F21.kp (bN21 x) tk (d_cons (e_var rfl (Or.inl rfl)) (d_cons (e_call (IH.f22) hr rfl x.g__law_times x.F22.kp (bN22 x) tk (d_cons (e_var rfl (Or.inl rfl)) (d_cons (e_var rfl (Or.inl rfl)) d_nil)) (len_cons (len_cons len_nil))) d_nil)) (len_cons (len_cons len_nil)))))
    s_nil)))
    (s_one (s_ret (e_var rfl (Or.inl rfl))))))
/-- _law_trim -/
theorem b24 {Γ : Calls} {k : Nat} (x : Ctx K mg) (hk : 2 ≤ k) (IH : AllOk P w K mg base x k Γ) (cdv : Value) (A : Around) (outer : List PySem.Env) (s : Shared) (H : Hp) (E : XK) (hr : Room k (A.deeper (envOfC (PySem.Str.ofString "_law_trim") (defScope (top 33)) s.heap.objs.size (He.ga K (PySem.Str.ofString "_law_trim")) cdv))) :
    PSs (cxOf (L2.CX P w) P w K mg base N24 (PySem.Str.ofString "_law_trim") (defScope (top 33)) (He.ga K (PySem.Str.ofString "_law_trim")) cdv A outer s H E) (defBody (top 33)) (tS K (ca K) (fun cls d _ H => E cls d H) (d24 Γ)) := by
  have tk : Takes (cxOf (L2.CX P w) P w K mg base N24 (PySem.Str.ofString "_law_trim") (defScope (top 33)) (He.ga K (PySem.Str.ofString "_law_trim")) cdv A outer s H E) (fun cls d _ H => E cls d H) := takes_of rfl rfl rfl rfl
  have po : PassesOwn (model P w) (A.deeper (envOfC (PySem.Str.ofString "_law_trim") (defScope (top 33)) s.heap.objs.size (He.ga K (PySem.Str.ofString "_law_trim")) cdv)) _ (cxOf (L2.CX P w) P w K mg base N24 (PySem.Str.ofString "_law_trim") (defScope (top 33)) (He.ga K (PySem.Str.ofString "_law_trim")) cdv A outer s H E).xe := passes_of (X := cxOf (L2.CX P w) P w K mg base N24 (PySem.Str.ofString "_law_trim") (defScope (top 33)) (He.ga K (PySem.Str.ofString "_law_trim")) cdv A outer s H E) rfl
  have hu := hr.units
  have hu1 : (A.deeper (envOfC (PySem.Str.ofString "_law_trim") (defScope (top 33)) s.heap.objs.size (He.ga K (PySem.Str.ofString "_law_trim")) cdv)).units + 65 < cLine := by have := hr.un; omega
  unfold d24
  exact (s_cons (s_set (i := 1) hN24 rfl (Or.inl rfl) e_int)
    (s_cons (s_while po (PW.pt (w_and (t_cmp r_lt m_lt (e_var rfl (Or.inl rfl)) (e_fnB c_len n_len rfl x.b_len (by decide +kernel) (d_cons (e_var rfl (Or.inl rfl)) d_nil)) rfl) (w_and1 (t_cmp (r_inT hu1) m_inT (e_idx (e_var rfl (Or.inl rfl)) (e_var rfl (Or.inl rfl)) (fun _ _ => rfl)) (e_tup (d_cons e_int (d_cons (e_tup (d_cons e_int (d_cons e_int d_nil)) (len_cons (len_cons len_nil))) d_nil)) (len_cons (len_cons len_nil))) rfl))))
    (s_one (s_set (i := 1) hN24 rfl (Or.inl rfl) (e_bin r_cat m_cat (e_var rfl (Or.inl rfl)) e_int))))
    (s_one (s_ret (e_fnT c_tuple n_tuple rfl x.b_tuple (by decide +kernel) (d_cons (e_sl (e_var rfl (Or.inl rfl)) (o_some (e_var rfl (Or.inl rfl))) o_none) d_nil))))))
/-- _law_sum -/
theorem b25 {Γ : Calls} {k : Nat} (x : Ctx K mg) (hk : 2 ≤ k) (IH : AllOk P w K mg base x k Γ) (cdv : Value) (A : Around) (outer : List PySem.Env) (s : Shared) (H : Hp) (E : XK) (hr : Room k (A.deeper (envOfC (PySem.Str.ofString "_law_sum") (defScope (top 34)) s.heap.objs.size (He.ga K (PySem.Str.ofString "_law_sum")) cdv))) :
    PSs (cxOf (L2.CX P w) P w K mg base N25 (PySem.Str.ofString "_law_sum") (defScope (top 34)) (He.ga K (PySem.Str.ofString "_law_sum")) cdv A outer s H E) (defBody (top 34)) (tS K (ca K) (fun cls d _ H => E cls d H) (d25 Γ)) := by
  have tk : Takes (cxOf (L2.CX P w) P w K mg base N25 (PySem.Str.ofString "_law_sum") (defScope (top 34)) (He.ga K (PySem.Str.ofString "_law_sum")) cdv A outer s H E) (fun cls d _ H => E cls d H) := takes_of rfl rfl rfl rfl
  have po : PassesOwn (model P w) (A.deeper (envOfC (PySem.Str.ofString "_law_sum") (defScope (top 34)) s.heap.objs.size (He.ga K (PySem.Str.ofString "_law_sum")) cdv)) _ (cxOf (L2.CX P w) P w K mg base N25 (PySem.Str.ofString "_law_sum") (defScope (top 34)) (He.ga K (PySem.Str.ofString "_law_sum")) cdv A outer s H E).xe := passes_of (X := cxOf (L2.CX P w) P w K mg base N25 (PySem.Str.ofString "_law_sum") (defScope (top 34)) (He.ga K (PySem.Str.ofString "_law_sum")) cdv A outer s H E) rfl
  have hu := hr.units
  have hu1 : (A.deeper (envOfC (PySem.Str.ofString "_law_sum") (defScope (top 34)) s.heap.objs.size (He.ga K (PySem.Str.ofString "_law_sum")) cdv)).units + 65 < cLine := by have := hr.un; omega
  unfold d25
  exact (s_cons (s_set (i := 2) hN25 rfl (Or.inl rfl) (e_fnB (c_max2 rfl) n_max2 rfl x.b_max (by decide +kernel) (d_cons (e_fnB c_len n_len rfl x.b_len (by decide +kernel) (d_cons (e_var rfl (Or.inl rfl)) d_nil)) (d_cons (e_fnB c_len n_len rfl x.b_len (by decide +kernel) (d_cons (e_var rfl (Or.inl rfl)) d_nil)) d_nil))))
    (s_cons (s_par (i := 3) (j := 4) rfl hN25 rfl rfl (by decide) rfl rfl (e_bin r_cat m_cat (e_bin r_rep m_rep (f_val (f_lst (d_cons e_int d_nil) (len_cons len_nil))) (e_bin r_sub m_sub (e_var rfl (Or.inl rfl)) (e_fnB c_len n_len rfl x.b_len (by decide +kernel) (d_cons (e_var rfl (Or.inl rfl)) d_nil)))) (f_val (f_fnT c_list n_list rfl x.b_list (by decide +kernel) (d_cons (e_var rfl (Or.inl rfl)) d_nil)))) (e_bin r_cat m_cat (e_bin r_rep m_rep (f_val (f_lst (d_cons e_int d_nil) (len_cons len_nil))) (e_bin r_sub m_sub (e_var rfl (Or.inl rfl)) (e_fnB c_len n_len rfl x.b_len (by decide +kernel) (d_cons (e_var rfl (Or.inl rfl)) d_nil)))) (f_val (f_fnT c_list n_list rfl x.b_list (by decide +kernel) (d_cons (e_var rfl (Or.inl rfl)) d_nil)))) rfl)
    (s_one (s_ret (e_call (IH.f24) hr rfl x.g__law_trim x.F24.kp (bN24 x) tk (d_cons (e_lc (own := [(PySem.Str.ofString "a", 5), (PySem.Str.ofString "b", 6)]) rfl hN25 rfl (i_zip rfl x.b_zip (e_var rfl (Or.inl rfl)) (e_var rfl (Or.inl rfl))) (blkOk_by (by kernel_rfl)) (fun _ _ _ _ _ => (gv_tup rfl (gvs_cons (gv_name (by decide) hN25 rfl (Or.inl rfl)) (gvs_cons (gv_name (by decide) hN25 rfl (Or.inl rfl)) gvs_nil)))) (fun _ _ _ _ _ => pts0) (fun _ _ _ _ _ => (e_bin r_cat m_cat (e_var rfl (Or.inl rfl)) (e_var rfl (Or.inl rfl))))) d_nil) (len_cons len_nil))))))
/-- _law_product -/
theorem b26 {Γ : Calls} {k : Nat} (x : Ctx K mg) (hk : 2 ≤ k) (IH : AllOk P w K mg base x k Γ) (cdv : Value) (A : Around) (outer : List PySem.Env) (s : Shared) (H : Hp) (E : XK) (hr : Room k (A.deeper (envOfC (PySem.Str.ofString "_law_product") (defScope (top 35)) s.heap.objs.size (He.ga K (PySem.Str.ofString "_law_product")) cdv))) :
    PSs (cxOf (L2.CX P w) P w K mg base N26 (PySem.Str.ofString "_law_product") (defScope (top 35)) (He.ga K (PySem.Str.ofString "_law_product")) cdv A outer s H E) (defBody (top 35)) (tS K (ca K) (fun cls d _ H => E cls d H) (d26 Γ)) := by
  have tk : Takes (cxOf (L2.CX P w) P w K mg base N26 (PySem.Str.ofString "_law_product") (defScope (top 35)) (He.ga K (PySem.Str.ofString "_law_product")) cdv A outer s H E) (fun cls d _ H => E cls d H) := takes_of rfl rfl rfl rfl
  have po : PassesOwn (model P w) (A.deeper (envOfC (PySem.Str.ofString "_law_product") (defScope (top 35)) s.heap.objs.size (He.ga K (PySem.Str.ofString "_law_product")) cdv)) _ (cxOf (L2.CX P w) P w K mg base N26 (PySem.Str.ofString "_law_product") (defScope (top 35)) (He.ga K (PySem.Str.ofString "_law_product")) cdv A outer s H E).xe := passes_of (X := cxOf (L2.CX P w) P w K mg base N26 (PySem.Str.ofString "_law_product") (defScope (top 35)) (He.ga K (PySem.Str.ofString "_law_product")) cdv A outer s H E) rfl
  have hu := hr.units
  have hu1 : (A.deeper (envOfC (PySem.Str.ofString "_law_product") (defScope (top 35)) s.heap.objs.size (He.ga K (PySem.Str.ofString "_law_product")) cdv)).units + 65 < cLine := by have := hr.un; omega
  unfold d26
  exact (s_cons (s_if (PW.pt (w_or (t_cmp (r_eq hu) m_eq (e_var rfl (Or.inl rfl)) (e_tup d_nil len_nil) rfl) (w_or1 (t_cmp (r_eq hu) m_eq (e_var rfl (Or.inl rfl)) (e_tup d_nil len_nil) rfl))))
    (s_one (s_ret (e_tup d_nil len_nil)))
    s_nil)
    (s_cons (s_set (i := 2) hN26 rfl (Or.inl rfl) (f_new (f_rep (f_val (f_lst (d_cons e_int d_nil) (len_cons len_nil))) (e_bin r_sub m_sub (e_bin r_cat m_cat (e_fnB c_len n_len rfl x.b_len (by decide +kernel) (d_cons (e_var rfl (Or.inl rfl)) d_nil)) (e_fnB c_len n_len rfl x.b_len (by decide +kernel) (d_cons (e_var rfl (Or.inl rfl)) d_nil))) e_int))))
    (s_cons (s_for po rfl (i_rng1 rfl x.b_range (e_fnB c_len n_len rfl x.b_len (by decide +kernel) (d_cons (e_var rfl (Or.inl rfl)) d_nil))) (g_name hN26 rfl (Or.inl rfl))
    (s_one (s_for po rfl (i_rng1 rfl x.b_range (e_fnB c_len n_len rfl x.b_len (by decide +kernel) (d_cons (e_var rfl (Or.inl rfl)) d_nil))) (g_name hN26 rfl (Or.inl rfl))
    (s_one (s_setI (e_bin r_cat m_cat (e_idx (e_var rfl (Or.inl rfl)) (e_bin r_cat m_cat (e_var rfl (Or.inl rfl)) (e_var rfl (Or.inl rfl))) (fun _ _ => rfl)) (e_bin r_rep m_rep (e_idx (e_var rfl (Or.inl rfl)) (e_var rfl (Or.inl rfl)) (fun _ _ => rfl)) (e_idx (e_var rfl (Or.inl rfl)) (e_var rfl (Or.inl rfl)) (fun _ _ => rfl)))) (e_var rfl (Or.inl rfl)) (e_bin r_cat m_cat (e_var rfl (Or.inl rfl)) (e_var rfl (Or.inl rfl))))))))
    (s_one (s_ret (e_fnT c_tuple n_tuple rfl x.b_tuple (by decide +kernel) (d_cons (e_var rfl (Or.inl rfl)) d_nil)))))))
/-- _law_at -/
theorem b27 {Γ : Calls} {k : Nat} (x : Ctx K mg) (hk : 2 ≤ k) (IH : AllOk P w K mg base x k Γ) (cdv : Value) (A : Around) (outer : List PySem.Env) (s : Shared) (H : Hp) (E : XK) (hr : Room k (A.deeper (envOfC (PySem.Str.ofString "_law_at") (defScope (top 36)) s.heap.objs.size (He.ga K (PySem.Str.ofString "_law_at")) cdv))) :
    PSs (cxOf (L2.CX P w) P w K mg base N27 (PySem.Str.ofString "_law_at") (defScope (top 36)) (He.ga K (PySem.Str.ofString "_law_at")) cdv A outer s H E) (defBody (top 36)) (tS K (ca K) (fun cls d _ H => E cls d H) (d27 Γ)) := by
  have tk : Takes (cxOf (L2.CX P w) P w K mg base N27 (PySem.Str.ofString "_law_at") (defScope (top 36)) (He.ga K (PySem.Str.ofString "_law_at")) cdv A outer s H E) (fun cls d _ H => E cls d H) := takes_of rfl rfl rfl rfl
  have po : PassesOwn (model P w) (A.deeper (envOfC (PySem.Str.ofString "_law_at") (defScope (top 36)) s.heap.objs.size (He.ga K (PySem.Str.ofString "_law_at")) cdv)) _ (cxOf (L2.CX P w) P w K mg base N27 (PySem.Str.ofString "_law_at") (defScope (top 36)) (He.ga K (PySem.Str.ofString "_law_at")) cdv A outer s H E).xe := passes_of (X := cxOf (L2.CX P w) P w K mg base N27 (PySem.Str.ofString "_law_at") (defScope (top 36)) (He.ga K (PySem.Str.ofString "_law_at")) cdv A outer s H E) rfl
  have hu := hr.units
  have hu1 : (A.deeper (envOfC (PySem.Str.ofString "_law_at") (defScope (top 36)) s.heap.objs.size (He.ga K (PySem.Str.ofString "_law_at")) cdv)).units + 65 < cLine := by have := hr.un; omega
  unfold d27
  exact (s_cons (s_asg (e_tup (d_cons (e_idx (e_var rfl (Or.inl rfl)) e_int (fun _ _ => rfl)) (d_cons (e_idx (e_var rfl (Or.inl rfl)) e_int (fun _ _ => rfl)) (d_cons e_int (d_cons (e_bin r_sub m_sub (e_fnB c_len n_len rfl x.b_len (by decide +kernel) (d_cons (e_var rfl (Or.inl rfl)) d_nil)) e_int) d_nil)))) (len_cons (len_cons (len_cons (len_cons len_nil))))) (g_tup rfl (gs_cons (g_name hN27 rfl (Or.inl rfl)) (gs_cons (g_name hN27 rfl (Or.inl rfl)) (gs_cons (g_name hN27 rfl (Or.inl rfl)) (gs_cons (g_name hN27 rfl (Or.inl rfl)) gs_nil))))))
    (s_cons (s_for po rfl (i_rng1 rfl x.b_range (e_fnB c_len n_len rfl x.b_len (by decide +kernel) (d_cons (e_var rfl (Or.inl rfl)) d_nil))) (g_name hN27 rfl (Or.inl rfl))
    (s_cons (s_set (i := 7) hN27 rfl (Or.inl rfl) (e_idx (e_var rfl (Or.inl rfl)) (e_var rfl (Or.inl rfl)) (fun _ _ => rfl)))
    (s_cons (s_for po rfl (i_rng1 rfl x.b_range (e_bin r_sub m_sub (e_var rfl (Or.inl rfl)) (e_var rfl (Or.inl rfl)))) (g_name hN27 rfl (Or.inl rfl))
    (s_one (s_set (i := 7) hN27 rfl (Or.inl rfl) (e_bin r_rep m_rep (e_var rfl (Or.inl rfl)) (e_var rfl (Or.inl rfl))))))
    (s_cons (s_for po rfl (i_rng1 rfl x.b_range (e_var rfl (Or.inl rfl))) (g_name hN27 rfl (Or.inl rfl))
    (s_one (s_set (i := 7) hN27 rfl (Or.inl rfl) (e_bin r_rep m_rep (e_var rfl (Or.inl rfl)) (e_var rfl (Or.inl rfl))))))
    (s_one (s_set (i := 4) hN27 rfl (Or.inl rfl) (e_bin r_cat m_cat (e_var rfl (Or.inl rfl)) (e_var rfl (Or.inl rfl)))))))))
    (s_cons (s_set (i := 9) hN27 rfl (Or.inl rfl) e_int)
    (s_cons (s_for po rfl (i_rng1 rfl x.b_range (e_fnB (c_max2 rfl) n_max2 rfl x.b_max (by decide +kernel) (d_cons e_int (d_cons (e_var rfl (Or.inl rfl)) d_nil)))) (g_name hN27 rfl (Or.inl rfl))
    (s_one (s_set (i := 9) hN27 rfl (Or.inl rfl) (e_bin r_rep m_rep (e_var rfl (Or.inl rfl)) (e_var rfl (Or.inl rfl))))))
    (s_one (s_ret (e_call (IH.f20) hr rfl x.g__law_low x.F20.kp (bN20 x) tk (d_cons (e_var rfl (Or.inl rfl)) (d_cons (e_var rfl (Or.inl rfl)) d_nil)) (len_cons (len_cons len_nil)))))))))
/-- _law_polynomial -/
theorem b28 {Γ : Calls} {k : Nat} (x : Ctx K mg) (hk : 2 ≤ k) (IH : AllOk P w K mg base x k Γ) (cdv : Value) (A : Around) (outer : List PySem.Env) (s : Shared) (H : Hp) (E : XK) (hr : Room k (A.deeper (envOfC (PySem.Str.ofString "_law_polynomial") (defScope (top 37)) s.heap.objs.size (He.ga K (PySem.Str.ofString "_law_polynomial")) cdv))) :
    PSs (cxOf (L2.CX P w) P w K mg base N28 (PySem.Str.ofString "_law_polynomial") (defScope (top 37)) (He.ga K (PySem.Str.ofString "_law_polynomial")) cdv A outer s H E) (defBody (top 37)) (tS K (ca K) (fun cls d _ H => E cls d H) (d28 Γ)) := by
  have tk : Takes (cxOf (L2.CX P w) P w K mg base N28 (PySem.Str.ofString "_law_polynomial") (defScope (top 37)) (He.ga K (PySem.Str.ofString "_law_polynomial")) cdv A outer s H E) (fun cls d _ H => E cls d H) := takes_of rfl rfl rfl rfl
  have po : PassesOwn (model P w) (A.deeper (envOfC (PySem.Str.ofString "_law_polynomial") (defScope (top 37)) s.heap.objs.size (He.ga K (PySem.Str.ofString "_law_polynomial")) cdv)) _ (cxOf (L2.CX P w) P w K mg base N28 (PySem.Str.ofString "_law_polynomial") (defScope (top 37)) (He.ga K (PySem.Str.ofString "_law_polynomial")) cdv A outer s H E).xe := passes_of (X := cxOf (L2.CX P w) P w K mg base N28 (PySem.Str.ofString "_law_polynomial") (defScope (top 37)) (He.ga K (PySem.Str.ofString "_law_polynomial")) cdv A outer s H E) rfl
  have hu := hr.units
  have hu1 : (A.deeper (envOfC (PySem.Str.ofString "_law_polynomial") (defScope (top 37)) s.heap.objs.size (He.ga K (PySem.Str.ofString "_law_polynomial")) cdv)).units + 65 < cLine := by have := hr.un; omega
  unfold d28
  exact (s_cons (s_if (t_cmp (r_eq hu) m_eq (e_call (IH.f18) hr rfl x.g__law_take x.F18.kp (bN18 x) tk (d_cons (e_var rfl (Or.inr (Or.inl rfl))) (d_cons e_int d_nil)) (len_cons (len_cons len_nil))) e_int rfl)
    (s_one (s_ret (e_tup d_nil len_nil)))
    s_nil)
    (s_cons (s_lc (k := 3) (own := [(PySem.Str.ofString "k", 4)]) rfl hN28 rfl rfl rfl rfl (i_rng1 rfl x.b_range (e_bin r_cat m_cat e_int (e_call (IH.f18) hr rfl x.g__law_take x.F18.kp (bN18 x) tk (d_cons (e_var rfl (Or.inr (Or.inl rfl))) (d_cons (e_bin r_cat m_cat (e_var rfl (Or.inl rfl)) e_int) d_nil)) (len_cons (len_cons len_nil))))) (blkOk_by (by kernel_rfl)) (fun _ _ _ _ _ => (gv_name (by decide) hN28 rfl (Or.inl rfl))) (fun _ _ _ _ _ => pts0) (fun _ _ _ _ _ => (e_bin r_sub m_sub (e_call (IH.f18) hr rfl x.g__law_take x.F18.kp (bN18 x) tk0 (d_cons (e_var rfl (Or.inr (Or.inl rfl))) (d_cons (e_bin r_cat m_cat (e_bin r_rep m_rep e_int (e_var rfl (Or.inr (Or.inl rfl)))) e_int) d_nil)) (len_cons (len_cons len_nil))) (e_var rfl (Or.inr (Or.inl rfl))))))
    (s_cons (s_lc (k := 3) (own := [(PySem.Str.ofString "a", 5)]) rfl hN28 rfl rfl rfl rfl (i_seq (e_var rfl (Or.inl rfl))) (blkOk_by (by kernel_rfl)) (fun _ _ _ _ _ => (gv_name (by decide) hN28 rfl (Or.inl rfl))) (fun _ _ _ _ _ => pts0) (fun _ _ _ _ _ => (e_ifExp (t_cmp r_gt m_gt (e_call (IH.f18) hr rfl x.g__law_take x.F18.kp (bN18 x) tk0 (d_cons (e_var rfl (Or.inr (Or.inl rfl))) (d_cons e_int d_nil)) (len_cons (len_cons len_nil))) e_int rfl) (e_var rfl (Or.inl rfl)) e_int)))
    (s_one (s_ret (e_ifExp (t_cmp (r_ne hu) m_ne (e_call (IH.f24) hr rfl x.g__law_trim x.F24.kp (bN24 x) tk (d_cons (e_var rfl (Or.inl rfl)) d_nil) (len_cons len_nil)) (e_tup d_nil len_nil) rfl) (e_call (IH.f24) hr rfl x.g__law_trim x.F24.kp (bN24 x) tk (d_cons (e_var rfl (Or.inl rfl)) d_nil) (len_cons len_nil)) (e_tup (d_cons (e_bin r_cat m_cat e_int (e_call (IH.f18) hr rfl x.g__law_take x.F18.kp (bN18 x) tk (d_cons (e_var rfl (Or.inr (Or.inl rfl))) (d_cons (e_var rfl (Or.inr (Or.inl rfl))) d_nil)) (len_cons (len_cons len_nil)))) d_nil) (len_cons len_nil))))))))
/-- _law_drawn -/
theorem b29 {Γ : Calls} {k : Nat} (x : Ctx K mg) (hk : 2 ≤ k) (IH : AllOk P w K mg base x k Γ) (cdv : Value) (A : Around) (outer : List PySem.Env) (s : Shared) (H : Hp) (E : XK) (hr : Room k (A.deeper (envOfC (PySem.Str.ofString "_law_drawn") (defScope (top 38)) s.heap.objs.size (He.ga K (PySem.Str.ofString "_law_drawn")) cdv))) :
    PSs (cxOf (L2.CX P w) P w K mg base N29 (PySem.Str.ofString "_law_drawn") (defScope (top 38)) (He.ga K (PySem.Str.ofString "_law_drawn")) cdv A outer s H E) (defBody (top 38)) (tS K (ca K) (fun cls d _ H => E cls d H) (d29 Γ)) := by
  have tk : Takes (cxOf (L2.CX P w) P w K mg base N29 (PySem.Str.ofString "_law_drawn") (defScope (top 38)) (He.ga K (PySem.Str.ofString "_law_drawn")) cdv A outer s H E) (fun cls d _ H => E cls d H) := takes_of rfl rfl rfl rfl
  have po : PassesOwn (model P w) (A.deeper (envOfC (PySem.Str.ofString "_law_drawn") (defScope (top 38)) s.heap.objs.size (He.ga K (PySem.Str.ofString "_law_drawn")) cdv)) _ (cxOf (L2.CX P w) P w K mg base N29 (PySem.Str.ofString "_law_drawn") (defScope (top 38)) (He.ga K (PySem.Str.ofString "_law_drawn")) cdv A outer s H E).xe := passes_of (X := cxOf (L2.CX P w) P w K mg base N29 (PySem.Str.ofString "_law_drawn") (defScope (top 38)) (He.ga K (PySem.Str.ofString "_law_drawn")) cdv A outer s H E) rfl
  have hu := hr.units
  have hu1 : (A.deeper (envOfC (PySem.Str.ofString "_law_drawn") (defScope (top 38)) s.heap.objs.size (He.ga K (PySem.Str.ofString "_law_drawn")) cdv)).units + 65 < cLine := by have := hr.un; omega
  unfold d29
  exact (s_one (s_ret (e_call (IH.f20) hr rfl x.g__law_low x.F20.kp (bN20 x) tk (d_cons (e_bin r_sub m_sub (e_call (IH.f18) hr rfl x.g__law_take x.F18.kp (bN18 x) tk (d_cons (e_var rfl (Or.inl rfl)) (d_cons (e_bin r_cat m_cat (e_bin r_rep m_rep e_int (e_var rfl (Or.inl rfl))) e_int) d_nil)) (len_cons (len_cons len_nil))) (e_var rfl (Or.inl rfl))) (d_cons (e_bin r_cat m_cat e_int (e_call (IH.f18) hr rfl x.g__law_take x.F18.kp (bN18 x) tk (d_cons (e_var rfl (Or.inl rfl)) (d_cons (e_idx (f_val (f_lst (d_cons e_int (d_cons e_int (d_cons (e_var rfl (Or.inl rfl)) d_nil))) (len_cons (len_cons (len_cons len_nil))))) (e_call (IH.f18) hr rfl x.g__law_take x.F18.kp (bN18 x) tk (d_cons (e_var rfl (Or.inl rfl)) (d_cons e_int d_nil)) (len_cons (len_cons len_nil))) (fun _ _ => rfl)) d_nil)) (len_cons (len_cons len_nil)))) d_nil)) (len_cons (len_cons len_nil)))))
/-- _law_far -/
theorem b30 {Γ : Calls} {k : Nat} (x : Ctx K mg) (hk : 2 ≤ k) (IH : AllOk P w K mg base x k Γ) (cdv : Value) (A : Around) (outer : List PySem.Env) (s : Shared) (H : Hp) (E : XK) (hr : Room k (A.deeper (envOfC (PySem.Str.ofString "_law_far") (defScope (top 39)) s.heap.objs.size (He.ga K (PySem.Str.ofString "_law_far")) cdv))) :
    PSs (cxOf (L2.CX P w) P w K mg base N30 (PySem.Str.ofString "_law_far") (defScope (top 39)) (He.ga K (PySem.Str.ofString "_law_far")) cdv A outer s H E) (defBody (top 39)) (tS K (ca K) (fun cls d _ H => E cls d H) (d30 Γ)) := by
  have tk : Takes (cxOf (L2.CX P w) P w K mg base N30 (PySem.Str.ofString "_law_far") (defScope (top 39)) (He.ga K (PySem.Str.ofString "_law_far")) cdv A outer s H E) (fun cls d _ H => E cls d H) := takes_of rfl rfl rfl rfl
  have po : PassesOwn (model P w) (A.deeper (envOfC (PySem.Str.ofString "_law_far") (defScope (top 39)) s.heap.objs.size (He.ga K (PySem.Str.ofString "_law_far")) cdv)) _ (cxOf (L2.CX P w) P w K mg base N30 (PySem.Str.ofString "_law_far") (defScope (top 39)) (He.ga K (PySem.Str.ofString "_law_far")) cdv A outer s H E).xe := passes_of (X := cxOf (L2.CX P w) P w K mg base N30 (PySem.Str.ofString "_law_far") (defScope (top 39)) (He.ga K (PySem.Str.ofString "_law_far")) cdv A outer s H E) rfl
  have hu := hr.units
  have hu1 : (A.deeper (envOfC (PySem.Str.ofString "_law_far") (defScope (top 39)) s.heap.objs.size (He.ga K (PySem.Str.ofString "_law_far")) cdv)).units + 65 < cLine := by have := hr.un; omega
  unfold d30
  exact (s_one (s_ret (e_call (IH.f28) hr rfl x.g__law_polynomial x.F28.kp (bN28 x) tk (d_cons (e_var rfl (Or.inl rfl)) (d_cons e_int (d_cons (e_idx (f_val (f_lst (d_cons e_int (d_cons e_int (d_cons (e_bin r_pow m_pow e_int e_int) d_nil))) (len_cons (len_cons (len_cons len_nil))))) (e_call (IH.f18) hr rfl x.g__law_take x.F18.kp (bN18 x) tk (d_cons (e_var rfl (Or.inl rfl)) (d_cons e_int d_nil)) (len_cons (len_cons len_nil))) (fun _ _ => rfl)) d_nil))) (len_cons (len_cons (len_cons len_nil))))))
/-- _law_right -/
theorem b31 {Γ : Calls} {k : Nat} (x : Ctx K mg) (hk : 2 ≤ k) (IH : AllOk P w K mg base x k Γ) (cdv : Value) (A : Around) (outer : List PySem.Env) (s : Shared) (H : Hp) (E : XK) (hr : Room k (A.deeper (envOfC (PySem.Str.ofString "_law_right") (defScope (top 40)) s.heap.objs.size (He.ga K (PySem.Str.ofString "_law_right")) cdv))) :
    PSs (cxOf (L2.CX P w) P w K mg base N31 (PySem.Str.ofString "_law_right") (defScope (top 40)) (He.ga K (PySem.Str.ofString "_law_right")) cdv A outer s H E) (defBody (top 40)) (tS K (ca K) (fun cls d _ H => E cls d H) (d31 Γ)) := by
  have tk : Takes (cxOf (L2.CX P w) P w K mg base N31 (PySem.Str.ofString "_law_right") (defScope (top 40)) (He.ga K (PySem.Str.ofString "_law_right")) cdv A outer s H E) (fun cls d _ H => E cls d H) := takes_of rfl rfl rfl rfl
  have po : PassesOwn (model P w) (A.deeper (envOfC (PySem.Str.ofString "_law_right") (defScope (top 40)) s.heap.objs.size (He.ga K (PySem.Str.ofString "_law_right")) cdv)) _ (cxOf (L2.CX P w) P w K mg base N31 (PySem.Str.ofString "_law_right") (defScope (top 40)) (He.ga K (PySem.Str.ofString "_law_right")) cdv A outer s H E).xe := passes_of (X := cxOf (L2.CX P w) P w K mg base N31 (PySem.Str.ofString "_law_right") (defScope (top 40)) (He.ga K (PySem.Str.ofString "_law_right")) cdv A outer s H E) rfl
  have hu := hr.units
  have hu1 : (A.deeper (envOfC (PySem.Str.ofString "_law_right") (defScope (top 40)) s.heap.objs.size (He.ga K (PySem.Str.ofString "_law_right")) cdv)).units + 65 < cLine := by have := hr.un; omega
  unfold d31
  exact (s_cons (s_asg (e_tup (d_cons (e_bin r_sub m_sub (e_call (IH.f18) hr rfl x.g__law_take x.F18.kp (bN18 x) tk (d_cons (e_var rfl (Or.inl rfl)) (d_cons e_int d_nil)) (len_cons (len_cons len_nil))) e_int) (d_cons (e_call (IH.f18) hr rfl x.g__law_take x.F18.kp (bN18 x) tk (d_cons (e_var rfl (Or.inl rfl)) (d_cons (e_ifExp (t_cmp r_lt m_lt (e_fnB c_len n_len rfl x.b_len (by decide +kernel) (d_cons (e_var rfl (Or.inl rfl)) d_nil)) e_int rfl) e_int e_int) d_nil)) (len_cons (len_cons len_nil))) d_nil)) (len_cons (len_cons len_nil))) (g_tup rfl (gs_cons (g_name hN31 rfl (Or.inr rfl)) (gs_cons (g_name hN31 rfl (Or.inl rfl)) gs_nil))))
    (s_cons (s_set (i := 6) hN31 rfl (Or.inl rfl) (f_val (f_lst (d_cons (e_call (IH.f25) hr rfl x.g__law_sum x.F25.kp (bN25 x) tk (d_cons (e_var rfl (Or.inl rfl)) (d_cons (e_var rfl (Or.inl rfl)) d_nil)) (len_cons (len_cons len_nil))) (d_cons (e_call (IH.f26) hr rfl x.g__law_product x.F26.kp (bN26 x) tk (d_cons (e_var rfl (Or.inl rfl)) (d_cons (e_var rfl (Or.inl rfl)) d_nil)) (len_cons (len_cons len_nil))) (d_cons (e_ifExp (t_cmp (r_ne hu) m_ne (e_var rfl (Or.inr (Or.inl rfl))) e_int rfl) (e_fnT c_tuple n_tuple rfl x.b_tuple (by decide +kernel) (d_cons (e_lc (own := [(PySem.Str.ofString "a", 12)]) rfl hN31 rfl (i_seq (e_var rfl (Or.inl rfl))) (blkOk_by (by kernel_rfl)) (fun _ _ _ _ _ => (gv_name (by decide) hN31 rfl (Or.inl rfl))) (fun _ _ _ _ _ => pts0) (fun _ _ _ _ _ => (e_bin r_rep m_rep (e_var rfl (Or.inr (Or.inl rfl))) (e_var rfl (Or.inl rfl))))) d_nil)) (e_tup d_nil len_nil)) d_nil))) (len_cons (len_cons (len_cons len_nil))))))
    (s_cons (s_set (i := 7) hN31 rfl (Or.inl rfl) (f_val (f_lst (d_cons (e_call (IH.f14) hr rfl x.g_plus x.F14.kp (bN14 x) tk (d_cons (e_var rfl (Or.inl rfl)) (d_cons (e_var rfl (Or.inl rfl)) d_nil)) (len_cons (len_cons len_nil))) (d_cons (e_call (IH.f15) hr rfl x.g_times x.F15.kp (bN15 x) tk (d_cons (e_var rfl (Or.inl rfl)) (d_cons (e_var rfl (Or.inl rfl)) d_nil)) (len_cons (len_cons len_nil))) (d_cons (e_call (IH.f16) hr rfl x.g_scaled x.F16.kp (bN16 x) tk (d_cons (e_var rfl (Or.inl rfl)) (d_cons (e_var rfl (Or.inr (Or.inl rfl))) d_nil)) (len_cons (len_cons len_nil))) d_nil))) (len_cons (len_cons (len_cons len_nil))))))
    (s_cons (s_if (PW.pt (w_or (t_not (t_val (e_call (IH.f19) hr rfl x.g__law_same x.F19.kp (bN19 x) tk (d_cons (e_var rfl (Or.inl rfl)) (d_cons (e_var rfl (Or.inl rfl)) d_nil)) (len_cons (len_cons len_nil))))) (w_or1 (t_not (t_val (e_call (IH.f19) hr rfl x.g__law_same x.F19.kp (bN19 x) tk (d_cons (f_val (f_lst (d_cons (e_callP0 (IH.f14) hr rfl x.g_plus x.F14.kp (bindsP x.F14 (ks := [PySem.Str.ofString "g", PySem.Str.ofString "f"]) (n := 0) (js := [1, 0]) (fun _ _ _ _ _ _ us ws hl hk => match us, hl with | [], _ => match ws, hk with | [_, _], _ => rfl)) tk (k_cons (e_var rfl (Or.inl rfl)) (k_cons (e_var rfl (Or.inl rfl)) k_nil)) (len_cons (len_cons len_nil)) (fun xs hl => match xs, hl with | [_, _], _ => rfl)) (d_cons (e_callP0 (IH.f15) hr rfl x.g_times x.F15.kp (bindsP x.F15 (ks := [PySem.Str.ofString "g", PySem.Str.ofString "f"]) (n := 0) (js := [1, 0]) (fun _ _ _ _ _ _ us ws hl hk => match us, hl with | [], _ => match ws, hk with | [_, _], _ => rfl)) tk (k_cons (e_var rfl (Or.inl rfl)) (k_cons (e_var rfl (Or.inl rfl)) k_nil)) (len_cons (len_cons len_nil)) (fun xs hl => match xs, hl with | [_, _], _ => rfl)) (d_cons (e_callP0 (IH.f16) hr rfl x.g_scaled x.F16.kp (bindsP x.F16 (ks := [PySem.Str.ofString "k", PySem.Str.ofString "f"]) (n := 0) (js := [1, 0]) (fun _ _ _ _ _ _ us ws hl hk => match us, hl with | [], _ => match ws, hk with | [_, _], _ => rfl)) tk (k_cons (e_var rfl (Or.inr (Or.inl rfl))) (k_cons (e_var rfl (Or.inl rfl)) k_nil)) (len_cons (len_cons len_nil)) (fun xs hl => match xs, hl with | [_, _], _ => rfl)) d_nil))) (len_cons (len_cons (len_cons len_nil))))) (d_cons (e_var rfl (Or.inl rfl)) d_nil)) (len_cons (len_cons len_nil))))))))
    (s_one (s_ret e_bl))
    s_nil)
    (s_cons (s_set (i := 8) hN31 rfl (Or.inl rfl) (e_tup (d_cons e_int d_nil) (len_cons len_nil)))
    (s_cons (s_for po rfl (i_rng1 rfl x.b_range (e_var rfl (Or.inl rfl))) (g_name hN31 rfl (Or.inl rfl))
    (s_one (s_set (i := 8) hN31 rfl (Or.inl rfl) (e_call (IH.f26) hr rfl x.g__law_product x.F26.kp (bN26 x) tk (d_cons (e_var rfl (Or.inl rfl)) (d_cons (e_var rfl (Or.inl rfl)) d_nil)) (len_cons (len_cons len_nil))))))
    (s_cons (s_if (t_not (t_val (e_call (IH.f19) hr rfl x.g__law_same x.F19.kp (bN19 x) tk (d_cons (f_val (f_lst (d_cons (e_call (IH.f17) hr rfl x.g_power x.F17.kp (bN17 x) tk (d_cons (e_var rfl (Or.inl rfl)) (d_cons (e_var rfl (Or.inl rfl)) d_nil)) (len_cons (len_cons len_nil))) (d_cons (e_callP0 (IH.f17) hr rfl x.g_power x.F17.kp (bindsP x.F17 (ks := [PySem.Str.ofString "k", PySem.Str.ofString "f"]) (n := 0) (js := [1, 0]) (fun _ _ _ _ _ _ us ws hl hk => match us, hl with | [], _ => match ws, hk with | [_, _], _ => rfl)) tk (k_cons (e_var rfl (Or.inl rfl)) (k_cons (e_var rfl (Or.inl rfl)) k_nil)) (len_cons (len_cons len_nil)) (fun xs hl => match xs, hl with | [_, _], _ => rfl)) d_nil)) (len_cons (len_cons len_nil)))) (d_cons (f_val (f_lst (d_cons (e_var rfl (Or.inl rfl)) (d_cons (e_var rfl (Or.inl rfl)) d_nil)) (len_cons (len_cons len_nil)))) d_nil)) (len_cons (len_cons len_nil)))))
    (s_one (s_ret e_bl))
    s_nil)
    (s_cons (s_set (i := 10) hN31 rfl (Or.inl rfl) (f_val (f_lst (d_cons (e_call (IH.f27) hr rfl x.g__law_at x.F27.kp (bN27 x) tk (d_cons (e_var rfl (Or.inl rfl)) (d_cons (e_var rfl (Or.inl rfl)) d_nil)) (len_cons (len_cons len_nil))) (d_cons (e_call (IH.f27) hr rfl x.g__law_at x.F27.kp (bN27 x) tk (d_cons (e_var rfl (Or.inl rfl)) (d_cons (e_var rfl (Or.inl rfl)) d_nil)) (len_cons (len_cons len_nil))) d_nil)) (len_cons (len_cons len_nil)))))
    (s_cons (s_if (t_not (t_val (e_call (IH.f19) hr rfl x.g__law_same x.F19.kp (bN19 x) tk (d_cons (f_val (f_lst (d_cons (e_call (IH.f9) hr rfl x.g_value x.F9.kp (bN9 x) tk (d_cons (e_var rfl (Or.inl rfl)) (d_cons (e_var rfl (Or.inl rfl)) d_nil)) (len_cons (len_cons len_nil))) (d_cons (e_callP0 (IH.f9) hr rfl x.g_value x.F9.kp (bindsP x.F9 (ks := [PySem.Str.ofString "x", PySem.Str.ofString "f"]) (n := 0) (js := [1, 0]) (fun _ _ _ _ _ _ us ws hl hk => match us, hl with | [], _ => match ws, hk with | [_, _], _ => rfl)) tk (k_cons (e_var rfl (Or.inl rfl)) (k_cons (e_var rfl (Or.inl rfl)) k_nil)) (len_cons (len_cons len_nil)) (fun xs hl => match xs, hl with | [_, _], _ => rfl)) d_nil)) (len_cons (len_cons len_nil)))) (d_cons (e_var rfl (Or.inl rfl)) d_nil)) (len_cons (len_cons len_nil)))))
    (s_one (s_ret e_bl))
    s_nil)
    (s_cons (s_set (i := 11) hN31 rfl (Or.inl rfl) (f_val (f_lst (d_cons (e_call (IH.f21) hr rfl x.g__law_plus x.F21.kp (bN21 x) tk (d_cons (e_idx (e_var rfl (Or.inl rfl)) e_int (fun _ _ => rfl)) (d_cons (e_idx (e_var rfl (Or.inl rfl)) e_int (fun _ _ => rfl)) d_nil)) (len_cons (len_cons len_nil))) (d_cons (e_call (IH.f22) hr rfl x.g__law_times x.F22.kp (bN22 x) tk (d_cons (e_idx (e_var rfl (Or.inl rfl)) e_int (fun _ _ => rfl)) (d_cons (e_idx (e_var rfl (Or.inl rfl)) e_int (fun _ _ => rfl)) d_nil)) (len_cons (len_cons len_nil))) (d_cons (e_call (IH.f22) hr rfl x.g__law_times x.F22.kp (bN22 x) tk (d_cons (e_tup (d_cons (e_var rfl (Or.inr (Or.inl rfl))) (d_cons e_int d_nil)) (len_cons (len_cons len_nil))) (d_cons (e_idx (e_var rfl (Or.inl rfl)) e_int (fun _ _ => rfl)) d_nil)) (len_cons (len_cons len_nil))) d_nil))) (len_cons (len_cons (len_cons len_nil))))))
    (s_one (s_ret (e_call (IH.f19) hr rfl x.g__law_same x.F19.kp (bN19 x) tk (d_cons (f_val (f_lst (d_cons (e_call (IH.f9) hr rfl x.g_value x.F9.kp (bN9 x) tk (d_cons (e_idx (e_var rfl (Or.inl rfl)) e_int (fun _ _ => rfl)) (d_cons (e_var rfl (Or.inl rfl)) d_nil)) (len_cons (len_cons len_nil))) (d_cons (e_call (IH.f9) hr rfl x.g_value x.F9.kp (bN9 x) tk (d_cons (e_idx (e_var rfl (Or.inl rfl)) e_int (fun _ _ => rfl)) (d_cons (e_var rfl (Or.inl rfl)) d_nil)) (len_cons (len_cons len_nil))) (d_cons (e_call (IH.f9) hr rfl x.g_value x.F9.kp (bN9 x) tk (d_cons (e_idx (e_var rfl (Or.inl rfl)) e_int (fun _ _ => rfl)) (d_cons (e_var rfl (Or.inl rfl)) d_nil)) (len_cons (len_cons len_nil))) d_nil))) (len_cons (len_cons (len_cons len_nil))))) (d_cons (e_var rfl (Or.inl rfl)) d_nil)) (len_cons (len_cons len_nil)))))))))))))))
/-- law -/
theorem b32 {Γ : Calls} {k : Nat} (x : Ctx K mg) (hk : 2 ≤ k) (IH : AllOk P w K mg base x k Γ) (cdv : Value) (A : Around) (outer : List PySem.Env) (s : Shared) (H : Hp) (E : XK) (hr : Room k (A.deeper (envOfC (PySem.Str.ofString "law") (defScope (top 41)) s.heap.objs.size (He.ga K (PySem.Str.ofString "law")) cdv))) :
    PSs (cxOf (L2.CX P w) P w K mg base N32 (PySem.Str.ofString "law") (defScope (top 41)) (He.ga K (PySem.Str.ofString "law")) cdv A outer s H E) (defBody (top 41)) (tS K (ca K) (fun cls d _ H => E cls d H) (d32 Γ)) := by
  have tk : Takes (cxOf (L2.CX P w) P w K mg base N32 (PySem.Str.ofString "law") (defScope (top 41)) (He.ga K (PySem.Str.ofString "law")) cdv A outer s H E) (fun cls d _ H => E cls d H) := takes_of rfl rfl rfl rfl
  have po : PassesOwn (model P w) (A.deeper (envOfC (PySem.Str.ofString "law") (defScope (top 41)) s.heap.objs.size (He.ga K (PySem.Str.ofString "law")) cdv)) _ (cxOf (L2.CX P w) P w K mg base N32 (PySem.Str.ofString "law") (defScope (top 41)) (He.ga K (PySem.Str.ofString "law")) cdv A outer s H E).xe := passes_of (X := cxOf (L2.CX P w) P w K mg base N32 (PySem.Str.ofString "law") (defScope (top 41)) (He.ga K (PySem.Str.ofString "law")) cdv A outer s H E) rfl
  have hu := hr.units
  have hu1 : (A.deeper (envOfC (PySem.Str.ofString "law") (defScope (top 41)) s.heap.objs.size (He.ga K (PySem.Str.ofString "law")) cdv)).units + 65 < cLine := by have := hr.un; omega
  unfold d32
  exact (s_cons (s_set (i := 1) hN32 rfl (Or.inl rfl) (f_new (f_cat (f_val (f_lst (d_cons e_int (d_cons e_int (d_cons e_int d_nil))) (len_cons (len_cons (len_cons len_nil))))) (f_val (f_fnT c_list n_list rfl x.b_list (by decide +kernel) (d_cons (e_var rfl (Or.inl rfl)) d_nil))))))
    (s_cons (s_for po rfl (i_rng1 rfl x.b_range e_int) (g_name hN32 rfl (Or.inl rfl))
    (s_one (s_if (t_not (t_val (e_call (IH.f31) hr rfl x.g__law_right x.F31.kp (bN31 x) tk (d_cons (e_var rfl (Or.inl rfl)) (d_cons (e_call (IH.f30) hr rfl x.g__law_far x.F30.kp (bN30 x) tk (d_cons (e_var rfl (Or.inl rfl)) d_nil) (len_cons len_nil)) (d_cons (e_call (IH.f30) hr rfl x.g__law_far x.F30.kp (bN30 x) tk (d_cons (e_var rfl (Or.inl rfl)) d_nil) (len_cons len_nil)) (d_cons (e_call (IH.f29) hr rfl x.g__law_drawn x.F29.kp (bN29 x) tk (d_cons (e_var rfl (Or.inl rfl)) (d_cons (e_idx (f_val (f_lst (d_cons e_int (d_cons e_int d_nil)) (len_cons (len_cons len_nil)))) (e_call (IH.f18) hr rfl x.g__law_take x.F18.kp (bN18 x) tk (d_cons (e_var rfl (Or.inl rfl)) (d_cons e_int d_nil)) (len_cons (len_cons len_nil))) (fun _ _ => rfl)) d_nil)) (len_cons (len_cons len_nil))) d_nil)))) (len_cons (len_cons (len_cons (len_cons len_nil)))))))
    (s_one (s_ret e_bl))
    s_nil)))
    (s_one (s_ret e_bl))))
theorem all (x : Ctx K mg) : ∀ n, AllOk P w K mg base x (n + 2) (calls n)
  | 0 => ⟨fn_none fun _ _ => rfl, fn_none fun _ _ => rfl, fn_none fun _ _ => rfl, fn_none fun _ _ => rfl, fn_none fun _ _ => rfl, fn_none fun _ _ => rfl, fn_none fun _ _ => rfl, fn_none fun _ _ => rfl, fn_none fun _ _ => rfl, fn_none fun _ _ => rfl, fn_none fun _ _ => rfl, fn_none fun _ _ => rfl, fn_none fun _ _ => rfl, fn_none fun _ _ => rfl, fn_none fun _ _ => rfl, fn_none fun _ _ => rfl, fn_none fun _ _ => rfl, fn_none fun _ _ => rfl, fn_none fun _ _ => rfl, fn_none fun _ _ => rfl, fn_none fun _ _ => rfl, fn_none fun _ _ => rfl, fn_none fun _ _ => rfl, fn_none fun _ _ => rfl, fn_none fun _ _ => rfl, fn_none fun _ _ => rfl, fn_none fun _ _ => rfl, fn_none fun _ _ => rfl, fn_none fun _ _ => rfl, fn_none fun _ _ => rfl, fn_none fun _ _ => rfl, fn_none fun _ _ => rfl, fn_none fun _ _ => rfl⟩
  | n + 1 => by
    have IH := all x n
    exact ⟨fn_tidy x.F0 sc0 (fun _ _ _ => rfl) (b0 x (Nat.le_add_left 2 n) IH), fn_tidy x.F1 sc1 (fun _ _ _ => rfl) (b1 x (Nat.le_add_left 2 n) IH), fn_tidy x.F2 sc2 (fun _ _ _ => rfl) (b2 x (Nat.le_add_left 2 n) IH), fn_tidy x.F3 sc3 (fun _ _ _ => rfl) (b3 x (Nat.le_add_left 2 n) IH), fn_tidy x.F4 sc4 (fun _ _ _ => rfl) (b4 x (Nat.le_add_left 2 n) IH), fn_tidy x.F5 sc5 (fun _ _ _ => rfl) (b5 x (Nat.le_add_left 2 n) IH), fn_tidy x.F6 sc6 (fun _ _ _ => rfl) (b6 x (Nat.le_add_left 2 n) IH), fn_tidy x.F7 sc7 (fun _ _ _ => rfl) (b7 x (Nat.le_add_left 2 n) IH), fn_tidy x.F8 sc8 (fun _ _ _ => rfl) (b8 x (Nat.le_add_left 2 n) IH), fn_tidy x.F9 sc9 (fun _ _ _ => rfl) (b9 x (Nat.le_add_left 2 n) IH), fn_tidy x.F10 sc10 (fun _ _ _ => rfl) (b10 x (Nat.le_add_left 2 n) IH), fn_tidy x.F11 sc11 (fun _ _ _ => rfl) (b11 x (Nat.le_add_left 2 n) IH), fn_tidy x.F12 sc12 (fun _ _ _ => rfl) (b12 x (Nat.le_add_left 2 n) IH), fn_tidy x.F13 sc13 (fun _ _ _ => rfl) (b13 x (Nat.le_add_left 2 n) IH), fn_tidy x.F14 sc14 (fun _ _ _ => rfl) (b14 x (Nat.le_add_left 2 n) IH), fn_tidy x.F15 sc15 (fun _ _ _ => rfl) (b15 x (Nat.le_add_left 2 n) IH), fn_tidy x.F16 sc16 (fun _ _ _ => rfl) (b16 x (Nat.le_add_left 2 n) IH), fn_tidy x.F17 sc17 (fun _ _ _ => rfl) (b17 x (Nat.le_add_left 2 n) IH), fn_tidy x.F18 sc18 (fun _ _ _ => rfl) (b18 x (Nat.le_add_left 2 n) IH), fn_tidy x.F19 sc19 (fun _ _ _ => rfl) (b19 x (Nat.le_add_left 2 n) IH), fn_tidy x.F20 sc20 (fun _ _ _ => rfl) (b20 x (Nat.le_add_left 2 n) IH), fn_tidy x.F21 sc21 (fun _ _ _ => rfl) (b21 x (Nat.le_add_left 2 n) IH), fn_tidy x.F22 sc22 (fun _ _ _ => rfl) (b22 x (Nat.le_add_left 2 n) IH), fn_tidy x.F23 sc23 (fun _ _ _ => rfl) (b23 x (Nat.le_add_left 2 n) IH), fn_tidy x.F24 sc24 (fun _ _ _ => rfl) (b24 x (Nat.le_add_left 2 n) IH), fn_tidy x.F25 sc25 (fun _ _ _ => rfl) (b25 x (Nat.le_add_left 2 n) IH), fn_tidy x.F26 sc26 (fun _ _ _ => rfl) (b26 x (Nat.le_add_left 2 n) IH), fn_tidy x.F27 sc27 (fun _ _ _ => rfl) (b27 x (Nat.le_add_left 2 n) IH), fn_tidy x.F28 sc28 (fun _ _ _ => rfl) (b28 x (Nat.le_add_left 2 n) IH), fn_tidy x.F29 sc29 (fun _ _ _ => rfl) (b29 x (Nat.le_add_left 2 n) IH), fn_tidy x.F30 sc30 (fun _ _ _ => rfl) (b30 x (Nat.le_add_left 2 n) IH), fn_tidy x.F31 sc31 (fun _ _ _ => rfl) (b31 x (Nat.le_add_left 2 n) IH), fn_tidy x.F32 sc32 (fun _ _ _ => rfl) (b32 x (Nat.le_add_left 2 n) IH)⟩
end
/-! ### the head -/
def df0 : He.DefD := ⟨((PySem.Str.ofString "is_integer"), none), (PySem.Str.ofString "is_integer"), (PySem.Str.ofString "is_integer"), defArgs (top 7), defBody (top 7), defScope (top 7), [], []⟩
def df1 : He.DefD := ⟨((PySem.Str.ofString "lowest"), none), (PySem.Str.ofString "lowest"), (PySem.Str.ofString "lowest"), defArgs (top 8), defBody (top 8), defScope (top 8), [], []⟩
def df2 : He.DefD := ⟨((PySem.Str.ofString "is_number"), none), (PySem.Str.ofString "is_number"), (PySem.Str.ofString "is_number"), defArgs (top 9), defBody (top 9), defScope (top 9), [], []⟩
def df3 : He.DefD := ⟨((PySem.Str.ofString "check_number"), none), (PySem.Str.ofString "check_number"), (PySem.Str.ofString "check_number"), defArgs (top 10), defBody (top 10), defScope (top 10), [], []⟩
def df4 : He.DefD := ⟨((PySem.Str.ofString "check_integer"), none), (PySem.Str.ofString "check_integer"), (PySem.Str.ofString "check_integer"), defArgs (top 11), defBody (top 11), defScope (top 11), [], []⟩
def df5 : He.DefD := ⟨((PySem.Str.ofString "is_polynomial"), none), (PySem.Str.ofString "is_polynomial"), (PySem.Str.ofString "is_polynomial"), defArgs (top 13), defBody (top 13), defScope (top 13), [], []⟩
def df6 : He.DefD := ⟨((PySem.Str.ofString "check_polynomial"), none), (PySem.Str.ofString "check_polynomial"), (PySem.Str.ofString "check_polynomial"), defArgs (top 14), defBody (top 14), defScope (top 14), [], []⟩
def df7 : He.DefD := ⟨((PySem.Str.ofString "stripped"), none), (PySem.Str.ofString "stripped"), (PySem.Str.ofString "stripped"), defArgs (top 15), defBody (top 15), defScope (top 15), [], []⟩
def df8 : He.DefD := ⟨((PySem.Str.ofString "value_of"), none), (PySem.Str.ofString "value_of"), (PySem.Str.ofString "value_of"), defArgs (top 16), defBody (top 16), defScope (top 16), [], []⟩
def df9 : He.DefD := ⟨((PySem.Str.ofString "value"), none), (PySem.Str.ofString "value"), (PySem.Str.ofString "value"), defArgs (top 17), defBody (top 17), defScope (top 17), [], []⟩
def df10 : He.DefD := ⟨((PySem.Str.ofString "padded"), none), (PySem.Str.ofString "padded"), (PySem.Str.ofString "padded"), defArgs (top 18), defBody (top 18), defScope (top 18), [], []⟩
def df11 : He.DefD := ⟨((PySem.Str.ofString "sum_of"), none), (PySem.Str.ofString "sum_of"), (PySem.Str.ofString "sum_of"), defArgs (top 19), defBody (top 19), defScope (top 19), [], []⟩
def df12 : He.DefD := ⟨((PySem.Str.ofString "times_of_two"), none), (PySem.Str.ofString "times_of_two"), (PySem.Str.ofString "times_of_two"), defArgs (top 20), defBody (top 20), defScope (top 20), [], []⟩
def df13 : He.DefD := ⟨((PySem.Str.ofString "scaled_by"), none), (PySem.Str.ofString "scaled_by"), (PySem.Str.ofString "scaled_by"), defArgs (top 21), defBody (top 21), defScope (top 21), [], []⟩
def df14 : He.DefD := ⟨((PySem.Str.ofString "plus"), none), (PySem.Str.ofString "plus"), (PySem.Str.ofString "plus"), defArgs (top 22), defBody (top 22), defScope (top 22), [], []⟩
def df15 : He.DefD := ⟨((PySem.Str.ofString "times"), none), (PySem.Str.ofString "times"), (PySem.Str.ofString "times"), defArgs (top 23), defBody (top 23), defScope (top 23), [], []⟩
def df16 : He.DefD := ⟨((PySem.Str.ofString "scaled"), none), (PySem.Str.ofString "scaled"), (PySem.Str.ofString "scaled"), defArgs (top 24), defBody (top 24), defScope (top 24), [], []⟩
def df17 : He.DefD := ⟨((PySem.Str.ofString "power"), none), (PySem.Str.ofString "power"), (PySem.Str.ofString "power"), defArgs (top 25), defBody (top 25), defScope (top 25), [], []⟩
def df18 : He.DefD := ⟨((PySem.Str.ofString "_law_take"), none), (PySem.Str.ofString "_law_take"), (PySem.Str.ofString "_law_take"), defArgs (top 27), defBody (top 27), defScope (top 27), [], []⟩
def df19 : He.DefD := ⟨((PySem.Str.ofString "_law_same"), none), (PySem.Str.ofString "_law_same"), (PySem.Str.ofString "_law_same"), defArgs (top 28), defBody (top 28), defScope (top 28), [], []⟩
def df20 : He.DefD := ⟨((PySem.Str.ofString "_law_low"), none), (PySem.Str.ofString "_law_low"), (PySem.Str.ofString "_law_low"), defArgs (top 29), defBody (top 29), defScope (top 29), [], []⟩
def df21 : He.DefD := ⟨((PySem.Str.ofString "_law_plus"), none), (PySem.Str.ofString "_law_plus"), (PySem.Str.ofString "_law_plus"), defArgs (top 30), defBody (top 30), defScope (top 30), [], []⟩
def df22 : He.DefD := ⟨((PySem.Str.ofString "_law_times"), none), (PySem.Str.ofString "_law_times"), (PySem.Str.ofString "_law_times"), defArgs (top 31), defBody (top 31), defScope (top 31), [], []⟩
def df23 : He.DefD := ⟨((PySem.Str.ofString "_law_dot"), none), (PySem.Str.ofString "_law_dot"), (PySem.Str.ofString "_law_dot"), defArgs (top 32), defBody (top 32), defScope (top 32), [], []⟩
def df24 : He.DefD := ⟨((PySem.Str.ofString "_law_trim"), none), (PySem.Str.ofString "_law_trim"), (PySem.Str.ofString "_law_trim"), defArgs (top 33), defBody (top 33), defScope (top 33), [], []⟩
def df25 : He.DefD := ⟨((PySem.Str.ofString "_law_sum"), none), (PySem.Str.ofString "_law_sum"), (PySem.Str.ofString "_law_sum"), defArgs (top 34), defBody (top 34), defScope (top 34), [], []⟩
def df26 : He.DefD := ⟨((PySem.Str.ofString "_law_product"), none), (PySem.Str.ofString "_law_product"), (PySem.Str.ofString "_law_product"), defArgs (top 35), defBody (top 35), defScope (top 35), [], []⟩
def df27 : He.DefD := ⟨((PySem.Str.ofString "_law_at"), none), (PySem.Str.ofString "_law_at"), (PySem.Str.ofString "_law_at"), defArgs (top 36), defBody (top 36), defScope (top 36), [], []⟩
def df28 : He.DefD := ⟨((PySem.Str.ofString "_law_polynomial"), none), (PySem.Str.ofString "_law_polynomial"), (PySem.Str.ofString "_law_polynomial"), defArgs (top 37), defBody (top 37), defScope (top 37), [], []⟩
def df29 : He.DefD := ⟨((PySem.Str.ofString "_law_drawn"), none), (PySem.Str.ofString "_law_drawn"), (PySem.Str.ofString "_law_drawn"), defArgs (top 38), defBody (top 38), defScope (top 38), [], []⟩
def df30 : He.DefD := ⟨((PySem.Str.ofString "_law_far"), none), (PySem.Str.ofString "_law_far"), (PySem.Str.ofString "_law_far"), defArgs (top 39), defBody (top 39), defScope (top 39), [], []⟩
def df31 : He.DefD := ⟨((PySem.Str.ofString "_law_right"), none), (PySem.Str.ofString "_law_right"), (PySem.Str.ofString "_law_right"), defArgs (top 40), defBody (top 40), defScope (top 40), [], []⟩
def df32 : He.DefD := ⟨((PySem.Str.ofString "law"), none), (PySem.Str.ofString "law"), (PySem.Str.ofString "law"), defArgs (top 41), defBody (top 41), defScope (top 41), [], []⟩
def dfI : He.DefD := ⟨((PySem.Str.ofString "WorthError"), some (PySem.Str.ofString "__init__")), (PySem.Str.ofString "__init__"), (PySem.Str.ofString "WorthError.__init__"), defArgs (clsM (top 2)), defBody (clsM (top 2)), defScope (clsM (top 2)), [], []⟩
def dfs : List He.DefD := [df0, df1, df2, df3, df4, df5, df6, df7, df8, df9, df10, df11, df12, df13, df14, df15, df16, df17, df18, df19, df20, df21, df22, df23, df24, df25, df26, df27, df28, df29, df30, df31, df32, dfI]
def fas : List He.Fa := [.glo (PySem.Str.ofString "is_integer"), .glo (PySem.Str.ofString "lowest"), .glo (PySem.Str.ofString "is_number"), .glo (PySem.Str.ofString "check_number"), .glo (PySem.Str.ofString "check_integer"), .glo (PySem.Str.ofString "is_polynomial"), .glo (PySem.Str.ofString "check_polynomial"), .glo (PySem.Str.ofString "stripped"), .glo (PySem.Str.ofString "value_of"), .glo (PySem.Str.ofString "value"), .glo (PySem.Str.ofString "padded"), .glo (PySem.Str.ofString "sum_of"), .glo (PySem.Str.ofString "times_of_two"), .glo (PySem.Str.ofString "scaled_by"), .glo (PySem.Str.ofString "plus"), .glo (PySem.Str.ofString "times"), .glo (PySem.Str.ofString "scaled"), .glo (PySem.Str.ofString "power"), .glo (PySem.Str.ofString "_law_take"), .glo (PySem.Str.ofString "_law_same"), .glo (PySem.Str.ofString "_law_low"), .glo (PySem.Str.ofString "_law_plus"), .glo (PySem.Str.ofString "_law_times"), .glo (PySem.Str.ofString "_law_dot"), .glo (PySem.Str.ofString "_law_trim"), .glo (PySem.Str.ofString "_law_sum"), .glo (PySem.Str.ofString "_law_product"), .glo (PySem.Str.ofString "_law_at"), .glo (PySem.Str.ofString "_law_polynomial"), .glo (PySem.Str.ofString "_law_drawn"), .glo (PySem.Str.ofString "_law_far"), .glo (PySem.Str.ofString "_law_right"), .glo (PySem.Str.ofString "law"), .glo (PySem.Str.ofString "WorthError"), .glo (PySem.Str.ofString "InvalidNumber"), .glo (PySem.Str.ofString "InvalidPolynomial"), .glo (PySem.Str.ofString "InvalidInteger"), .free (PySem.Str.ofString "ValueError"), .free (PySem.Str.ofString "abs"), .free (PySem.Str.ofString "all"), .free (PySem.Str.ofString "bool"), .free (PySem.Str.ofString "enumerate"), .free (PySem.Str.ofString "int"), .free (PySem.Str.ofString "isinstance"), .free (PySem.Str.ofString "len"), .free (PySem.Str.ofString "list"), .free (PySem.Str.ofString "max"), .free (PySem.Str.ofString "range"), .free (PySem.Str.ofString "str"), .free (PySem.Str.ofString "tuple"), .free (PySem.Str.ofString "zip")]
def fx (K : PySem.W.Frag) : Bool := (excB K (ca K) anc (He.ma K (He.ga K (PySem.Str.ofString "WorthError")) (PySem.Str.ofString "__init__")) && (bltB K (PySem.Str.ofString "gcd") "math.gcd" && true))
abbrev R : PySem.W.OpenRow := PySem.W.OpenLaw.row PySem.Challenge.rw_wholerates_k04_whole_sums_products_power
abbrev hk : PySem.W.Hook := hookX 6 fas dfs fx
def ob (s : PySem.W.SharedT) : AlX := obsXG 6 fas dfs fx (HandSHeadRun.getT s)
theorem ob_eq (s : PySem.W.SharedT) : ob s = hk.obs s.abs := obsXG_eq (HandSHeadRun.getT_eq s)
def loose0 : List Str := [(PySem.Str.ofString "WorthError"), (PySem.Str.ofString "InvalidNumber"), (PySem.Str.ofString "InvalidPolynomial"), (PySem.Str.ofString "InvalidInteger"), (PySem.Str.ofString "is_integer"), (PySem.Str.ofString "lowest"), (PySem.Str.ofString "is_number"), (PySem.Str.ofString "check_number"), (PySem.Str.ofString "check_integer"), (PySem.Str.ofString "is_polynomial"), (PySem.Str.ofString "check_polynomial"), (PySem.Str.ofString "stripped"), (PySem.Str.ofString "value_of"), (PySem.Str.ofString "value"), (PySem.Str.ofString "padded"), (PySem.Str.ofString "sum_of"), (PySem.Str.ofString "times_of_two"), (PySem.Str.ofString "scaled_by"), (PySem.Str.ofString "plus"), (PySem.Str.ofString "times"), (PySem.Str.ofString "scaled"), (PySem.Str.ofString "power"), (PySem.Str.ofString "_law_take"), (PySem.Str.ofString "_law_same"), (PySem.Str.ofString "_law_low"), (PySem.Str.ofString "_law_plus"), (PySem.Str.ofString "_law_times"), (PySem.Str.ofString "_law_dot"), (PySem.Str.ofString "_law_trim"), (PySem.Str.ofString "_law_sum")]
def loose1 : List Str := [(PySem.Str.ofString "_law_product"), (PySem.Str.ofString "_law_at"), (PySem.Str.ofString "_law_polynomial"), (PySem.Str.ofString "_law_drawn"), (PySem.Str.ofString "_law_far"), (PySem.Str.ofString "_law_right")]
abbrev loose : List Str := loose0 ++ loose1
theorem run (w : World) : HandSHeadRun.RunEqI R (PySem.W.view R.prog [0, 41]) hk ob 60000 loose w := by
  unfold HandSHeadRun.RunEqI
  kernel_rfl
theorem ctx {K : PySem.W.Frag} {h : Heap} {mg : Str → Option Value} (X : K.In h) (G : h.Ns mainGlobals mg) (c : SaysX fas dfs fx K) : Nonempty (Ctx K mg) := by
  obtain ⟨fd0, F0⟩ := c.d.def_ 0 (d := df0) rfl
  obtain ⟨fd1, F1⟩ := c.d.def_ 1 (d := df1) rfl
  obtain ⟨fd2, F2⟩ := c.d.def_ 2 (d := df2) rfl
  obtain ⟨fd3, F3⟩ := c.d.def_ 3 (d := df3) rfl
  obtain ⟨fd4, F4⟩ := c.d.def_ 4 (d := df4) rfl
  obtain ⟨fd5, F5⟩ := c.d.def_ 5 (d := df5) rfl
  obtain ⟨fd6, F6⟩ := c.d.def_ 6 (d := df6) rfl
  obtain ⟨fd7, F7⟩ := c.d.def_ 7 (d := df7) rfl
  obtain ⟨fd8, F8⟩ := c.d.def_ 8 (d := df8) rfl
  obtain ⟨fd9, F9⟩ := c.d.def_ 9 (d := df9) rfl
  obtain ⟨fd10, F10⟩ := c.d.def_ 10 (d := df10) rfl
  obtain ⟨fd11, F11⟩ := c.d.def_ 11 (d := df11) rfl
  obtain ⟨fd12, F12⟩ := c.d.def_ 12 (d := df12) rfl
  obtain ⟨fd13, F13⟩ := c.d.def_ 13 (d := df13) rfl
  obtain ⟨fd14, F14⟩ := c.d.def_ 14 (d := df14) rfl
  obtain ⟨fd15, F15⟩ := c.d.def_ 15 (d := df15) rfl
  obtain ⟨fd16, F16⟩ := c.d.def_ 16 (d := df16) rfl
  obtain ⟨fd17, F17⟩ := c.d.def_ 17 (d := df17) rfl
  obtain ⟨fd18, F18⟩ := c.d.def_ 18 (d := df18) rfl
  obtain ⟨fd19, F19⟩ := c.d.def_ 19 (d := df19) rfl
  obtain ⟨fd20, F20⟩ := c.d.def_ 20 (d := df20) rfl
  obtain ⟨fd21, F21⟩ := c.d.def_ 21 (d := df21) rfl
  obtain ⟨fd22, F22⟩ := c.d.def_ 22 (d := df22) rfl
  obtain ⟨fd23, F23⟩ := c.d.def_ 23 (d := df23) rfl
  obtain ⟨fd24, F24⟩ := c.d.def_ 24 (d := df24) rfl
  obtain ⟨fd25, F25⟩ := c.d.def_ 25 (d := df25) rfl
  obtain ⟨fd26, F26⟩ := c.d.def_ 26 (d := df26) rfl
  obtain ⟨fd27, F27⟩ := c.d.def_ 27 (d := df27) rfl
  obtain ⟨fd28, F28⟩ := c.d.def_ 28 (d := df28) rfl
  obtain ⟨fd29, F29⟩ := c.d.def_ 29 (d := df29) rfl
  obtain ⟨fd30, F30⟩ := c.d.def_ 30 (d := df30) rfl
  obtain ⟨fd31, F31⟩ := c.d.def_ 31 (d := df31) rfl
  obtain ⟨fd32, F32⟩ := c.d.def_ 32 (d := df32) rfl
  obtain ⟨fdI, FI⟩ := c.d.def_ 33 (d := dfI) rfl
  have hx := c.x
  unfold fx at hx
  obtain ⟨x0, hx⟩ := Bool.and_eq_true_iff.mp hx
  obtain ⟨x1, hx⟩ := Bool.and_eq_true_iff.mp hx
  obtain ⟨C, ex, tI⟩ := excB_ok x0
  exact ⟨{ C := C,
            fI := _,
            fdI := fdI,
            ex := ex,
            tI := tI,
            FI := FI,
            fd0 := fd0,
            F0 := F0,
            g_is_integer := He.glo_ok X G (c.d.fact 0 (f := .glo (PySem.Str.ofString "is_integer")) rfl),
            fd1 := fd1,
            F1 := F1,
            g_lowest := He.glo_ok X G (c.d.fact 1 (f := .glo (PySem.Str.ofString "lowest")) rfl),
            fd2 := fd2,
            F2 := F2,
            g_is_number := He.glo_ok X G (c.d.fact 2 (f := .glo (PySem.Str.ofString "is_number")) rfl),
            fd3 := fd3,
            F3 := F3,
            g_check_number := He.glo_ok X G (c.d.fact 3 (f := .glo (PySem.Str.ofString "check_number")) rfl),
            fd4 := fd4,
            F4 := F4,
            g_check_integer := He.glo_ok X G (c.d.fact 4 (f := .glo (PySem.Str.ofString "check_integer")) rfl),
            fd5 := fd5,
            F5 := F5,
            g_is_polynomial := He.glo_ok X G (c.d.fact 5 (f := .glo (PySem.Str.ofString "is_polynomial")) rfl),
            fd6 := fd6,
            F6 := F6,
            g_check_polynomial := He.glo_ok X G (c.d.fact 6 (f := .glo (PySem.Str.ofString "check_polynomial")) rfl),
            fd7 := fd7,
            F7 := F7,
            g_stripped := He.glo_ok X G (c.d.fact 7 (f := .glo (PySem.Str.ofString "stripped")) rfl),
            fd8 := fd8,
            F8 := F8,
            g_value_of := He.glo_ok X G (c.d.fact 8 (f := .glo (PySem.Str.ofString "value_of")) rfl),
            fd9 := fd9,
            F9 := F9,
            g_value := He.glo_ok X G (c.d.fact 9 (f := .glo (PySem.Str.ofString "value")) rfl),
            fd10 := fd10,
            F10 := F10,
            g_padded := He.glo_ok X G (c.d.fact 10 (f := .glo (PySem.Str.ofString "padded")) rfl),
            fd11 := fd11,
            F11 := F11,
            g_sum_of := He.glo_ok X G (c.d.fact 11 (f := .glo (PySem.Str.ofString "sum_of")) rfl),
            fd12 := fd12,
            F12 := F12,
            g_times_of_two := He.glo_ok X G (c.d.fact 12 (f := .glo (PySem.Str.ofString "times_of_two")) rfl),
            fd13 := fd13,
            F13 := F13,
            g_scaled_by := He.glo_ok X G (c.d.fact 13 (f := .glo (PySem.Str.ofString "scaled_by")) rfl),
            fd14 := fd14,
            F14 := F14,
            g_plus := He.glo_ok X G (c.d.fact 14 (f := .glo (PySem.Str.ofString "plus")) rfl),
            fd15 := fd15,
            F15 := F15,
            g_times := He.glo_ok X G (c.d.fact 15 (f := .glo (PySem.Str.ofString "times")) rfl),
            fd16 := fd16,
            F16 := F16,
            g_scaled := He.glo_ok X G (c.d.fact 16 (f := .glo (PySem.Str.ofString "scaled")) rfl),
            fd17 := fd17,
            F17 := F17,
            g_power := He.glo_ok X G (c.d.fact 17 (f := .glo (PySem.Str.ofString "power")) rfl),
            fd18 := fd18,
            F18 := F18,
            g__law_take := He.glo_ok X G (c.d.fact 18 (f := .glo (PySem.Str.ofString "_law_take")) rfl),
            fd19 := fd19,
            F19 := F19,
            g__law_same := He.glo_ok X G (c.d.fact 19 (f := .glo (PySem.Str.ofString "_law_same")) rfl),
            fd20 := fd20,
            F20 := F20,
            g__law_low := He.glo_ok X G (c.d.fact 20 (f := .glo (PySem.Str.ofString "_law_low")) rfl),
            fd21 := fd21,
            F21 := F21,
            g__law_plus := He.glo_ok X G (c.d.fact 21 (f := .glo (PySem.Str.ofString "_law_plus")) rfl),
            fd22 := fd22,
            F22 := F22,
            g__law_times := He.glo_ok X G (c.d.fact 22 (f := .glo (PySem.Str.ofString "_law_times")) rfl),
            fd23 := fd23,
            F23 := F23,
            g__law_dot := He.glo_ok X G (c.d.fact 23 (f := .glo (PySem.Str.ofString "_law_dot")) rfl),
            fd24 := fd24,
            F24 := F24,
            g__law_trim := He.glo_ok X G (c.d.fact 24 (f := .glo (PySem.Str.ofString "_law_trim")) rfl),
            fd25 := fd25,
            F25 := F25,
            g__law_sum := He.glo_ok X G (c.d.fact 25 (f := .glo (PySem.Str.ofString "_law_sum")) rfl),
            fd26 := fd26,
            F26 := F26,
            g__law_product := He.glo_ok X G (c.d.fact 26 (f := .glo (PySem.Str.ofString "_law_product")) rfl),
            fd27 := fd27,
            F27 := F27,
            g__law_at := He.glo_ok X G (c.d.fact 27 (f := .glo (PySem.Str.ofString "_law_at")) rfl),
            fd28 := fd28,
            F28 := F28,
            g__law_polynomial := He.glo_ok X G (c.d.fact 28 (f := .glo (PySem.Str.ofString "_law_polynomial")) rfl),
            fd29 := fd29,
            F29 := F29,
            g__law_drawn := He.glo_ok X G (c.d.fact 29 (f := .glo (PySem.Str.ofString "_law_drawn")) rfl),
            fd30 := fd30,
            F30 := F30,
            g__law_far := He.glo_ok X G (c.d.fact 30 (f := .glo (PySem.Str.ofString "_law_far")) rfl),
            fd31 := fd31,
            F31 := F31,
            g__law_right := He.glo_ok X G (c.d.fact 31 (f := .glo (PySem.Str.ofString "_law_right")) rfl),
            fd32 := fd32,
            F32 := F32,
            g_law := He.glo_ok X G (c.d.fact 32 (f := .glo (PySem.Str.ofString "law")) rfl),
            i_gcd := bltB_ok X G x1,
            g_WorthError := He.glo_ok X G (c.d.fact 33 (f := .glo (PySem.Str.ofString "WorthError")) rfl),
            g_InvalidNumber := He.glo_ok X G (c.d.fact 34 (f := .glo (PySem.Str.ofString "InvalidNumber")) rfl),
            g_InvalidPolynomial := He.glo_ok X G (c.d.fact 35 (f := .glo (PySem.Str.ofString "InvalidPolynomial")) rfl),
            g_InvalidInteger := He.glo_ok X G (c.d.fact 36 (f := .glo (PySem.Str.ofString "InvalidInteger")) rfl),
            b_ValueError := He.free_ok X G (c.d.fact 37 (f := .free (PySem.Str.ofString "ValueError")) rfl),
            b_abs := He.free_ok X G (c.d.fact 38 (f := .free (PySem.Str.ofString "abs")) rfl),
            b_all := He.free_ok X G (c.d.fact 39 (f := .free (PySem.Str.ofString "all")) rfl),
            b_bool := He.free_ok X G (c.d.fact 40 (f := .free (PySem.Str.ofString "bool")) rfl),
            b_enumerate := He.free_ok X G (c.d.fact 41 (f := .free (PySem.Str.ofString "enumerate")) rfl),
            b_int := He.free_ok X G (c.d.fact 42 (f := .free (PySem.Str.ofString "int")) rfl),
            b_isinstance := He.free_ok X G (c.d.fact 43 (f := .free (PySem.Str.ofString "isinstance")) rfl),
            b_len := He.free_ok X G (c.d.fact 44 (f := .free (PySem.Str.ofString "len")) rfl),
            b_list := He.free_ok X G (c.d.fact 45 (f := .free (PySem.Str.ofString "list")) rfl),
            b_max := He.free_ok X G (c.d.fact 46 (f := .free (PySem.Str.ofString "max")) rfl),
            b_range := He.free_ok X G (c.d.fact 47 (f := .free (PySem.Str.ofString "range")) rfl),
            b_str := He.free_ok X G (c.d.fact 48 (f := .free (PySem.Str.ofString "str")) rfl),
            b_tuple := He.free_ok X G (c.d.fact 49 (f := .free (PySem.Str.ofString "tuple")) rfl),
            b_zip := He.free_ok X G (c.d.fact 50 (f := .free (PySem.Str.ofString "zip")) rfl),
            vV := by rfl }⟩
/-! ### the law holds, if what is computed is True -/
theorem holds_of (m : Nat) (hr : Room (m + 2) callerA) (hlaw : ∀ ns : List Int, ns.length ≤ 63 → ∃ S, calls m 32 [.fls ns] [] = .ok (.bl true) S) : PySem.Challenge.rw_wholerates_k04_whole_sums_products_power.Holds := by
  w_on; o_law
  refine HandSHeadRun.head_imp (r := R) (q := PySem.W.view R.prog [0, 41]) (H := hk) (ob := ob) (M := 60000) (loose := loose) (d := HandSHeadRun.topDef R.prog 41) (kwd := []) ob_eq
    run (by kernel_rfl) (by kernel_rfl) (by kernel_rfl) (by rfl) (by first | assumption | decide +kernel) (by decide +kernel) ⟨rfl, rfl, rfl, rfl, rfl, by decide +kernel⟩ ?hw ?hc
  case hw => w_witness2
  case hc =>
    refine L2.walk_ofE (l := PySem.Challenge.rw_wholerates_k04_whole_sums_products_power) (n := 63) (k := m + 2) (x := PySem.Str.ofString "script") (CX := CX0) rfl (by decide) (by kernel_rfl) hr ?F (fun _ _ _ _ z => z)
    intro w mg fa h Y G hmg0
    obtain ⟨K, KX, c⟩ := Y
    have hmg : mg (PySem.Str.ofString "law") = some (.ref fa) := by
      have e : (HandSHeadRun.topDef R.prog 41).name = PySem.Str.ofString "law" := by kernel_rfl
      rw [← e]
      exact hmg0
    obtain ⟨x⟩ := ctx KX G c
    have e := hmg.symm.trans x.g_law
    cases e
    have b := FunD.bindsA (ps := P32) x.F32 fun _ _ _ _ _ _ us hl => match us, hl with | [_], _ => rfl
    exact ⟨K, x.fd32, _, KX, fun s v => b s [v] rfl, fun H a ns hl hO hS => (by obtain ⟨S, q⟩ := hlaw ns hl; exact law_sp (ca := ca K) hO hS q), fun base _ _ => fn_cx0 (all x m).f32⟩
end K04

set_option maxHeartbeats 4000000
namespace K04
open Py
open PySem (Str sizeLine)
variable {n : Nat} {S : Store}
theorem sl : sizeLine = 16777216 := by decide
def P (l : List Int) : D := .tup (l.map .int)
def Q (q : Int × Int) : D := .tup [.int q.1, .int q.2]
theorem is_int {d : D} (h : Vl d = true) : calls (n + 1) 0 [d] S = .ok (.bl (isI d)) S := by
  show tidy S (runBody (isIntD anc) 1 [d] S) = _
  rw [isInt_body h]; exact tidy_ok0
theorem lowest_ok {a b : Int} (hb : 0 < b) (h : b.natAbs < 2 ^ 1000) : calls (n + 1) 1 [.int a, .int b] S = .ok (Q (low a b)) S := by
  show tidy S (runBody (d1 (calls n)) 3 [.int a, .int b] S) = _
  have hp : 0 < Nat.gcd a.natAbs b.natAbs := Nat.gcd_pos_of_pos_right _ (Int.natAbs_pos.mpr (by omega))
  have hle : Nat.gcd a.natAbs b.natAbs ≤ b.natAbs := Nat.gcd_le_right _ (Int.natAbs_pos.mpr (by omega))
  have hd : divOk ((Nat.gcd a.natAbs b.natAbs : Nat) : Int) = true := divOk_small (by omega) (by rw [Int.natAbs_natCast]; exact Nat.lt_of_le_of_lt hle h)
  have e1 : cofP a b = ((Nat.gcd a.natAbs b.natAbs : Nat) : Int) := if_neg (by omega)
  have hn : ¬ b < 0 := by omega
  have e : runBody (d1 (calls n)) 3 [.int a, .int b] S = .ok (Q (low a b)) S := by
    unfold runBody d1 Q low
    rw [e1]
    simp [hn, oFdiv_i hd]
  rw [e]; exact tidy_ok0
/-- a number -/
structure Nm (q : Int × Int) : Prop where
  pos : 0 < q.2
  cop : Nat.gcd q.1.natAbs q.2.natAbs = 1
theorem low_nm {a b : Int} (hb : 0 < b) : Nm (low a b) := ⟨(low_f hb).pos, (low_f hb).cop⟩
theorem is_num {q : Int × Int} (h : Nm q) : calls (n + 2) 2 [Q q] S = .ok (.bl true) S := by
  show tidy S (runBody (numHead anc (calls (n + 1)) 0 numT) 2 [Q q] S) = _
  rw [num_body rfl fun xs e => ⟨by cases e; rw [sl]; simp, fun x hx S' => is_int (by
    cases e
    simp only [List.mem_cons, List.not_mem_nil, or_false] at hx
    rcases hx with rfl | rfl <;> rfl)⟩]
  have : numB (Q q) = true := by unfold Q numB; simp [h.pos, h.cop]
  rw [this]; exact tidy_ok0
theorem check_num {q : Int × Int} (h : Nm q) : calls (n + 3) 3 [Q q] S = .ok .non S := by
  show tidy S (runBody (d3 (calls (n + 2))) 1 [Q q] S) = _
  have : runBody (d3 (calls (n + 2))) 1 [Q q] S = .ok .non S := by
    unfold runBody d3
    simp [is_num h]
  rw [this]; exact tidy_ok0
theorem check_int0 {k : Int} : calls (n + 2) 4 [.int k, .non] S = .ok .non S := by
  show tidy S (runBody (d4 (calls (n + 1))) 2 [.int k, .non] S) = _
  have : runBody (d4 (calls (n + 1))) 2 [.int k, .non] S = .ok .non S := by
    unfold runBody d4
    simp [is_int (n := n) (d := .int k) rfl, isI, isNon]
  rw [this]; exact tidy_ok0
theorem check_int1 {k : Int} (h : 0 ≤ k) : calls (n + 2) 4 [.int k, .int 0] S = .ok .non S := by
  show tidy S (runBody (d4 (calls (n + 1))) 2 [.int k, .int 0] S) = _
  have hn : ¬ k < 0 := by omega
  have : runBody (d4 (calls (n + 1))) 2 [.int k, .int 0] S = .ok .non S := by
    unfold runBody d4
    simp [is_int (n := n) (d := .int k) rfl, isI, isNon, hn]
  rw [this]; exact tidy_ok0
theorem is_poly {l : List Int} (h : Lead l) (hl : l.length ≤ 100) : calls (n + 2) 5 [P l] S = .ok (.bl true) S := by
  show tidy S (runBody (polyD anc (calls (n + 1)) 0) 2 [P l] S) = _
  rw [poly_body rfl fun xs e => ⟨by cases e; rw [sl, List.length_map]; omega, fun x hx S' => is_int (by
    cases e
    obtain ⟨c, _, rfl⟩ := List.mem_map.mp hx
    rfl)⟩]
  rw [show polyB (P l) = true from lead_poly h]; exact tidy_ok0
theorem check_poly {l : List Int} (h : Lead l) (hl : l.length ≤ 100) : calls (n + 3) 6 [P l] S = .ok .non S := by
  show tidy S (runBody (d6 (calls (n + 2))) 1 [P l] S) = _
  have : runBody (d6 (calls (n + 2))) 1 [P l] S = .ok .non S := by
    unfold runBody d6
    simp [is_poly h hl]
  rw [this]; exact tidy_ok0
theorem len_P {l : List Int} : oLen [P l] S = .ok (.int l.length) S := by
  show R.ok (D.int ((l.map D.int).length : Nat)) S = _
  rw [List.length_map]
theorem nz_dec {l : List Int} {k : Nat} (h : k < l.length) : nz0 l k = (l[k] == 0) := by unfold nz0; rw [List.getElem?_eq_getElem h]
theorem stripped_ok {l : List Int} : calls (n + 1) 7 [.lst (l.map .int), .int 0] S = .ok (P (trim l)) S := by
  show tidy S (runBody (d7 (calls n)) 3 [.lst (l.map .int), .int 0] S) = _
  have ln : oLen [.lst (l.map .int)] S = .ok (.int l.length) S := by
    show R.ok (D.int ((l.map D.int).length : Nat)) S = _
    rw [List.length_map]
  obtain ⟨k', h1, h2, h3⟩ := while_trim (S := S) (l := l) (T := tAnd (tVal (eBin oLt (eVar 2) (eFn oLen (dCons (eVar 0) dNil)))) (tVal (eBin oEq (eBin oIdx (eVar 0) (eVar 2)) (eVar 1)))) (B := sSet 2 (eBin oCat (eVar 2) (eC (.int 1))))
    (E := fun k => [some (.lst (l.map .int)), some (.int 0), some (.int k)]) (fun k hk => by
      simp only [tAnd_ap, tVal_ap, eBin_ap, eVar_c, eVar_c0, eFn_ap, dCons_ap, dNil_ap, R.bind, ln, oLt_i]
      by_cases hlt : k < l.length
      · have e1 : decide ((k : Int) < (l.length : Int)) = true := decide_eq_true (by omega)
        have e2 : oIdx (.lst (l.map .int)) (.int k) S = .ok (.int l[k]) S := idx_lst (by rw [atI_nat (by rw [List.length_map]; exact hlt), List.getElem_map])
        simp only [e1, if_true, e2, oEq_i, nz_dec hlt]
      · have e1 : decide ((k : Int) < (l.length : Int)) = false := decide_eq_false (by omega)
        have e3 : nz0 l k = false := by unfold nz0; rw [List.getElem?_eq_none (by omega)]
        simp only [e1, Bool.false_eq_true, if_false, e3])
    (fun k => by simp only [sSet_ap, eBin_ap, eVar_c, eVar_c0, eC_ap, R.bind, oCat_i, List.set]; rfl) l.length 0 (by omega)
  have ec : cutD (l.map D.int) (some (k' : Int)) none = (trim l).map .int := by
    rw [cut_drop (by rw [List.length_map]; exact h2), ← List.map_drop, h3, List.drop_zero]
  have e : runBody (d7 (calls n)) 3 [.lst (l.map .int), .int 0] S = .ok (P (trim l)) S := by
    unfold runBody d7
    simp only [List.map_cons, List.map_nil, List.length_cons, List.length_nil, List.replicate, List.cons_append, List.nil_append, sSeq_ap, sSet_ap, eC_ap, List.set]
    have h1' := h1
    simp only [Int.natCast_zero] at h1'
    have h1'' : sWhile (tAnd (tVal (eBin oLt (eVar 2) (eFn oLen (dCons (eVar 0) dNil)))) (tVal (eBin oEq (eBin oIdx (eVar 0) (eVar 2)) (eVar 1)))) (sSet 2 (eBin oCat (eVar 2) (eC (.int 1)))) [some (.lst (l.map .int)), some (.int 0), some (.int 0)] S = .next [some (.lst (l.map .int)), some (.int 0), some (.int k')] S := h1
    rw [h1'']
    simp only [sRet_ap, eFn_ap, dCons_ap, dNil_ap, eSl, eVar_c, eVar_c0, oPart, oNo, R.bind, asL, ec]
    rfl
  rw [e]; exact tidy_ok0
end K04

set_option maxHeartbeats 4000000
namespace K04
open Py
open PySem (Str sizeLine)
variable {n : Nat} {S : Store}
/-- small enough -/
structure Xb (x : Int × Int) : Prop where
  nm : Nm x
  a : x.1.natAbs ≤ 2 ^ 10
  b : x.2.natAbs ≤ 2 ^ 10
def worth (l : List Int) (x : Int × Int) : Int × Int := low (hev x.1 x.2 l) (x.2 ^ (l.length - 1))
theorem bd_take {p : Nat} {l : List Int} (h : Bd p l) (i : Nat) : Bd p (l.take i) := fun c hc => h c (List.mem_of_mem_take hc)
theorem value_of_ok {l : List Int} {x : Int × Int} {p : Nat} (hx : Xb x) (hb : Bd p l) (hp : p ≤ 300) (hl : l.length ≤ 20) : calls (n + 2) 8 [P l, Q x] S = .ok (Q (worth l x)) S := by
  show tidy S (runBody (d8 (calls (n + 1))) 6 [P l, Q x] S) = _
  obtain ⟨a, b⟩ := x
  have hb0 : 0 < b := hx.nm.pos
  have ba : a.natAbs ≤ 2 ^ 10 := hx.a
  have bb : b.natAbs ≤ 2 ^ 10 := hx.b
  let Inv : Nat → Env → Store → Prop := fun i e U => U = S ∧ ∃ o4 o5, e = [some (P l), some (Q (a, b)), some (.int (hev a b (l.take i))), some (.int (b ^ (i - 1))), o4, o5]
  obtain ⟨e', S', hf, rfl, o4, o5, rfl⟩ := forL_inv (g := gTup ((gNm 4) :: ((gNm 5) :: []))) (b := (sSeq (sSet 3 (eIf (tVal (eBin oGt (eVar 4) (eC (.int 0)))) (eBin oRep (eVar 3) (eBin oIdx (eVar 1) (eC (.int 1)))) (eC (.int 1))))
    (sSet 2 (eBin oCat (eBin oRep (eVar 2) (eBin oIdx (eVar 1) (eC (.int 0)))) (eBin oRep (eVar 5) (eVar 3)))))) (xs := enumP (l.map .int)) Inv (fun i y e U hy hI => by
    obtain ⟨rfl, o4, o5, rfl⟩ := hI
    have hi : i < l.length := by
      have := (List.getElem?_eq_some_iff.mp hy).1
      rwa [enumP_len, List.length_map] at this
    rw [enumP_get, List.getElem?_map, List.getElem?_eq_getElem hi] at hy
    cases hy
    refine ⟨_, rfl, _, _, .inl ?_, rfl, some (.int i), some (.int l[i]), rfl⟩
    have i0 : oIdx (Q (a, b)) (.int 0) U = .ok (.int a) U := rfl
    have i1 : oIdx (Q (a, b)) (.int 1) U = .ok (.int b) U := rfl
    have hpw : ∀ k, k ≤ 20 → (b ^ k).natAbs < 2 ^ 1000 := fun k hk => bd_lt (bd_mono (pow_bd bb k) (show 10 * k ≤ 200 by omega)) (by decide)
    have t1 : (hev a b (l.take i)).natAbs < 2 ^ 1000 := bd_lt (bd_mono (hev_bd ba bb (bd_take hb i)) (show p + 11 * (l.take i).length ≤ 520 by rw [List.length_take]; omega)) (by decide)
    have c1 : l[i].natAbs < 2 ^ 1000 := bd_lt (bd_mono (hb _ (List.getElem_mem hi)) hp) (by decide)
    have m1 : mulOk (b ^ (i - 1)) b = true := mulOk_small (hpw _ (by omega)) (bd_lt bb (by decide))
    have m2 : mulOk (hev a b (l.take i)) a = true := mulOk_small t1 (bd_lt ba (by decide))
    have m3 : mulOk l[i] (b ^ i) = true := mulOk_small c1 (hpw _ (by omega))
    have bt : (sSet 3 (eIf (tVal (eBin oGt (eVar 4) (eC (.int 0)))) (eBin oRep (eVar 3) (eBin oIdx (eVar 1) (eC (.int 1)))) (eC (.int 1)))) [some (P l), some (Q (a, b)), some (.int (hev a b (l.take i))), some (.int (b ^ (i - 1))), some (.int i), some (.int l[i])] U =
        .next [some (P l), some (Q (a, b)), some (.int (hev a b (l.take i))), some (.int (b ^ i)), some (.int i), some (.int l[i])] U := by
      by_cases h0 : i = 0
      · subst h0
        simp only [sSet_ap, eIf_ap, tVal_ap, eBin_ap, eVar_c, eVar_c0, eC_ap, R.bind, oGt_i, Int.natCast_zero, Int.lt_irrefl, decide_false, Bool.false_eq_true, if_false, List.set, Int.pow_zero]
      · have hg : decide ((0 : Int) < (i : Int)) = true := decide_eq_true (by omega)
        simp only [sSet_ap, eIf_ap, tVal_ap, eBin_ap, eVar_c, eVar_c0, eC_ap, R.bind, oGt_i, hg, if_true, i1, oRep_i m1, List.set]
        rw [← Int.pow_succ, show (i - 1).succ = i by omega]
    rw [sSeq_ap]
    show (match (sSet 3 _) [some (P l), some (Q (a, b)), some (.int (hev a b (l.take i))), some (.int (b ^ (i - 1))), some (.int i), some (.int l[i])] U with | .next e1 S1 => _ | r => r) = _
    rw [bt]
    simp only [sSet_ap, eBin_ap, eVar_c, eVar_c0, eC_ap, R.bind, i0, oRep_i m2, oRep_i m3, oCat_i, List.set]
    rw [List.take_succ_eq_append_getElem hi, hev_snoc, List.length_take, Nat.min_eq_left (by omega), Int.mul_comm a, Nat.add_sub_cancel])
    [some (P l), some (Q (a, b)), some (.int 0), some (.int 1), none, none] S ⟨rfl, none, none, by simp [hev]⟩
  rw [enumP_len, List.length_map, List.take_length] at hf
  have bp : 0 < b ^ (l.length - 1) := Int.pow_pos hb0
  have bl : (b ^ (l.length - 1)).natAbs < 2 ^ 1000 := bd_lt (bd_mono (pow_bd bb _) (show 10 * (l.length - 1) ≤ 200 by omega)) (by decide)
  have e : runBody (d8 (calls (n + 1))) 6 [P l, Q (a, b)] S' = .ok (Q (worth l (a, b))) S' := by
    unfold runBody d8
    simp only [List.map_cons, List.map_nil, List.length_cons, List.length_nil, List.replicate, List.cons_append, List.nil_append, sSeq_ap, sAsg_ap, eTup_ap, dCons_ap, eC_ap, dNil_ap, R.bind, gTup_ap, gAll_cons, gNm_ap, gAll_nil, List.set]
    rw [sFor_L (dEnumA_tup (xs := l.map .int) (S1 := S') rfl), hf]
    simp only [sRet_ap, eCall_ap, dCons_ap, eVar_c, eVar_c0, dNil_ap, R.bind, lowest_ok (n := n) bp bl]
    rfl
  rw [e]; exact tidy_ok0
theorem value_ok {l : List Int} {x : Int × Int} {p : Nat} (hx : Xb x) (hb : Bd p l) (hp : p ≤ 300) (hl : l.length ≤ 20) (hd : Lead l) : calls (n + 4) 9 [P l, Q x] S = .ok (Q (worth l x)) S := by
  show tidy S (runBody (d9 (calls (n + 3))) 2 [P l, Q x] S) = _
  have : runBody (d9 (calls (n + 3))) 2 [P l, Q x] S = .ok (Q (worth l x)) S := by
    unfold runBody d9
    simp [check_poly (n := n) hd (show l.length ≤ 100 by omega), check_num (n := n) hx.nm, value_of_ok (n := n + 1) hx hb hp hl]
  rw [this]; exact tidy_ok0
end K04

set_option maxHeartbeats 4000000
namespace K04
open Py
open PySem (Str sizeLine)
variable {n : Nat} {S : Store}
theorem kSet_nat {v : D} {xs : List D} {i : Nat} (h : i < xs.length) : kSet (.int (i : Int)) v xs = some (xs.set i v, .non) := by
  unfold kSet L2.ixN
  dsimp only
  rw [if_pos (by omega), if_pos (by omega)]
  rfl
/-- the product as the program has it -/
def prd (f g : List Int) : List Int := if f = [] ∨ g = [] then [] else conv f g
theorem repD_zero {k : Nat} : repD k [D.int 0] = (List.replicate k 0).map .int := by
  unfold repD
  induction k with
  | zero => rfl
  | succ k ih => simp only [List.replicate_succ, List.flatten_cons, List.map_cons, ih]; rfl
theorem nil_dec {l : List Int} : oNe (P l) (.tup []) S = .ok (.bl (decide (l ≠ []))) S := by
  rw [show oNe (P l) (.tup []) S = _ from oNe_fit (fit_tints l) rfl]
  cases l <;> rfl
theorem cell_add {S : Store} {acc : List Int} {k : Nat} {d : Int} {o : Nat} (h : S[o]? = some (.lst (acc.map .int))) (hk : k < acc.length) :
    oIdx (.ref o) (.int (k : Int)) S = .ok (.int (acc.getD k 0)) S ∧ chg (kSet (.int (k : Int)) (.int d)) (.ref o) S = .ok .non (S.set o (.lst ((acc.set k d).map .int))) := by
  have hk' : k < (acc.map D.int).length := by rw [List.length_map]; exact hk
  refine ⟨idx_ref h ?_, ?_⟩
  · rw [atI_nat hk', List.getElem_map]
    simp [hk]
  · rw [List.map_set]
    exact chg_at h (kSet_nat hk')
theorem last_set {o : O} {o' : O} : (S ++ [o]).set S.length o' = S ++ [o'] := by rw [List.set_append_right _ _ (Nat.le_refl _), Nat.sub_self]; rfl
theorem last_get {o : O} : (S ++ [o])[S.length]? = some o := by rw [List.getElem?_append_right (Nat.le_refl _), Nat.sub_self]; rfl
theorem noRefL_all {xs : List D} (h : ∀ x ∈ xs, noRef x = true) : noRefL xs = true := by
  have := noRefL_map (φ := id) h
  simpa using this
theorem times_ok {f g : List Int} (hf : ∀ c ∈ f, c.natAbs < 2 ^ 1000) (hg : ∀ c ∈ g, c.natAbs < 2 ^ 1000) (lf : f.length ≤ 100) (lg : g.length ≤ 100) : calls (n + 1) 12 [P f, P g] S = .ok (P (prd f g)) S := by
  show tidy S (runBody (d12 (calls n)) 7 [P f, P g] S) = _
  let N := f.length + g.length - 1
  let St : List Int → Store := fun acc => S ++ [.lst (acc.map .int)]
  have hSt : ∀ acc, (St acc)[S.length]? = some (.lst (acc.map .int)) := fun acc => last_get
  let Inv : Nat → Env → Store → Prop := fun i e U => ∃ o3 o4 o5 o6 acc, e = [some (P f), some (P g), some (.ref S.length), o3, o4, o5, o6] ∧ U = St acc ∧ acc.length = N ∧ convA (f.drop i) g i acc = conv f g
  obtain ⟨e', S', hout, o3, o4, o5, o6, acc, rfl, rfl, hal, hac⟩ := forL_inv (g := gTup ((gNm 3) :: ((gNm 4) :: []))) (b := sFor (gTup ((gNm 5) :: ((gNm 6) :: []))) (dEnumA (eVar 1))
    (sExpr (eSetI (eBin oCat (eBin oIdx (eVar 2) (eBin oCat (eVar 3) (eVar 5))) (eBin oRep (eVar 4) (eVar 6))) (eVar 2) (eBin oCat (eVar 3) (eVar 5))))) (xs := enumP (f.map .int)) Inv (fun i y e U hy hI => by
    obtain ⟨o3, o4, o5, o6, acc, rfl, rfl, hal, hac⟩ := hI
    have hi : i < f.length := by
      have := (List.getElem?_eq_some_iff.mp hy).1
      rwa [enumP_len, List.length_map] at this
    rw [enumP_get, List.getElem?_map, List.getElem?_eq_getElem hi] at hy
    cases hy
    refine ⟨_, rfl, ?_⟩
    rw [List.drop_eq_getElem_cons hi] at hac
    unfold convA at hac
    obtain ⟨Rw, hR⟩ : ∃ Rw, rowAdd f[i] g i acc = Rw := ⟨_, rfl⟩
    rw [hR] at hac
    let Inv2 : Nat → Env → Store → Prop := fun j e U => ∃ o5 o6 acc2, e = [some (P f), some (P g), some (.ref S.length), some (.int i), some (.int f[i]), o5, o6] ∧ U = St acc2 ∧ acc2.length = N ∧ rowAdd f[i] (g.drop j) (i + j) acc2 = Rw
    obtain ⟨e2, S2, hin, o5', o6', acc2, rfl, rfl, hl2, hr2⟩ := forL_inv (g := gTup ((gNm 5) :: ((gNm 6) :: []))) (b := (sExpr (eSetI (eBin oCat (eBin oIdx (eVar 2) (eBin oCat (eVar 3) (eVar 5))) (eBin oRep (eVar 4) (eVar 6))) (eVar 2) (eBin oCat (eVar 3) (eVar 5))))) (xs := enumP (g.map .int)) Inv2 (fun j y e U hy hI => by
      obtain ⟨o5, o6, acc2, rfl, rfl, hl2, hr2⟩ := hI
      have hj : j < g.length := by
        have := (List.getElem?_eq_some_iff.mp hy).1
        rwa [enumP_len, List.length_map] at this
      rw [enumP_get, List.getElem?_map, List.getElem?_eq_getElem hj] at hy
      cases hy
      have hk : i + j < acc2.length := by rw [hl2]; show i + j < f.length + g.length - 1; omega
      rw [List.drop_eq_getElem_cons hj] at hr2
      unfold rowAdd at hr2
      refine ⟨_, rfl, _, _, .inl ?_, some (.int j), some (.int g[j]), acc2.set (i + j) (acc2.getD (i + j) 0 + f[i] * g[j]), rfl, rfl, by rw [List.length_set]; exact hl2, by rw [← hr2]; rfl⟩
      have m1 : mulOk f[i] g[j] = true := mulOk_small (hf _ (List.getElem_mem hi)) (hg _ (List.getElem_mem hj))
      obtain ⟨c1, c2⟩ := cell_add (d := acc2.getD (i + j) 0 + f[i] * g[j]) (hSt acc2) hk
      rw [Int.natCast_add] at c1 c2
      have ls : (St acc2).set S.length (.lst ((acc2.set (i + j) (acc2.getD (i + j) 0 + f[i] * g[j])).map .int)) = St (acc2.set (i + j) (acc2.getD (i + j) 0 + f[i] * g[j])) := last_set
      rw [ls] at c2
      simp only [List.set, sExpr_ap, eSetI_ap, eBin_ap, eVar_c, eVar_c0, R.bind, oCat_i, c1, oRep_i m1, c2])
      [some (P f), some (P g), some (.ref S.length), some (.int i), some (.int f[i]), o5, o6] (St acc) ⟨o5, o6, acc, rfl, rfl, hal, hR⟩
    rw [enumP_len, List.length_map, List.drop_eq_nil_of_le (Nat.le_refl _)] at hr2
    unfold rowAdd at hr2
    subst hr2
    refine ⟨_, _, .inl ?_, some (.int i), some (.int f[i]), o5', o6', acc2, rfl, rfl, hl2, hac⟩
    show sFor _ _ _ [some (P f), some (P g), some (.ref S.length), some (.int i), some (.int f[i]), o5, o6] (St acc) = _
    rw [sFor_L (dEnumA_tup (xs := g.map .int) (S1 := St acc) rfl)]
    exact hin)
    [some (P f), some (P g), some (.ref S.length), none, none, none, none] (St (List.replicate N 0)) ⟨none, none, none, none, _, rfl, rfl, by rw [List.length_replicate], by rw [List.drop_zero]; rfl⟩
  rw [enumP_len, List.length_map, List.drop_eq_nil_of_le (Nat.le_refl _)] at hac
  unfold convA at hac
  subst hac
  have hmax : max (0 : Int) ((f.length : Int) + (g.length : Int) - 1) = (N : Nat) := by
    show max (0 : Int) ((f.length : Int) + (g.length : Int) - 1) = ((f.length + g.length - 1 : Nat) : Int)
    omega
  have hrep : repOk [D.int 0] (N : Nat) = true := by
    unfold repOk
    rw [Bool.and_eq_true, Bool.and_eq_true, sl]
    have : N ≤ 200 := by show f.length + g.length - 1 ≤ 200; omega
    refine ⟨decide_eq_true (by omega), decide_eq_true (by omega), decide_eq_true (by simp only [List.length_cons, List.length_nil]; omega)⟩
  have e : runBody (d12 (calls n)) 7 [P f, P g] S = .ok (P (prd f g)) (St (conv f g)) := by
    unfold runBody d12
    simp only [List.map_cons, List.map_nil, List.length_cons, List.length_nil, List.replicate, List.cons_append, List.nil_append, sSeq_ap, sSet_ap, eNew_ap, dRep, eLst_ap, dCons_ap, eC_ap, dNil_ap, eFn_ap, eBin_ap, eVar_c, eVar_c0, len_P, oCat_i, oSub_i, oMax2_i, R.bind, asL, List.set, hmax, hrep, if_true, Int.toNat_natCast, repD_zero]
    rw [sFor_L (dEnumA_tup (xs := f.map .int) (S1 := St (List.replicate N 0)) rfl), hout]
    have ot : oTuple [.ref S.length] (St (conv f g)) = .ok (P (conv f g)) (St (conv f g)) := by
      show (match asL (.ref S.length) (St (conv f g)) with | some xs => R.ok (D.tup xs) (St (conv f g)) | none => .bad) = _
      have : asL (.ref S.length) (St (conv f g)) = some ((conv f g).map .int) := by show (match (St (conv f g))[S.length]? with | some (.lst xs) => some xs | _ => none) = _; rw [hSt]
      rw [this]; rfl
    simp only [sRet_ap, eIf_ap, tAnd_ap, tVal_ap, eBin_ap, eVar_c, eVar_c0, eTup_ap, dNil_ap, R.bind, nil_dec, eFn_ap, dCons_ap, ot]
    unfold prd
    by_cases h1 : f = []
    · simp only [h1, ne_eq, not_true_eq_false, decide_false, Bool.false_eq_true, if_false, true_or, if_true]; rfl
    · by_cases h2 : g = []
      · simp only [h1, h2, ne_eq, not_true_eq_false, not_false_eq_true, decide_true, decide_false, Bool.false_eq_true, if_false, or_true, if_true]; rfl
      · simp only [h1, h2, ne_eq, not_false_eq_true, decide_true, if_true, or_self, if_false, ot]
  rw [e]
  exact tidy_no (noRefL_all fun x hx => by obtain ⟨c, _, rfl⟩ := List.mem_map.mp hx; rfl)
end K04

set_option maxHeartbeats 4000000
namespace K04
open Py
open PySem (Str sizeLine)
variable {n : Nat} {S : Store}
def pad (m : Nat) (l : List Int) : List Int := List.replicate (m - l.length) 0 ++ l
theorem pad_len {m : Nat} {l : List Int} (h : l.length ≤ m) : (pad m l).length = m := by unfold pad; rw [List.length_append, List.length_replicate]; omega
theorem cat_P {f g : List Int} (h : f.length + g.length ≤ 1000) : oCat (P f) (P g) S = .ok (P (f ++ g)) S := by
  show (if (f.map D.int).length + (g.map D.int).length ≤ sizeLine then R.ok (D.tup (f.map D.int ++ g.map D.int)) S else .bad) = _
  rw [if_pos (by rw [sl, List.length_map, List.length_map]; omega), ← List.map_append]
  rfl
theorem rep_P {k : Nat} (hk : k ≤ 1000) : oRepA (.tup [.int 0]) (.int k) S = .ok (P (List.replicate k 0)) S := by
  unfold oRepA
  dsimp only
  by_cases h1 : (k : Int) = 1
  · rw [if_pos h1]
    have : k = 1 := by omega
    subst this; rfl
  · rw [if_neg h1]
    by_cases h0 : k = 0
    · subst h0; rfl
    · rw [if_neg (by simp; omega)]
      show (if ([D.int 0] : List D).length = 0 then R.bad else if 2 ≤ (k : Int) ∧ (k : Int) ≤ 1000 ∧ ([D.int 0] : List D).length ≤ 1000 then R.ok (D.tup (repD (k : Int).toNat [D.int 0])) S else .bad) = _
      rw [if_neg (by simp), if_pos ⟨by omega, by omega, by simp⟩, Int.toNat_natCast, repD_zero]
      rfl
theorem padded_ok {l : List Int} {m : Nat} (h : l.length ≤ m) (hm : m ≤ 100) : calls (n + 1) 10 [P l, .int m, .int 0] S = .ok (P (pad m l)) S := by
  show tidy S (runBody (d10 (calls n)) 3 [P l, .int m, .int 0] S) = _
  have e1 : ((m : Int) - (l.length : Int)) = ((m - l.length : Nat) : Int) := by omega
  have ot : oTuple [P l] S = .ok (P l) S := rfl
  have : runBody (d10 (calls n)) 3 [P l, .int m, .int 0] S = .ok (P (pad m l)) S := by
    unfold runBody d10
    simp only [List.map_cons, List.map_nil, List.length_cons, List.length_nil, List.replicate, List.cons_append, List.nil_append, sRet_ap, eBin_ap, eTup_ap, dCons_ap, dNil_ap, eVar_c, eVar_c0, eFn_ap, R.bind, len_P, oSub_i, e1, rep_P (show m - l.length ≤ 1000 by omega), ot]
    rw [cat_P (by rw [List.length_replicate]; omega)]
    rfl
  rw [this]; exact tidy_ok0
def addD : D → D | .tup [.int a, .int b] => .int (a + b) | d => d
theorem zip_add : ∀ {p q : List Int}, (zipP (p.map .int) (q.map .int)).map addD = (List.zipWith (· + ·) p q).map .int
  | [], _ => rfl
  | _ :: _, [] => rfl
  | a :: p, b :: q => by
    have := zip_add (p := p) (q := q)
    unfold zipP at this ⊢
    simp only [List.map_cons, List.zipWith_cons_cons, this]
    rfl
theorem zip_mem {p q : List Int} {y : D} (h : y ∈ zipP (p.map .int) (q.map .int)) : ∃ a b : Int, y = .tup [.int a, .int b] := by
  unfold zipP at h
  obtain ⟨i, hi, rfl⟩ := List.mem_iff_getElem.mp h
  rw [List.getElem_zipWith]
  simp only [List.getElem_map]
  exact ⟨_, _, rfl⟩
def sm (f g : List Int) : List Int := trim (List.zipWith (· + ·) (pad (max f.length g.length) f) (pad (max f.length g.length) g))
theorem sum_ok {f g : List Int} (lf : f.length ≤ 100) (lg : g.length ≤ 100) : calls (n + 2) 11 [P f, P g] S = .ok (P (sm f g)) S := by
  show tidy S (runBody (d11 (calls (n + 1))) 5 [P f, P g] S) = _
  let m := max f.length g.length
  have hm : m ≤ 100 := Nat.max_le.mpr ⟨lf, lg⟩
  have em : max (f.length : Int) (g.length : Int) = (m : Nat) := by
    show max (f.length : Int) (g.length : Int) = ((max f.length g.length : Nat) : Int)
    omega
  have hlc := eLc_pure (vs := [3, 4]) (gi := dZip2 (eCall (calls (n + 1)) 10 (dCons (eVar 0) (dCons (eVar 2) (dCons (eC (.int 0)) dNil)))) (eCall (calls (n + 1)) 10 (dCons (eVar 1) (dCons (eVar 2) (dCons (eC (.int 0)) dNil))))) (g := gTup ((gNm 3) :: ((gNm 4) :: []))) (f := eBin oCat (eVar 3) (eVar 4))
    (e := [some (P f), some (P g), some (.int m), none, none]) (S := S) (xs := zipP ((pad m f).map .int) ((pad m g).map .int)) addD
    (dZip2_tup (S1 := S) (by
      simp only [eCall_ap, dCons_ap, eVar_c, eVar_c0, eC_ap, dNil_ap, R.bind]
      exact padded_ok (n := n) (Nat.le_max_left _ _) hm) (by
      simp only [eCall_ap, dCons_ap, eVar_c, eVar_c0, eC_ap, dNil_ap, R.bind]
      exact padded_ok (n := n) (Nat.le_max_right _ _) hm))
    (fun y hy S' => by
      obtain ⟨a, b, rfl⟩ := zip_mem hy
      exact ⟨_, rfl, by simp only [wipeE, List.set, eBin_ap, eVar_c, eVar_c0, R.bind, oCat_i]; rfl⟩)
    (fun y hy => by
      obtain ⟨a, b, rfl⟩ := zip_mem hy
      rfl) (by
      unfold zipP
      rw [List.length_zipWith, List.length_map, List.length_map, pad_len (Nat.le_max_left _ _), sl]
      omega)
  rw [zip_add] at hlc
  have key : ∀ F : Den, F [some (P f), some (P g), some (.int m), none, none] S = .ok (.lst ((List.zipWith (· + ·) (pad m f) (pad m g)).map .int)) S →
      (sSeq (sSet 2 (eFn oMax2 (dCons (eFn oLen (dCons (eVar 0) dNil)) (dCons (eFn oLen (dCons (eVar 1) dNil)) dNil)))) (sRet (eCall (calls (n + 1)) 7 (dCons F (dCons (eC (.int 0)) dNil))))) [some (P f), some (P g), none, none, none] S = .ret (P (sm f g)) S := fun F hF => by
    simp only [sSeq_ap, sSet_ap, eFn_ap, dCons_ap, dNil_ap, eVar_c, eVar_c0, R.bind, len_P, oMax2_i, em, List.set, sRet_ap, eCall_ap, eC_ap, hF, stripped_ok (n := n)]
    rfl
  have : runBody (d11 (calls (n + 1))) 5 [P f, P g] S = .ok (P (sm f g)) S := by
    unfold runBody d11
    simp only [List.map_cons, List.map_nil, List.length_cons, List.length_nil, List.replicate, List.cons_append, List.nil_append]
    rw [key _ hlc]
  rw [this]; exact tidy_ok0
def sc (k : Int) (f : List Int) : List Int := if k = 0 then [] else f.map (k * ·)
def mulD (k : Int) : D → D | .int a => .int (k * a) | d => d
theorem map_mul {k : Int} : ∀ {f : List Int}, (f.map D.int).map (mulD k) = (f.map (k * ·)).map .int
  | [] => rfl
  | a :: f => by simp only [List.map_cons, map_mul (f := f)]; rfl
theorem scaled_by_ok {f : List Int} {k : Int} (hk : k.natAbs < 2 ^ 1000) (hf : ∀ c ∈ f, c.natAbs < 2 ^ 1000) (lf : f.length ≤ 100) : calls (n + 1) 13 [P f, .int k] S = .ok (P (sc k f)) S := by
  show tidy S (runBody (d13 (calls n)) 3 [P f, .int k] S) = _
  have hlc := eLc_pure (vs := [2]) (gi := dSeq (eVar 0)) (g := gNm 2) (f := eBin oRep (eVar 1) (eVar 2)) (e := [some (P f), some (.int k), none]) (S := S) (xs := f.map .int) (mulD k) rfl
    (fun y hy S' => by
      obtain ⟨c, hc, rfl⟩ := List.mem_map.mp hy
      exact ⟨_, rfl, by simp only [wipeE, List.set, eBin_ap, eVar_c, eVar_c0, R.bind, oRep_i (mulOk_small hk (hf c hc))]; rfl⟩)
    (fun y hy => by
      obtain ⟨c, hc, rfl⟩ := List.mem_map.mp hy
      rfl) (by rw [List.length_map, sl]; omega)
  rw [map_mul] at hlc
  have key : ∀ F : Den, F [some (P f), some (.int k), none] S = .ok (.lst ((f.map (k * ·)).map .int)) S →
      (sRet (eIf (tVal (eBin oNe (eVar 1) (eC (.int 0)))) (eFn oTuple (dCons F dNil)) (eTup dNil))) [some (P f), some (.int k), none] S = .ret (P (sc k f)) S := fun F hF => by
    have ot : oTuple [.lst ((f.map (k * ·)).map D.int)] S = .ok (P (f.map (k * ·))) S := rfl
    unfold sc
    by_cases h0 : k = 0
    · subst h0
      simp only [sRet_ap, eIf_ap, tVal_ap, eBin_ap, eVar_c, eVar_c0, eC_ap, R.bind, oNe_i, BEq.rfl, Bool.not_true, Bool.false_eq_true, if_false, eTup_ap, dNil_ap, if_true]
      rfl
    · have : (!(k == 0)) = true := by simp [h0]
      simp only [sRet_ap, eIf_ap, tVal_ap, eBin_ap, eVar_c, eVar_c0, eC_ap, R.bind, oNe_i, this, if_true, eFn_ap, dCons_ap, dNil_ap, hF, ot, h0, if_false]
  have : runBody (d13 (calls n)) 3 [P f, .int k] S = .ok (P (sc k f)) S := by
    unfold runBody d13
    simp only [List.map_cons, List.map_nil, List.length_cons, List.length_nil, List.replicate, List.cons_append, List.nil_append]
    rw [key _ hlc]
  rw [this]; exact tidy_ok0
theorem plus_ok {f g : List Int} (h1 : Lead f) (h2 : Lead g) (lf : f.length ≤ 100) (lg : g.length ≤ 100) : calls (n + 4) 14 [P f, P g] S = .ok (P (sm f g)) S := by
  show tidy S (runBody (d14 (calls (n + 3))) 2 [P f, P g] S) = _
  have : runBody (d14 (calls (n + 3))) 2 [P f, P g] S = .ok (P (sm f g)) S := by
    unfold runBody d14
    simp [check_poly (n := n) h1 lf, check_poly (n := n) h2 lg, sum_ok (n := n + 1) lf lg]
  rw [this]; exact tidy_ok0
theorem ctimes_ok {f g : List Int} (h1 : Lead f) (h2 : Lead g) (hf : ∀ c ∈ f, c.natAbs < 2 ^ 1000) (hg : ∀ c ∈ g, c.natAbs < 2 ^ 1000) (lf : f.length ≤ 100) (lg : g.length ≤ 100) : calls (n + 4) 15 [P f, P g] S = .ok (P (prd f g)) S := by
  show tidy S (runBody (d15 (calls (n + 3))) 2 [P f, P g] S) = _
  have : runBody (d15 (calls (n + 3))) 2 [P f, P g] S = .ok (P (prd f g)) S := by
    unfold runBody d15
    simp [check_poly (n := n) h1 lf, check_poly (n := n) h2 lg, times_ok (n := n + 2) hf hg lf lg]
  rw [this]; exact tidy_ok0
theorem cscaled_ok {f : List Int} {k : Int} (h1 : Lead f) (hk : k.natAbs < 2 ^ 1000) (hf : ∀ c ∈ f, c.natAbs < 2 ^ 1000) (lf : f.length ≤ 100) : calls (n + 4) 16 [P f, .int k] S = .ok (P (sc k f)) S := by
  show tidy S (runBody (d16 (calls (n + 3))) 2 [P f, .int k] S) = _
  have : runBody (d16 (calls (n + 3))) 2 [P f, .int k] S = .ok (P (sc k f)) S := by
    unfold runBody d16
    simp [check_poly (n := n) h1 lf, check_int0 (n := n + 1), scaled_by_ok (n := n + 2) hk hf lf]
  rw [this]; exact tidy_ok0
end K04

set_option maxHeartbeats 4000000
namespace K04
open Py
open PySem (Str sizeLine)
variable {n : Nat} {S : Store}
theorem prd_len {f g : List Int} : (prd f g).length ≤ f.length + g.length - 1 := by
  unfold prd
  split
  · exact Nat.zero_le _
  · rw [conv_len]; exact Nat.le_refl _
theorem prd_bd {f g : List Int} {p q : Nat} (hf : Bd p f) (hg : Bd q g) (hl : f.length ≤ 16) : Bd (p + q + 4) (prd f g) := by
  unfold prd
  split
  · intro c hc; cases hc
  · exact conv_bd hf hg hl
theorem prd_lead {f g : List Int} (h1 : Lead f) (h2 : Lead g) : Lead (prd f g) := by
  unfold prd
  split
  · intro c hc; cases hc
  · rename_i h
    exact conv_lead (fun e => h (.inl e)) (fun e => h (.inr e)) h1 h2
theorem bdLt {p : Nat} {f : List Int} (h : Bd p f) (hp : p < 1000) : ∀ c ∈ f, c.natAbs < 2 ^ 1000 := fun c hc => bd_lt (h c hc) hp
def pw (f : List Int) : Nat → List Int
  | 0 => [1]
  | i + 1 => prd (pw f i) f
/-- the lengths of powers asked: 6 of three coefficients, 2 of nine -/
structure PwOk (f : List Int) (k : Nat) : Prop where
  bd : Bd 100 f
  k6 : k ≤ 6
  len : f.length ≤ 9
  few : 3 ≤ k → f.length ≤ 3
theorem pw_ok {f : List Int} {k : Nat} (h : PwOk f k) : ∀ i, i ≤ k → Bd (104 * i) (pw f i) ∧ (pw f i).length ≤ 1 + i * (f.length - 1) ∧ (pw f i).length ≤ 1 + i * 8
  | 0, _ => ⟨fun c hc => by
      have : c = 1 := by simpa [pw] using hc
      subst this; decide, by show 1 ≤ _; omega, by show 1 ≤ _; omega⟩
  | i + 1, hi => by
    obtain ⟨h1, h2, h3⟩ := pw_ok h i (by omega)
    have hl := h.len
    have hk := h.k6
    have h16 : (pw f i).length ≤ 16 := by
      by_cases hi2 : i ≤ 1
      · have : i * 8 ≤ 1 * 8 := Nat.mul_le_mul_right 8 hi2
        omega
      · have h3' := h.few (by omega)
        have : i * (f.length - 1) ≤ 5 * 2 := Nat.mul_le_mul (by omega) (by omega)
        omega
    refine ⟨?_, ?_, ?_⟩
    · have := prd_bd h1 h.bd h16
      rw [show 104 * i + 100 + 4 = 104 * (i + 1) by omega] at this
      exact this
    · have := prd_len (f := pw f i) (g := f)
      show (prd (pw f i) f).length ≤ _
      rw [Nat.add_mul, Nat.one_mul]
      omega
    · have := prd_len (f := pw f i) (g := f)
      show (prd (pw f i) f).length ≤ _
      omega
theorem PwOk.c {f : List Int} {k i : Nat} (h : PwOk f k) (hi : i ≤ k) : (∀ c ∈ pw f i, c.natAbs < 2 ^ 1000) ∧ (pw f i).length ≤ 100 := by
  obtain ⟨h1, h2, h3⟩ := pw_ok h i hi
  have := h.k6
  exact ⟨bdLt h1 (by omega), by omega⟩
theorem power_ok {f : List Int} {k : Nat} (h1 : Lead f) (h : PwOk f k) : calls (n + 4) 17 [P f, .int k] S = .ok (P (pw f k)) S := by
  show tidy S (runBody (d17 (calls (n + 3))) 4 [P f, .int k] S) = _
  have hl := h.len
  have hk := h.k6
  let Inv : Nat → Env → Store → Prop := fun i e U => U = S ∧ ∃ o, e = [some (P f), some (.int k), some (P (pw f i)), o]
  obtain ⟨e', S', hf, rfl, o, rfl⟩ := forL_inv (g := gNm 3) (b := sSet 2 (eCall (calls (n + 3)) 12 (dCons (eVar 2) (dCons (eVar 0) dNil)))) (xs := intsD 0 (k : Int).toNat) Inv (fun i y e U hy hI => by
    obtain ⟨rfl, o, rfl⟩ := hI
    have hi : i < k := by
      have := (intsD_at hy).1
      rwa [Int.toNat_natCast] at this
    have hc := h.c (i := i) (by omega)
    refine ⟨_, rfl, _, _, .inl ?_, rfl, some y, rfl⟩
    have := times_ok (n := n + 2) (S := U) hc.1 (bdLt h.bd (by decide)) hc.2 (show f.length ≤ 100 by omega)
    simp only [List.set, sSet_ap, eCall_ap, dCons_ap, eVar_c, eVar_c0, dNil_ap, R.bind, this]
    rfl)
    [some (P f), some (.int k), some (P (pw f 0)), none] S ⟨rfl, none, rfl⟩
  rw [intsD_len, Int.toNat_natCast] at hf
  have hp0 : P (pw f 0) = .tup [.int 1] := rfl
  rw [hp0] at hf
  have n6 : ¬ (6 : Int) < (k : Int) := by omega
  have key : ∀ (Γ : Calls) (L : DenS), Γ 6 [P f] S' = .ok .non S' → Γ 4 [.int k, .int 0] S' = .ok .non S' → L [some (P f), some (.int k), some (.tup [.int 1]), none] S' = .next [some (P f), some (.int k), some (P (pw f k)), o] S' →
      (sSeq (sExpr (eCall Γ 6 (dCons (eVar 0) dNil)))
    (sSeq (sExpr (eCall Γ 4 (dCons (eVar 1) (dCons (eC (.int 0)) dNil))))
    (sSeq (sIf (tVal (eBin oGt (eVar 1) (eC (.int 6))))
    (sRaise 3 (eVar 1))
    sPass)
    (sSeq (sSet 2 (eTup (dCons (eC (.int 1)) dNil)))
    (sSeq L
    (sRet (eVar 2))))))) [some (P f), some (.int k), none, none] S' = .ret (P (pw f k)) S' := fun Γ L h6 h4 hL => by
    simp only [sSeq_ap, sExpr_ap, eCall_ap, dCons_ap, eVar_c, eVar_c0, dNil_ap, R.bind, h6, eC_ap, h4, sIf_ap, tVal_ap, eBin_ap, oGt_i, decide_eq_false n6, Bool.false_eq_true, if_false, sPass_ap, sSet_ap, eTup_ap, List.set, hL, sRet_ap]
  have h3 : sFor (gNm 3) (dRng1 (eVar 1)) (sSet 2 (eCall (calls (n + 3)) 12 (dCons (eVar 2) (dCons (eVar 0) dNil)))) [some (P f), some (.int k), some (.tup [.int 1]), none] S' = .next [some (P f), some (.int k), some (P (pw f k)), o] S' := by
    rw [sFor_L (xs := intsD 0 (k : Int).toNat) (S1 := S') (dRng1_ok (j := (k : Int)) rfl (by omega) (by omega)), Int.toNat_natCast]
    exact hf
  have fin := key (calls (n + 3)) _ (check_poly (n := n) h1 (show f.length ≤ 100 by omega)) (check_int1 (n := n + 1) (show (0 : Int) ≤ (k : Int) by omega)) h3
  have : runBody (d17 (calls (n + 3))) 4 [P f, .int k] S' = (match (RS.ret (P (pw f k)) S') with | .next _ S => .ok .non S | .ret d S => .ok d S | .err c v _ S => .err c v S | _ => .bad) := by
    rw [← fin]
    rfl
  rw [this]; exact tidy_ok0
/-! what the law reckons -/
theorem llow_ok {a b : Int} (hb : 0 < b) (h1 : a.natAbs < 2 ^ 1000) (h2 : b.natAbs < 2 ^ 1000) : calls (n + 1) 20 [.int a, .int b] S = .ok (Q (low a b)) S := by
  show tidy S (runBody lowD 6 [.int a, .int b] S) = _
  rw [low_body (by omega) h1 h2]; exact tidy_ok0
/-- a number of at most p bits -/
structure Nb (p : Nat) (x : Int × Int) : Prop where
  nm : Nm x
  a : x.1.natAbs ≤ 2 ^ p
  b : x.2.natAbs ≤ 2 ^ p
def plq (x y : Int × Int) : Int × Int := low (x.1 * y.2 + y.1 * x.2) (x.2 * y.2)
def tmq (x y : Int × Int) : Int × Int := low (x.1 * y.1) (x.2 * y.2)
theorem lplus_ok {x y : Int × Int} {p : Nat} (hx : Nb p x) (hy : Nb p y) (hp : p ≤ 400) : calls (n + 2) 21 [Q x, Q y] S = .ok (Q (plq x y)) S := by
  show tidy S (runBody (d21 (calls (n + 1))) 2 [Q x, Q y] S) = _
  have l : ∀ {z : Int}, z.natAbs ≤ 2 ^ p → z.natAbs < 2 ^ 1000 := fun h => bd_lt h (by omega)
  have b1 := add_bd (mul_bd hx.a hy.b) (mul_bd hy.a hx.b)
  have b2 := mul_bd hx.b hy.b
  have i0 : ∀ z : Int × Int, oIdx (Q z) (.int 0) S = .ok (.int z.1) S := fun _ => rfl
  have i1 : ∀ z : Int × Int, oIdx (Q z) (.int 1) S = .ok (.int z.2) S := fun _ => rfl
  have : runBody (d21 (calls (n + 1))) 2 [Q x, Q y] S = .ok (Q (plq x y)) S := by
    unfold runBody d21
    simp only [List.map_cons, List.map_nil, List.length_cons, List.length_nil, List.replicate, List.cons_append, List.nil_append, sRet_ap, eCall_ap, dCons_ap, dNil_ap, eBin_ap, eVar_c, eVar_c0, eC_ap, R.bind, i0, i1, oRep_i (mulOk_small (l hx.a) (l hy.b)), oRep_i (mulOk_small (l hy.a) (l hx.b)), oCat_i, oRep_i (mulOk_small (l hx.b) (l hy.b)), llow_ok (n := n) (Int.mul_pos hx.nm.pos hy.nm.pos) (bd_lt b1 (by omega)) (bd_lt b2 (by omega))]
    rfl
  rw [this]; exact tidy_ok0
theorem ltimes_ok {x y : Int × Int} {p : Nat} (hx : Nb p x) (hy : Nb p y) (hp : p ≤ 400) : calls (n + 2) 22 [Q x, Q y] S = .ok (Q (tmq x y)) S := by
  show tidy S (runBody (d22 (calls (n + 1))) 2 [Q x, Q y] S) = _
  have l : ∀ {z : Int}, z.natAbs ≤ 2 ^ p → z.natAbs < 2 ^ 1000 := fun h => bd_lt h (by omega)
  have b1 := mul_bd hx.a hy.a
  have b2 := mul_bd hx.b hy.b
  have i0 : ∀ z : Int × Int, oIdx (Q z) (.int 0) S = .ok (.int z.1) S := fun _ => rfl
  have i1 : ∀ z : Int × Int, oIdx (Q z) (.int 1) S = .ok (.int z.2) S := fun _ => rfl
  have : runBody (d22 (calls (n + 1))) 2 [Q x, Q y] S = .ok (Q (tmq x y)) S := by
    unfold runBody d22
    simp only [List.map_cons, List.map_nil, List.length_cons, List.length_nil, List.replicate, List.cons_append, List.nil_append, sRet_ap, eCall_ap, dCons_ap, dNil_ap, eBin_ap, eVar_c, eVar_c0, eC_ap, R.bind, i0, i1, oRep_i (mulOk_small (l hx.a) (l hy.a)), oRep_i (mulOk_small (l hx.b) (l hy.b)), llow_ok (n := n) (Int.mul_pos hx.nm.pos hy.nm.pos) (bd_lt b1 (by omega)) (bd_lt b2 (by omega))]
    rfl
  rw [this]; exact tidy_ok0
end K04

set_option maxHeartbeats 4000000
namespace K04
open Py
open PySem (Str sizeLine)
variable {n : Nat} {S : Store}
/-- the law's own trimming: of a list, that of the store or not -/
theorem ltrim_ok {l : List Int} {d : D} (hd : ∀ S' : Store, S' = S → asL d S' = some (l.map .int)) (hk : d = .lst (l.map .int) ∨ ∃ q, d = .ref q) : calls (n + 1) 24 [d] S = .ok (P (trim l)) S := by
  show tidy S (runBody (d24 (calls n)) 2 [d] S) = _
  have ha := hd S rfl
  have sq : asSq d S = some (l.map .int) := by
    rcases hk with rfl | ⟨q, rfl⟩ <;> exact ha
  have ln : oLen [d] S = .ok (.int l.length) S := by
    have : oLen [d] S = (match asSq d S with | some xs => .ok (.int xs.length) S | none => .bad) := by rcases hk with rfl | ⟨q, rfl⟩ <;> rfl
    rw [this, sq]
    show R.ok (D.int ((l.map D.int).length : Nat)) S = _
    rw [List.length_map]
  have ix : ∀ {k : Nat} (h : k < l.length), oIdx d (.int k) S = .ok (.int l[k]) S := fun {k} h => by
    have e0 : oIdx d (.int k) S = (match (asSq d S).bind (L2.atI · (k : Int)) with | some v => R.ok v S | none => .bad) := by rcases hk with rfl | ⟨q, rfl⟩ <;> rfl
    rw [e0, sq, Option.bind_some, atI_nat (by rw [List.length_map]; exact h), List.getElem_map]
  have inn : ∀ c : Int, oInT (.int c) (.tup [.int 0, .tup [.int 0, .int 1]]) S = .ok (.bl (c == 0)) S := fun c => by
    have lk : look (.tup [.int 0, .tup [.int 0, .int 1]]) S = some (.tup [.int 0, .tup [.int 0, .int 1]]) := look_no rfl
    have ft : fit (.tup [.int 0, .tup [.int 0, .int 1]]) = true := by rfl
    unfold oInT
    rw [look_i, lk]
    simp only [fit_i, ft, Bool.and_self, if_true]
    have : ([D.int 0, .tup [.int 0, .int 1]].any fun y => eqB y (.int c)) = (c == 0) := by
      simp only [List.any_cons, List.any_nil, eqB, Bool.or_false]
      rw [Bool.eq_iff_iff, beq_iff_eq, beq_iff_eq]
      omega
    rw [this]
  obtain ⟨k', h1, h2, h3⟩ := while_trim (S := S) (l := l) (T := tAnd (tVal (eBin oLt (eVar 1) (eFn oLen (dCons (eVar 0) dNil)))) (tVal (eBin oInT (eBin oIdx (eVar 0) (eVar 1)) (eTup (dCons (eC (.int 0)) (dCons (eTup (dCons (eC (.int 0)) (dCons (eC (.int 1)) dNil))) dNil)))))) (B := sSet 1 (eBin oCat (eVar 1) (eC (.int 1))))
    (E := fun k => [some d, some (.int k)]) (fun k hk => by
      simp only [tAnd_ap, tVal_ap, eBin_ap, eVar_c, eVar_c0, eFn_ap, dCons_ap, dNil_ap, R.bind, ln, oLt_i]
      by_cases hlt : k < l.length
      · have e1 : decide ((k : Int) < (l.length : Int)) = true := decide_eq_true (by omega)
        simp only [e1, if_true, ix hlt, eTup_ap, dCons_ap, dNil_ap, eC_ap, R.bind, inn, nz_dec hlt]
      · have e1 : decide ((k : Int) < (l.length : Int)) = false := decide_eq_false (by omega)
        have e3 : nz0 l k = false := by unfold nz0; rw [List.getElem?_eq_none (by omega)]
        simp only [e1, Bool.false_eq_true, if_false, e3])
    (fun k => by simp only [sSet_ap, eBin_ap, eVar_c, eVar_c0, eC_ap, R.bind, oCat_i, List.set]; rfl) l.length 0 (by omega)
  have ec : cutD (l.map D.int) (some (k' : Int)) none = (trim l).map .int := by
    rw [cut_drop (by rw [List.length_map]; exact h2), ← List.map_drop, h3, List.drop_zero]
  have es : ∀ e : Env, eSl (eVar 0) (oPart (eVar 1)) oNo (some d :: some (.int k') :: e) S = .ok (.lst ((trim l).map .int)) S := fun e => by
    have e0 : eSl (eVar 0) (oPart (eVar 1)) oNo (some d :: some (.int k') :: e) S = (match asL d S with | some xs => .ok (.lst (cutD xs (some (k' : Int)) none)) S | none => .bad) := by rcases hk with rfl | ⟨q, rfl⟩ <;> rfl
    rw [e0, ha]
    dsimp only
    rw [ec]
  have e : runBody (d24 (calls n)) 2 [d] S = .ok (P (trim l)) S := by
    unfold runBody d24
    simp only [List.map_cons, List.map_nil, List.length_cons, List.length_nil, List.replicate, List.cons_append, List.nil_append, sSeq_ap, sSet_ap, eC_ap, List.set]
    have h1'' : sWhile (tAnd (tVal (eBin oLt (eVar 1) (eFn oLen (dCons (eVar 0) dNil)))) (tVal (eBin oInT (eBin oIdx (eVar 0) (eVar 1)) (eTup (dCons (eC (.int 0)) (dCons (eTup (dCons (eC (.int 0)) (dCons (eC (.int 1)) dNil))) dNil)))))) (sSet 1 (eBin oCat (eVar 1) (eC (.int 1)))) [some d, some (.int 0)] S = .next [some d, some (.int k')] S := h1
    rw [h1'']
    simp only [sRet_ap, eFn_ap, dCons_ap, dNil_ap, es, R.bind]
    rfl
  rw [e]; exact tidy_ok0
end K04

set_option maxHeartbeats 4000000
namespace K04
open Py
open PySem (Str sizeLine)
variable {n : Nat} {S : Store}
theorem rep_L {k : Nat} (hk : k ≤ 1000) : oRep (.lst [.int 0]) (.int k) S = .ok (.lst ((List.replicate k 0).map .int)) S := by
  show (if repOk [D.int 0] k then R.ok (D.lst (repD (k : Int).toNat [D.int 0])) S else .bad) = _
  rw [if_pos (by
    unfold repOk
    rw [Bool.and_eq_true, Bool.and_eq_true, sl]
    exact ⟨decide_eq_true (by omega), decide_eq_true (by omega), decide_eq_true (by simp only [List.length_cons, List.length_nil]; omega)⟩), Int.toNat_natCast, repD_zero]
theorem cat_L {f g : List Int} (h : f.length + g.length ≤ 1000) : oCat (.lst (f.map .int)) (.lst (g.map .int)) S = .ok (.lst ((f ++ g).map .int)) S := by
  show (if (f.map D.int).length + (g.map D.int).length ≤ sizeLine then R.ok (D.lst (f.map D.int ++ g.map D.int)) S else .bad) = _
  rw [if_pos (by rw [sl, List.length_map, List.length_map]; omega), ← List.map_append]
theorem lsum_ok {f g : List Int} (lf : f.length ≤ 100) (lg : g.length ≤ 100) : calls (n + 2) 25 [P f, P g] S = .ok (P (sm f g)) S := by
  show tidy S (runBody (d25 (calls (n + 1))) 7 [P f, P g] S) = _
  let m := max f.length g.length
  have hm : m ≤ 100 := Nat.max_le.mpr ⟨lf, lg⟩
  have em : max (f.length : Int) (g.length : Int) = (m : Nat) := by
    show max (f.length : Int) (g.length : Int) = ((max f.length g.length : Nat) : Int)
    omega
  have ef : ((m : Int) - (f.length : Int)) = ((m - f.length : Nat) : Int) := by
    have : f.length ≤ m := Nat.le_max_left _ _
    omega
  have eg : ((m : Int) - (g.length : Int)) = ((m - g.length : Nat) : Int) := by
    have : g.length ≤ m := Nat.le_max_right _ _
    omega
  have hlc := eLc_pure (vs := [5, 6]) (gi := dZip2 (eVar 3) (eVar 4)) (g := gTup ((gNm 5) :: ((gNm 6) :: []))) (f := eBin oCat (eVar 5) (eVar 6))
    (e := [some (P f), some (P g), some (.int m), some (.lst ((pad m f).map .int)), some (.lst ((pad m g).map .int)), none, none]) (S := S) (xs := zipP ((pad m f).map .int) ((pad m g).map .int)) addD
    (dZip2_lst (S1 := S) rfl rfl)
    (fun y hy S' => by
      obtain ⟨a, b, rfl⟩ := zip_mem hy
      exact ⟨_, rfl, by simp only [wipeE, List.set, eBin_ap, eVar_c, eVar_c0, R.bind, oCat_i]; rfl⟩)
    (fun y hy => by
      obtain ⟨a, b, rfl⟩ := zip_mem hy
      rfl) (by
      unfold zipP
      rw [List.length_zipWith, List.length_map, List.length_map, pad_len (Nat.le_max_left _ _), sl]
      omega)
  rw [zip_add] at hlc
  have lt : calls (n + 1) 24 [.lst ((List.zipWith (· + ·) (pad m f) (pad m g)).map .int)] S = .ok (P (sm f g)) S := ltrim_ok (fun S' _ => rfl) (.inl rfl)
  have ol : ∀ l : List Int, oList [P l] S = .ok (l.map .int) S := fun _ => rfl
  have r1 := rep_L (S := S) (k := m - f.length) (by omega)
  have r2 := rep_L (S := S) (k := m - g.length) (by omega)
  have c1 := cat_L (S := S) (f := List.replicate (m - f.length) 0) (g := f) (by rw [List.length_replicate]; omega)
  have c2 := cat_L (S := S) (f := List.replicate (m - g.length) 0) (g := g) (by rw [List.length_replicate]; omega)
  have key : ∀ (Γ : Calls) (F : Den), Γ 24 [.lst ((List.zipWith (· + ·) (pad m f) (pad m g)).map .int)] S = .ok (P (sm f g)) S →
      F [some (P f), some (P g), some (.int m), some (.lst ((pad m f).map .int)), some (.lst ((pad m g).map .int)), none, none] S = .ok (.lst ((List.zipWith (· + ·) (pad m f) (pad m g)).map .int)) S →
      (sSeq (sSet 2 (eFn oMax2 (dCons (eFn oLen (dCons (eVar 0) dNil)) (dCons (eFn oLen (dCons (eVar 1) dNil)) dNil))))
    (sSeq (sPar 3 4 (eBin oCat (eBin oRep (eLst (dCons (eC (.int 0)) dNil)) (eBin oSub (eVar 2) (eFn oLen (dCons (eVar 0) dNil)))) (eLst (dFn oList (dCons (eVar 0) dNil)))) (eBin oCat (eBin oRep (eLst (dCons (eC (.int 0)) dNil)) (eBin oSub (eVar 2) (eFn oLen (dCons (eVar 1) dNil)))) (eLst (dFn oList (dCons (eVar 1) dNil)))))
    (sRet (eCall Γ 24 (dCons F dNil))))) [some (P f), some (P g), none, none, none, none, none] S = .ret (P (sm f g)) S := fun Γ F h1 h2 => by
    have h2' := h2
    unfold pad at h2'
    simp only [sSeq_ap, sSet_ap, sPar_ap, eFn_ap, dFn_ap, dCons_ap, dNil_ap, eLst_ap, eBin_ap, eVar_c, eVar_c0, eC_ap, R.bind, len_P, oMax2_i, em, oSub_i, ef, eg, List.set, r1, r2, ol, c1, c2, sRet_ap, eCall_ap, h2', h1]
    have h1' := h1
    unfold pad at h1'
    simp only [h1']
  have fin := key (calls (n + 1)) _ lt hlc
  have : runBody (d25 (calls (n + 1))) 7 [P f, P g] S = (match (RS.ret (P (sm f g)) S) with | .next _ S => .ok .non S | .ret d S => .ok d S | .err c v _ S => .err c v S | _ => .bad) := by
    rw [← fin]
    rfl
  rw [this]; exact tidy_ok0
end K04

set_option maxHeartbeats 4000000
namespace K04
open Py
open PySem (Str sizeLine)
variable {n : Nat} {S : Store}
theorem idx_P {l : List Int} {i : Nat} (h : i < l.length) : oIdx (P l) (.int (i : Int)) S = .ok (.int l[i]) S := by
  show (match L2.atI (l.map D.int) (i : Int) with | some v => R.ok v S | none => .bad) = _
  rw [atI_nat (by rw [List.length_map]; exact h), List.getElem_map]
theorem eqnil_dec {l : List Int} : oEq (P l) (.tup []) S = .ok (.bl (decide (l = []))) S := by
  rw [show oEq (P l) (.tup []) S = _ from oEq_fit (fit_tints l) rfl]
  cases l <;> rfl
theorem lprod_ok {f g : List Int} (hf : ∀ c ∈ f, c.natAbs < 2 ^ 1000) (hg : ∀ c ∈ g, c.natAbs < 2 ^ 1000) (lf : f.length ≤ 100) (lg : g.length ≤ 100) : calls (n + 1) 26 [P f, P g] S = .ok (P (prd f g)) S := by
  show tidy S (runBody (d26 (calls n)) 5 [P f, P g] S) = _
  by_cases hne : f = [] ∨ g = []
  · have : runBody (d26 (calls n)) 5 [P f, P g] S = .ok (P (prd f g)) S := by
      unfold runBody d26 prd
      rw [if_pos hne]
      simp only [List.map_cons, List.map_nil, List.length_cons, List.length_nil, List.replicate, List.cons_append, List.nil_append, sSeq_ap, sIf_ap, tOr_ap, tVal_ap, eBin_ap, eVar_c, eVar_c0, eTup_ap, dNil_ap, R.bind, eqnil_dec]
      rcases hne with h | h
      · subst h; simp; rfl
      · subst h
        by_cases h2 : f = []
        · subst h2; simp; rfl
        · simp [h2]; rfl
    rw [this]; exact tidy_ok0
  have nf : f ≠ [] := fun h => hne (.inl h)
  have ng : g ≠ [] := fun h => hne (.inr h)
  have pf : 0 < f.length := List.length_pos_iff.mpr nf
  let N := f.length + g.length - 1
  let St : List Int → Store := fun acc => S ++ [.lst (acc.map .int)]
  have hSt : ∀ acc, (St acc)[S.length]? = some (.lst (acc.map .int)) := fun acc => last_get
  let IB : DenS := (sExpr (eSetI (eBin oCat (eBin oIdx (eVar 2) (eBin oCat (eVar 3) (eVar 4))) (eBin oRep (eBin oIdx (eVar 0) (eVar 3)) (eBin oIdx (eVar 1) (eVar 4)))) (eVar 2) (eBin oCat (eVar 3) (eVar 4))))
  let Inv : Nat → Env → Store → Prop := fun i e U => ∃ o3 o4 acc, e = [some (P f), some (P g), some (.ref S.length), o3, o4] ∧ U = St acc ∧ acc.length = N ∧ convA (f.drop i) g i acc = conv f g
  obtain ⟨e', S', hout, o3, o4, acc, rfl, rfl, hal, hac⟩ := forL_inv (g := gNm 3) (b := sFor (gNm 4) (dRng1 (eFn oLen (dCons (eVar 1) dNil))) IB) (xs := intsD 0 (f.length : Int).toNat) Inv (fun i y e U hy hI => by
    obtain ⟨o3, o4, acc, rfl, rfl, hal, hac⟩ := hI
    obtain ⟨hi, rfl⟩ := intsD_at hy
    rw [Int.toNat_natCast] at hi
    rw [Int.zero_add]
    refine ⟨_, rfl, ?_⟩
    rw [List.drop_eq_getElem_cons hi] at hac
    unfold convA at hac
    obtain ⟨Rw, hR⟩ : ∃ Rw, rowAdd f[i] g i acc = Rw := ⟨_, rfl⟩
    rw [hR] at hac
    let Inv2 : Nat → Env → Store → Prop := fun j e U => ∃ o4 acc2, e = [some (P f), some (P g), some (.ref S.length), some (.int i), o4] ∧ U = St acc2 ∧ acc2.length = N ∧ rowAdd f[i] (g.drop j) (i + j) acc2 = Rw
    obtain ⟨e2, S2, hin, o4', acc2, rfl, rfl, hl2, hr2⟩ := forL_inv (g := gNm 4) (b := IB) (xs := intsD 0 (g.length : Int).toNat) Inv2 (fun j y e U hy hI => by
      obtain ⟨o4, acc2, rfl, rfl, hl2, hr2⟩ := hI
      obtain ⟨hj, rfl⟩ := intsD_at hy
      rw [Int.toNat_natCast] at hj
      rw [Int.zero_add]
      have hk : i + j < acc2.length := by rw [hl2]; show i + j < f.length + g.length - 1; omega
      rw [List.drop_eq_getElem_cons hj] at hr2
      unfold rowAdd at hr2
      refine ⟨_, rfl, _, _, .inl ?_, some (.int j), acc2.set (i + j) (acc2.getD (i + j) 0 + f[i] * g[j]), rfl, rfl, by rw [List.length_set]; exact hl2, by rw [← hr2]; rfl⟩
      have m1 : mulOk f[i] g[j] = true := mulOk_small (hf _ (List.getElem_mem hi)) (hg _ (List.getElem_mem hj))
      obtain ⟨c1, c2⟩ := cell_add (d := acc2.getD (i + j) 0 + f[i] * g[j]) (hSt acc2) hk
      rw [Int.natCast_add] at c1 c2
      have ls : (St acc2).set S.length (.lst ((acc2.set (i + j) (acc2.getD (i + j) 0 + f[i] * g[j])).map .int)) = St (acc2.set (i + j) (acc2.getD (i + j) 0 + f[i] * g[j])) := last_set
      rw [ls] at c2
      show (sExpr (eSetI (eBin oCat (eBin oIdx (eVar 2) (eBin oCat (eVar 3) (eVar 4))) (eBin oRep (eBin oIdx (eVar 0) (eVar 3)) (eBin oIdx (eVar 1) (eVar 4)))) (eVar 2) (eBin oCat (eVar 3) (eVar 4)))) [some (P f), some (P g), some (.ref S.length), some (.int i), some (.int j)] (St acc2) = _
      simp only [sExpr_ap, eSetI_ap, eBin_ap, eVar_c, eVar_c0, R.bind, oCat_i, c1, idx_P hi, idx_P hj, oRep_i m1, c2])
      [some (P f), some (P g), some (.ref S.length), some (.int i), o4] (St acc) ⟨o4, acc, rfl, rfl, hal, hR⟩
    rw [intsD_len, Int.toNat_natCast, List.drop_eq_nil_of_le (Nat.le_refl _)] at hr2
    unfold rowAdd at hr2
    subst hr2
    refine ⟨_, _, .inl ?_, some (.int i), o4', acc2, rfl, rfl, hl2, hac⟩
    show sFor _ _ _ [some (P f), some (P g), some (.ref S.length), some (.int i), o4] (St acc) = _
    rw [sFor_L (S1 := St acc) (dRng1_ok (j := (g.length : Int)) (by simp only [eFn_ap, dCons_ap, eVar_c, eVar_c0, dNil_ap, R.bind, len_P]) (by omega) (by omega))]
    exact hin)
    [some (P f), some (P g), some (.ref S.length), none, none] (St (List.replicate N 0)) ⟨none, none, _, rfl, rfl, by rw [List.length_replicate], by rw [List.drop_zero]; rfl⟩
  rw [intsD_len, Int.toNat_natCast, List.drop_eq_nil_of_le (Nat.le_refl _)] at hac
  unfold convA at hac
  subst hac
  have hn : ((f.length : Int) + (g.length : Int) - 1) = (N : Nat) := by
    show ((f.length : Int) + (g.length : Int) - 1) = ((f.length + g.length - 1 : Nat) : Int)
    omega
  have hrep : repOk [D.int 0] (N : Nat) = true := by
    unfold repOk
    rw [Bool.and_eq_true, Bool.and_eq_true, sl]
    have : N ≤ 200 := by show f.length + g.length - 1 ≤ 200; omega
    refine ⟨decide_eq_true (by omega), decide_eq_true (by omega), decide_eq_true (by simp only [List.length_cons, List.length_nil]; omega)⟩
  have ot : oTuple [.ref S.length] (St (conv f g)) = .ok (P (conv f g)) (St (conv f g)) := by
    show (match asL (.ref S.length) (St (conv f g)) with | some xs => R.ok (D.tup xs) (St (conv f g)) | none => .bad) = _
    have : asL (.ref S.length) (St (conv f g)) = some ((conv f g).map .int) := by show (match (St (conv f g))[S.length]? with | some (.lst xs) => some xs | _ => none) = _; rw [hSt]
    rw [this]; rfl
  have h3 : sFor (gNm 3) (dRng1 (eFn oLen (dCons (eVar 0) dNil))) (sFor (gNm 4) (dRng1 (eFn oLen (dCons (eVar 1) dNil))) IB) [some (P f), some (P g), some (.ref S.length), none, none] (St (List.replicate N 0)) = .next [some (P f), some (P g), some (.ref S.length), o3, o4] (St (conv f g)) := by
    rw [sFor_L (S1 := St (List.replicate N 0)) (dRng1_ok (j := (f.length : Int)) (by simp only [eFn_ap, dCons_ap, eVar_c0, dNil_ap, R.bind, len_P]) (by omega) (by omega))]
    exact hout
  have key : ∀ L : DenS, L [some (P f), some (P g), some (.ref S.length), none, none] (St (List.replicate N 0)) = .next [some (P f), some (P g), some (.ref S.length), o3, o4] (St (conv f g)) →
      (sSeq (sIf (tOr (tVal (eBin oEq (eVar 0) (eTup dNil))) (tVal (eBin oEq (eVar 1) (eTup dNil))))
    (sRet (eTup dNil))
    sPass)
    (sSeq (sSet 2 (eNew (dRep (eLst (dCons (eC (.int 0)) dNil)) (eBin oSub (eBin oCat (eFn oLen (dCons (eVar 0) dNil)) (eFn oLen (dCons (eVar 1) dNil))) (eC (.int 1))))))
    (sSeq L
    (sRet (eFn oTuple (dCons (eVar 2) dNil)))))) [some (P f), some (P g), none, none, none] S = .ret (P (conv f g)) (St (conv f g)) := fun L hL => by
    simp only [sSeq_ap, sIf_ap, tOr_ap, tVal_ap, eBin_ap, eVar_c, eVar_c0, eTup_ap, dNil_ap, R.bind, eqnil_dec, nf, ng, decide_false, Bool.false_eq_true, if_false, sPass_ap, sSet_ap, eNew_ap, dRep, eLst_ap, dCons_ap, eC_ap, eFn_ap, len_P, oCat_i, oSub_i, asL, hn, hrep, if_true, Int.toNat_natCast, repD_zero, List.set]
    show (match (match L [some (P f), some (P g), some (.ref S.length), none, none] (St (List.replicate N 0)) with | .next e1 S1 => sRet (eFn oTuple (dCons (eVar 2) dNil)) e1 S1 | r => r) with | r => r) = _
    rw [hL]
    simp only [sRet_ap, eFn_ap, dCons_ap, eVar_c, eVar_c0, dNil_ap, R.bind, ot]
  have fin := key _ h3
  have : runBody (d26 (calls n)) 5 [P f, P g] S = (match (RS.ret (P (conv f g)) (St (conv f g))) with | .next _ S => .ok .non S | .ret d S => .ok d S | .err c v _ S => .err c v S | _ => .bad) := by
    rw [← fin]
    rfl
  rw [this]
  unfold prd
  rw [if_neg hne]
  exact tidy_no (noRefL_all fun x hx => by obtain ⟨c, _, rfl⟩ := List.mem_map.mp hx; rfl)
end K04

set_option maxHeartbeats 4000000
namespace K04
open Py
open PySem (Str sizeLine)
variable {n : Nat} {S : Store}
theorem worth_eq {l l' : List Int} {x : Int × Int} (hx : 0 < x.2) (h : hev x.1 x.2 l * x.2 ^ (l'.length - 1) = hev x.1 x.2 l' * x.2 ^ (l.length - 1)) : worth l x = worth l' x :=
  low_eq (Int.pow_pos hx) (Int.pow_pos hx) h
/-- of two fractions' lowest terms: the sum's, the product's -/
theorem plq_low {a b c d : Int} (hb : 0 < b) (hd : 0 < d) : plq (low a b) (low c d) = low (a * d + c * b) (b * d) := by
  have f1 := low_f (a := a) hb
  have f2 := low_f (a := c) hd
  unfold plq
  generalize low a b = x at *
  generalize low c d = y at *
  obtain ⟨g, hg, ea, eb⟩ := f1.ex
  obtain ⟨g', hg', ec, ed⟩ := f2.ex
  refine low_eq (Int.mul_pos f1.pos f2.pos) (Int.mul_pos hb hd) ?_
  subst ea eb ec ed
  rw [Int.add_mul, Int.add_mul]
  rw [show x.1 * y.2 * (x.2 * g * (y.2 * g')) = x.1 * g * (y.2 * g') * (x.2 * y.2) by ac_rfl, show y.1 * x.2 * (x.2 * g * (y.2 * g')) = y.1 * g' * (x.2 * g) * (x.2 * y.2) by ac_rfl]
theorem tmq_low {a b c d : Int} (hb : 0 < b) (hd : 0 < d) : tmq (low a b) (low c d) = low (a * c) (b * d) := by
  have f1 := low_f (a := a) hb
  have f2 := low_f (a := c) hd
  unfold tmq
  generalize low a b = x at *
  generalize low c d = y at *
  obtain ⟨g, hg, ea, eb⟩ := f1.ex
  obtain ⟨g', hg', ec, ed⟩ := f2.ex
  refine low_eq (Int.mul_pos f1.pos f2.pos) (Int.mul_pos hb hd) ?_
  subst ea eb ec ed
  ac_rfl
theorem worth_prd {f g : List Int} {x : Int × Int} (hx : 0 < x.2) : worth (prd f g) x = tmq (worth f x) (worth g x) := by
  unfold worth
  rw [tmq_low (Int.pow_pos hx) (Int.pow_pos hx)]
  unfold prd
  by_cases h : f = [] ∨ g = []
  · rw [if_pos h]
    refine low_eq (Int.pow_pos hx) (Int.mul_pos (Int.pow_pos hx) (Int.pow_pos hx)) ?_
    have : hev x.1 x.2 f * hev x.1 x.2 g = 0 := by rcases h with h | h <;> subst h <;> simp [hev]
    rw [this]
    simp [hev]
  · rw [if_neg h]
    have nf : f ≠ [] := fun e => h (.inl e)
    have ng : g ≠ [] := fun e => h (.inr e)
    have pf : 0 < f.length := List.length_pos_iff.mpr nf
    have pg : 0 < g.length := List.length_pos_iff.mpr ng
    rw [hev_conv nf ng, conv_len, ← Int.pow_add, show f.length - 1 + (g.length - 1) = f.length + g.length - 1 - 1 by omega]
theorem hev_part {a b : Int} {f : List Int} {m : Nat} (h : f.length ≤ m) : b ^ (m - f.length) * hev a b f * b ^ (f.length - 1) = hev a b f * b ^ (m - 1) := by
  cases f with
  | nil => simp [hev]
  | cons c f =>
    simp only [List.length_cons] at h ⊢
    rw [Int.mul_comm (b ^ (m - (f.length + 1))), Int.mul_assoc, ← Int.pow_add, show m - (f.length + 1) + (f.length + 1 - 1) = m - 1 by omega]
theorem worth_sm {f g : List Int} {x : Int × Int} (hx : 0 < x.2) : worth (sm f g) x = plq (worth f x) (worth g x) := by
  obtain ⟨a, b⟩ := x
  have hb : 0 < b := hx
  unfold worth
  rw [plq_low (Int.pow_pos hx) (Int.pow_pos hx)]
  refine low_eq (Int.pow_pos hx) (Int.mul_pos (Int.pow_pos hx) (Int.pow_pos hx)) ?_
  unfold sm
  have lf : f.length ≤ max f.length g.length := Nat.le_max_left _ _
  have lg : g.length ≤ max f.length g.length := Nat.le_max_right _ _
  generalize max f.length g.length = m at *
  have ht := hev_trim (a := a) (b := b) (f := List.zipWith (· + ·) (pad m f) (pad m g))
  have hl : (List.zipWith (· + ·) (pad m f) (pad m g)).length = m := by rw [List.length_zipWith, pad_len lf, pad_len lg, Nat.min_self]
  have hp : hev a b (List.zipWith (· + ·) (pad m f) (pad m g)) = b ^ (m - f.length) * hev a b f + b ^ (m - g.length) * hev a b g := by
    rw [hev_add (by rw [pad_len lf, pad_len lg])]
    unfold pad
    rw [hev_zeros, hev_zeros]
  rw [hl, hp] at ht
  generalize trim (List.zipWith (· + ·) (pad m f) (pad m g)) = t at *
  have p1 := hev_part (a := a) (b := b) lf
  have p2 := hev_part (a := a) (b := b) lg
  show hev a b t * (b ^ (f.length - 1) * b ^ (g.length - 1)) = (hev a b f * b ^ (g.length - 1) + hev a b g * b ^ (f.length - 1)) * b ^ (t.length - 1)
  refine Int.eq_of_mul_eq_mul_right (a := b ^ (m - 1)) (Int.ne_of_gt (Int.pow_pos hb)) ?_
  rw [show hev a b t * (b ^ (f.length - 1) * b ^ (g.length - 1)) * b ^ (m - 1) = hev a b t * b ^ (m - 1) * (b ^ (f.length - 1) * b ^ (g.length - 1)) by ac_rfl, ← ht]
  rw [show (b ^ (m - f.length) * hev a b f + b ^ (m - g.length) * hev a b g) * b ^ (t.length - 1) * (b ^ (f.length - 1) * b ^ (g.length - 1)) = (b ^ (m - f.length) * hev a b f * b ^ (f.length - 1) * b ^ (g.length - 1) + b ^ (m - g.length) * hev a b g * b ^ (g.length - 1) * b ^ (f.length - 1)) * b ^ (t.length - 1) by
    rw [Int.add_mul, Int.add_mul, Int.add_mul]
    congr 1 <;> ac_rfl]
  rw [p1, p2]
  rw [show (hev a b f * b ^ (g.length - 1) + hev a b g * b ^ (f.length - 1)) * b ^ (t.length - 1) * b ^ (m - 1) = (hev a b f * b ^ (m - 1) * b ^ (g.length - 1) + hev a b g * b ^ (m - 1) * b ^ (f.length - 1)) * b ^ (t.length - 1) by
    rw [Int.add_mul, Int.add_mul, Int.add_mul]
    congr 1 <;> ac_rfl]
theorem worth_sc {f : List Int} {k : Int} {x : Int × Int} (hx : 0 < x.2) : worth (sc k f) x = tmq (k, 1) (worth f x) := by
  have hk : (k, (1 : Int)) = low k 1 := by
    have := (low_f (a := k) (b := 1) (by decide))
    obtain ⟨g, hg, ea, eb⟩ := this.ex
    have h1 : (low k 1).2 = 1 := by
      have h2 := this.lq
      have h3 := this.pos
      simp at h2
      omega
    rw [h1, Int.one_mul] at eb
    subst eb
    rw [Int.mul_one] at ea
    exact Prod.ext ea h1.symm
  rw [hk]
  unfold worth
  rw [tmq_low (by decide) (Int.pow_pos hx), Int.one_mul]
  unfold sc
  by_cases h : k = 0
  · rw [if_pos h]
    refine low_eq (Int.pow_pos hx) (Int.pow_pos hx) ?_
    subst h
    simp [hev]
  · rw [if_neg h, hev_scale, List.length_map]
end K04

set_option maxHeartbeats 4000000
namespace K04
open Py
open PySem (Str sizeLine)
variable {n : Nat} {S : Store}
theorem loop_top {f x tot nn k o8 o9 : Option D} {a b c : Int} {E : Den} {cnt p : Nat} (hE : E [f, x, some (.int a), some (.int b), tot, nn, k, some (.int c), o8, o9] S = .ok (.int cnt) S) (hc : c.natAbs ≤ 2 ^ p) (ha : a.natAbs ≤ 2 ^ 10) (hn : cnt ≤ 20) (hp : p ≤ 600) :
    ∃ o, sFor (gNm 8) (dRng1 E) (sSet 7 (eBin oRep (eVar 7) (eVar 2))) [f, x, some (.int a), some (.int b), tot, nn, k, some (.int c), o8, o9] S = .next [f, x, some (.int a), some (.int b), tot, nn, k, some (.int (c * a ^ cnt)), o, o9] S := by
  let Inv : Nat → Env → Store → Prop := fun i e U => U = S ∧ ∃ o, e = [f, x, some (.int a), some (.int b), tot, nn, k, some (.int (c * a ^ i)), o, o9]
  obtain ⟨e', S', hf, rfl, o, rfl⟩ := forL_inv (g := gNm 8) (b := sSet 7 (eBin oRep (eVar 7) (eVar 2))) (xs := intsD 0 (cnt : Int).toNat) Inv (fun i y e U hy hI => by
    obtain ⟨rfl, o, rfl⟩ := hI
    have hi := (intsD_at hy).1
    rw [Int.toNat_natCast] at hi
    refine ⟨_, rfl, _, _, .inl ?_, rfl, some y, rfl⟩
    have m : mulOk (c * a ^ i) a = true := mulOk_small (bd_lt (mul_bd hc (pow_bd ha i)) (by omega)) (bd_lt ha (by decide))
    simp only [List.set, sSet_ap, eBin_ap, eVar_c, eVar_c0, R.bind, oRep_i m]
    rw [Int.mul_assoc, ← Int.pow_succ])
    [f, x, some (.int a), some (.int b), tot, nn, k, some (.int c), o8, o9] S ⟨rfl, o8, by rw [Int.pow_zero, Int.mul_one]⟩
  rw [intsD_len, Int.toNat_natCast] at hf
  refine ⟨o, ?_⟩
  rw [sFor_L (S1 := S') (dRng1_ok (j := (cnt : Int)) hE (by omega) (by omega)), Int.toNat_natCast]
  exact hf
theorem loop_bot {f x tot nn k o8 o9 : Option D} {a b c : Int} {E : Den} {cnt p : Nat} (hE : E [f, x, some (.int a), some (.int b), tot, nn, k, some (.int c), o8, o9] S = .ok (.int cnt) S) (hc : c.natAbs ≤ 2 ^ p) (hb : b.natAbs ≤ 2 ^ 10) (hn : cnt ≤ 20) (hp : p ≤ 600) :
    ∃ o, sFor (gNm 8) (dRng1 E) (sSet 7 (eBin oRep (eVar 7) (eVar 3))) [f, x, some (.int a), some (.int b), tot, nn, k, some (.int c), o8, o9] S = .next [f, x, some (.int a), some (.int b), tot, nn, k, some (.int (c * b ^ cnt)), o, o9] S := by
  let Inv : Nat → Env → Store → Prop := fun i e U => U = S ∧ ∃ o, e = [f, x, some (.int a), some (.int b), tot, nn, k, some (.int (c * b ^ i)), o, o9]
  obtain ⟨e', S', hf, rfl, o, rfl⟩ := forL_inv (g := gNm 8) (b := sSet 7 (eBin oRep (eVar 7) (eVar 3))) (xs := intsD 0 (cnt : Int).toNat) Inv (fun i y e U hy hI => by
    obtain ⟨rfl, o, rfl⟩ := hI
    have hi := (intsD_at hy).1
    rw [Int.toNat_natCast] at hi
    refine ⟨_, rfl, _, _, .inl ?_, rfl, some y, rfl⟩
    have m : mulOk (c * b ^ i) b = true := mulOk_small (bd_lt (mul_bd hc (pow_bd hb i)) (by omega)) (bd_lt hb (by decide))
    simp only [List.set, sSet_ap, eBin_ap, eVar_c, eVar_c0, R.bind, oRep_i m]
    rw [Int.mul_assoc, ← Int.pow_succ])
    [f, x, some (.int a), some (.int b), tot, nn, k, some (.int c), o8, o9] S ⟨rfl, o8, by rw [Int.pow_zero, Int.mul_one]⟩
  rw [intsD_len, Int.toNat_natCast] at hf
  refine ⟨o, ?_⟩
  rw [sFor_L (S1 := S') (dRng1_ok (j := (cnt : Int)) hE (by omega) (by omega)), Int.toNat_natCast]
  exact hf
end K04

set_option maxHeartbeats 4000000
namespace K04
open Py
open PySem (Str sizeLine)
variable {n : Nat} {S : Store}
theorem hev_split {a b : Int} : ∀ (f g : List Int), hev a b (f ++ g) = hev a b f * a ^ g.length + b ^ f.length * hev a b g
  | [], g => by simp [hev]
  | c :: f, g => by
    simp only [List.cons_append, hev, List.length_append, List.length_cons]
    rw [hev_split f g, Int.add_mul, Int.mul_add, Int.pow_add, Int.pow_succ]
    rw [show c * (a ^ f.length * a ^ g.length) = c * a ^ f.length * a ^ g.length by ac_rfl, show b * (hev a b f * a ^ g.length) = b * hev a b f * a ^ g.length by ac_rfl, show b * (b ^ f.length * hev a b g) = b ^ f.length * b * hev a b g by ac_rfl]
    omega
/-- the sum of the first i parts -/
theorem part_step {a b : Int} {f : List Int} {i : Nat} (hi : i < f.length) : hev a b (f.take i) * a ^ (f.length - i) + f[i] * a ^ (f.length - 1 - i) * b ^ i = hev a b (f.take (i + 1)) * a ^ (f.length - (i + 1)) := by
  rw [List.take_succ_eq_append_getElem hi, hev_snoc, List.length_take, Nat.min_eq_left (by omega), Int.add_mul, show f.length - i = f.length - (i + 1) + 1 by omega, Int.pow_succ, show f.length - 1 - i = f.length - (i + 1) by omega]
  rw [show hev a b (f.take i) * (a ^ (f.length - (i + 1)) * a) = a * hev a b (f.take i) * a ^ (f.length - (i + 1)) by ac_rfl, show f[i] * a ^ (f.length - (i + 1)) * b ^ i = f[i] * b ^ i * a ^ (f.length - (i + 1)) by ac_rfl]
end K04

set_option maxHeartbeats 4000000
namespace K04
open Py
open PySem (Str sizeLine)
variable {n : Nat} {S : Store}
def latB : DenS := (sSeq (sSet 7 (eBin oIdx (eVar 0) (eVar 6)))
    (sSeq (sFor (gNm 8) (dRng1 (eBin oSub (eVar 5) (eVar 6)))
    (sSet 7 (eBin oRep (eVar 7) (eVar 2))))
    (sSeq (sFor (gNm 8) (dRng1 (eVar 6))
    (sSet 7 (eBin oRep (eVar 7) (eVar 3))))
    (sSet 4 (eBin oCat (eVar 4) (eVar 7))))))
theorem latB_ok {l : List Int} {a b t : Int} {p i : Nat} {xx o7 o8 o9 : Option D} (hb : Bd p l) (hp : p ≤ 300) (hl : l.length ≤ 20) (ba : a.natAbs ≤ 2 ^ 10) (bb : b.natAbs ≤ 2 ^ 10) (hi : i < l.length) :
    ∃ o7' o8', latB [some (P l), xx, some (.int a), some (.int b), some (.int t), some (.int ((l.length : Int) - 1)), some (.int i), o7, o8, o9] S = .next [some (P l), xx, some (.int a), some (.int b), some (.int (t + l[i] * a ^ (l.length - 1 - i) * b ^ i)), some (.int ((l.length : Int) - 1)), some (.int i), o7', o8', o9] S := by
  have hc := hb _ (List.getElem_mem hi)
  obtain ⟨o1, h1⟩ := loop_top (S := S) (f := some (P l)) (x := xx) (tot := some (.int t)) (nn := some (.int ((l.length : Int) - 1))) (k := some (.int i)) (o8 := o8) (o9 := o9) (a := a) (b := b) (c := l[i]) (E := eBin oSub (eVar 5) (eVar 6)) (cnt := l.length - 1 - i) (p := p) (by
    simp only [eBin_ap, eVar_c, eVar_c0, R.bind, oSub_i]
    rw [show (l.length : Int) - 1 - (i : Int) = ((l.length - 1 - i : Nat) : Int) by omega]) hc ba (by omega) (by omega)
  obtain ⟨o2, h2⟩ := loop_bot (S := S) (f := some (P l)) (x := xx) (tot := some (.int t)) (nn := some (.int ((l.length : Int) - 1))) (k := some (.int i)) (o8 := o1) (o9 := o9) (a := a) (b := b) (c := l[i] * a ^ (l.length - 1 - i)) (E := eVar 6) (cnt := i) (p := p + 200) (by
    simp only [eVar_c, eVar_c0]) (bd_mono (mul_bd hc (pow_bd ba _)) (by omega)) bb (by omega) (by omega)
  refine ⟨some (.int (l[i] * a ^ (l.length - 1 - i) * b ^ i)), o2, ?_⟩
  have key : ∀ L1 L2 : DenS, L1 [some (P l), xx, some (.int a), some (.int b), some (.int t), some (.int ((l.length : Int) - 1)), some (.int i), some (.int l[i]), o8, o9] S = .next [some (P l), xx, some (.int a), some (.int b), some (.int t), some (.int ((l.length : Int) - 1)), some (.int i), some (.int (l[i] * a ^ (l.length - 1 - i))), o1, o9] S →
      L2 [some (P l), xx, some (.int a), some (.int b), some (.int t), some (.int ((l.length : Int) - 1)), some (.int i), some (.int (l[i] * a ^ (l.length - 1 - i))), o1, o9] S = .next [some (P l), xx, some (.int a), some (.int b), some (.int t), some (.int ((l.length : Int) - 1)), some (.int i), some (.int (l[i] * a ^ (l.length - 1 - i) * b ^ i)), o2, o9] S →
      (sSeq (sSet 7 (eBin oIdx (eVar 0) (eVar 6))) (sSeq L1 (sSeq L2 (sSet 4 (eBin oCat (eVar 4) (eVar 7)))))) [some (P l), xx, some (.int a), some (.int b), some (.int t), some (.int ((l.length : Int) - 1)), some (.int i), o7, o8, o9] S = .next [some (P l), xx, some (.int a), some (.int b), some (.int (t + l[i] * a ^ (l.length - 1 - i) * b ^ i)), some (.int ((l.length : Int) - 1)), some (.int i), some (.int (l[i] * a ^ (l.length - 1 - i) * b ^ i)), o2, o9] S := fun L1 L2 h1 h2 => by
    simp only [sSeq_ap, sSet_ap, eBin_ap, eVar_c, eVar_c0, R.bind, idx_P hi, List.set, h1, h2, oCat_i]
  exact key _ _ h1 h2
end K04

set_option maxHeartbeats 4000000
namespace K04
open Py
open PySem (Str sizeLine)
variable {n : Nat} {S : Store} {Γ : Calls}
theorem Q0 {x : Int × Int} {v : D} : L2.atI [.int x.1, .int x.2] 0 = some v ↔ D.int x.1 = v := by rw [show L2.atI [D.int x.1, .int x.2] 0 = some (.int x.1) from rfl, Option.some.injEq]
theorem Q1 {x : Int × Int} {v : D} : L2.atI [.int x.1, .int x.2] 1 = some v ↔ D.int x.2 = v := by rw [show L2.atI [D.int x.1, .int x.2] 1 = some (.int x.2) from rfl, Option.some.injEq]
theorem W_idxQ0 {x : Int × Int} {Q' : D → Store → Prop} {E : Nat → D → Store → Prop} : Sat (oIdx (Q x) (.int 0) S) Q' E = Q' (.int x.1) S := rfl
theorem W_idxQ1 {x : Int × Int} {Q' : D → Store → Prop} {E : Nat → D → Store → Prop} : Sat (oIdx (Q x) (.int 1) S) Q' E = Q' (.int x.2) S := rfl
theorem W_lenP {l : List Int} {Q' : D → Store → Prop} {E : Nat → D → Store → Prop} : Sat (oLen [P l] S) Q' E = Q' (.int l.length) S := by rw [len_P]; rfl
theorem W_idxP {l : List Int} {i : Nat} {Q' : D → Store → Prop} {E : Nat → D → Store → Prop} (h : i < l.length) : Sat (oIdx (P l) (.int i) S) Q' E = Q' (.int l[i]) S := by rw [idx_P h]; rfl
theorem lat_body {l : List Int} {x : Int × Int} {p : Nat} (h20 : ∀ a b : Int, 0 < b → a.natAbs < 2 ^ 1000 → b.natAbs < 2 ^ 1000 → Γ 20 [.int a, .int b] S = .ok (Q (low a b)) S)
    (hx : Xb x) (hb : Bd p l) (hp : p ≤ 300) (hl : l.length ≤ 20) : runBody (d27 Γ) 10 [P l, Q x] S = .ok (Q (worth l x)) S := by
  apply ok_of_Sat
  rw [Sat_body]
  unfold d27
  have hb0 : 0 < x.2 := hx.nm.pos
  have ba := hx.a
  have bb := hx.b
  try simp -implicitDefEqProofs only [Sat_ok, Sat_err, Sat_bad, Sat_bind, Sat_ite, W_var, W_vars, W_c, W_nil, W_cons, W_tup, W_lst, W_new, W_bin, W_un, W_fn, W_dfn, W_call, W_callP, W_if, W_isi, W_val, W_setI, W_app, W_pop, W_popAt, W_ins, W_augI, andK_b, orK_b, W_and, W_or, notK_b, W_not, boolK_b, W_tval, W_tnot, W_tand, W_tor, W_tyes, W_mul, W_mod, W_fdiv, W_pow, W_idxT, W_idxL, Sx_next, Sx_seq, Sx_pass, Sx_expr, Sx_set, Sx_ret, Sx_retN, Sx_brk, Sx_cont, Sx_raise, Sx_if, Sx_ite, Sx_par, Sx_par3, Sx_asg, Sx_for, outK_ret, outK_err, outK_brk, outK_cont, loopK_ret, loopK_err, loopK_brk, loopK_cont, W_rng1, rngK_i, W_rng2, rngK2_i, W_seq, seqK_t, seqK_l, W_enumA, enumK_t, enumK_l, W_zip2, oCat_i, oSub_i, oNeg_i, oLt_i, oLe_i, oGt_i, oGe_i, oInt_i, oAbs_i, oMax2_i, oMin2_i, oGcd_i, oIsN_ap, oNotN_ap, oEq_i, oNe_i, oNe_b, oEq_b, gTup_ap, gAll_cons, gNm_ap, gAll_nil, List.set, decide_eq_true_eq, if_true, if_false, Bool.not_eq_true, Bool.not_eq_true', Bool.false_eq_true, true_and, and_true, Option.some.injEq, exists_eq_left', exists_eq_left, beq_iff_eq, beq_eq_false_iff_ne, optR_some, R.bind, W_lc, atI_c0, atI_c1, atI_c2, List.map_cons, List.map_nil, List.length_cons, List.length_nil, List.replicate, List.cons_append, List.nil_append, W_idxQ0, W_idxQ1, W_lenP]
  refine ⟨inR_nat (by omega), ?_⟩
  refine Sx_rng l.length (Int.toNat_natCast _) (fun i e U => U = S ∧ ∃ k o7 o8, e = [some (P l), some (Q x), some (.int x.1), some (.int x.2), some (.int (hev x.1 x.2 (l.take i) * x.1 ^ (l.length - i))), some (.int ((l.length : Int) - 1)), k, o7, o8, none])
    ⟨rfl, none, none, none, by simp [hev]⟩ ?_ ?_
  · rintro i e U hi ⟨rfl, k, o7, o8, rfl⟩
    have hc := hb _ (List.getElem_mem hi)
    try simp -implicitDefEqProofs only [Sat_ok, Sat_err, Sat_bad, Sat_bind, Sat_ite, W_var, W_vars, W_c, W_nil, W_cons, W_tup, W_lst, W_new, W_bin, W_un, W_fn, W_dfn, W_call, W_callP, W_if, W_isi, W_val, W_setI, W_app, W_pop, W_popAt, W_ins, W_augI, andK_b, orK_b, W_and, W_or, notK_b, W_not, boolK_b, W_tval, W_tnot, W_tand, W_tor, W_tyes, W_mul, W_mod, W_fdiv, W_pow, W_idxT, W_idxL, Sx_next, Sx_seq, Sx_pass, Sx_expr, Sx_set, Sx_ret, Sx_retN, Sx_brk, Sx_cont, Sx_raise, Sx_if, Sx_ite, Sx_par, Sx_par3, Sx_asg, Sx_for, outK_ret, outK_err, outK_brk, outK_cont, loopK_ret, loopK_err, loopK_brk, loopK_cont, W_rng1, rngK_i, W_rng2, rngK2_i, W_seq, seqK_t, seqK_l, W_enumA, enumK_t, enumK_l, W_zip2, oCat_i, oSub_i, oNeg_i, oLt_i, oLe_i, oGt_i, oGe_i, oInt_i, oAbs_i, oMax2_i, oMin2_i, oGcd_i, oIsN_ap, oNotN_ap, oEq_i, oNe_i, oNe_b, oEq_b, gTup_ap, gAll_cons, gNm_ap, gAll_nil, List.set, decide_eq_true_eq, if_true, if_false, Bool.not_eq_true, Bool.not_eq_true', Bool.false_eq_true, true_and, and_true, Option.some.injEq, exists_eq_left', exists_eq_left, beq_iff_eq, beq_eq_false_iff_ne, optR_some, R.bind, W_lc, atI_c0, atI_c1, atI_c2, W_idxP hi]
    refine ⟨inR_of (by omega) (by omega), ?_⟩
    refine Sx_rng (l.length - 1 - i) (by omega) (fun j e V => V = U ∧ ∃ o, e = [some (P l), some (Q x), some (.int x.1), some (.int x.2), some (.int (hev x.1 x.2 (l.take i) * x.1 ^ (l.length - i))), some (.int ((l.length : Int) - 1)), some (.int i), some (.int (l[i] * x.1 ^ j)), o, none])
      ⟨rfl, o8, by rw [Int.pow_zero, Int.mul_one]⟩ ?_ ?_
    · rintro j e V hj ⟨rfl, o, rfl⟩
      try simp -implicitDefEqProofs only [Sat_ok, Sat_err, Sat_bad, Sat_bind, Sat_ite, W_var, W_vars, W_c, W_nil, W_cons, W_tup, W_lst, W_new, W_bin, W_un, W_fn, W_dfn, W_call, W_callP, W_if, W_isi, W_val, W_setI, W_app, W_pop, W_popAt, W_ins, W_augI, andK_b, orK_b, W_and, W_or, notK_b, W_not, boolK_b, W_tval, W_tnot, W_tand, W_tor, W_tyes, W_mul, W_mod, W_fdiv, W_pow, W_idxT, W_idxL, Sx_next, Sx_seq, Sx_pass, Sx_expr, Sx_set, Sx_ret, Sx_retN, Sx_brk, Sx_cont, Sx_raise, Sx_if, Sx_ite, Sx_par, Sx_par3, Sx_asg, Sx_for, outK_ret, outK_err, outK_brk, outK_cont, loopK_ret, loopK_err, loopK_brk, loopK_cont, W_rng1, rngK_i, W_rng2, rngK2_i, W_seq, seqK_t, seqK_l, W_enumA, enumK_t, enumK_l, W_zip2, oCat_i, oSub_i, oNeg_i, oLt_i, oLe_i, oGt_i, oGe_i, oInt_i, oAbs_i, oMax2_i, oMin2_i, oGcd_i, oIsN_ap, oNotN_ap, oEq_i, oNe_i, oNe_b, oEq_b, gTup_ap, gAll_cons, gNm_ap, gAll_nil, List.set, decide_eq_true_eq, if_true, if_false, Bool.not_eq_true, Bool.not_eq_true', Bool.false_eq_true, true_and, and_true, Option.some.injEq, exists_eq_left', exists_eq_left, beq_iff_eq, beq_eq_false_iff_ne, optR_some, R.bind, W_lc, atI_c0, atI_c1, atI_c2]
      refine ⟨mulB (mul_bd hc (pow_bd ba j)) ba (by omega) (by omega), _, by rw [Int.mul_assoc, ← Int.pow_succ]⟩
    · rintro e V ⟨rfl, o, rfl⟩
      try simp -implicitDefEqProofs only [Sat_ok, Sat_err, Sat_bad, Sat_bind, Sat_ite, W_var, W_vars, W_c, W_nil, W_cons, W_tup, W_lst, W_new, W_bin, W_un, W_fn, W_dfn, W_call, W_callP, W_if, W_isi, W_val, W_setI, W_app, W_pop, W_popAt, W_ins, W_augI, andK_b, orK_b, W_and, W_or, notK_b, W_not, boolK_b, W_tval, W_tnot, W_tand, W_tor, W_tyes, W_mul, W_mod, W_fdiv, W_pow, W_idxT, W_idxL, Sx_next, Sx_seq, Sx_pass, Sx_expr, Sx_set, Sx_ret, Sx_retN, Sx_brk, Sx_cont, Sx_raise, Sx_if, Sx_ite, Sx_par, Sx_par3, Sx_asg, Sx_for, outK_ret, outK_err, outK_brk, outK_cont, loopK_ret, loopK_err, loopK_brk, loopK_cont, W_rng1, rngK_i, W_rng2, rngK2_i, W_seq, seqK_t, seqK_l, W_enumA, enumK_t, enumK_l, W_zip2, oCat_i, oSub_i, oNeg_i, oLt_i, oLe_i, oGt_i, oGe_i, oInt_i, oAbs_i, oMax2_i, oMin2_i, oGcd_i, oIsN_ap, oNotN_ap, oEq_i, oNe_i, oNe_b, oEq_b, gTup_ap, gAll_cons, gNm_ap, gAll_nil, List.set, decide_eq_true_eq, if_true, if_false, Bool.not_eq_true, Bool.not_eq_true', Bool.false_eq_true, true_and, and_true, Option.some.injEq, exists_eq_left', exists_eq_left, beq_iff_eq, beq_eq_false_iff_ne, optR_some, R.bind, W_lc, atI_c0, atI_c1, atI_c2]
      refine ⟨inR_of (by omega) (by omega), ?_⟩
      refine Sx_rng i (by omega) (fun j e W => W = V ∧ ∃ o, e = [some (P l), some (Q x), some (.int x.1), some (.int x.2), some (.int (hev x.1 x.2 (l.take i) * x.1 ^ (l.length - i))), some (.int ((l.length : Int) - 1)), some (.int i), some (.int (l[i] * x.1 ^ (l.length - 1 - i) * x.2 ^ j)), o, none])
        ⟨rfl, o, by rw [Int.pow_zero, Int.mul_one]⟩ ?_ ?_
      · rintro j e W hj ⟨rfl, o, rfl⟩
        try simp -implicitDefEqProofs only [Sat_ok, Sat_err, Sat_bad, Sat_bind, Sat_ite, W_var, W_vars, W_c, W_nil, W_cons, W_tup, W_lst, W_new, W_bin, W_un, W_fn, W_dfn, W_call, W_callP, W_if, W_isi, W_val, W_setI, W_app, W_pop, W_popAt, W_ins, W_augI, andK_b, orK_b, W_and, W_or, notK_b, W_not, boolK_b, W_tval, W_tnot, W_tand, W_tor, W_tyes, W_mul, W_mod, W_fdiv, W_pow, W_idxT, W_idxL, Sx_next, Sx_seq, Sx_pass, Sx_expr, Sx_set, Sx_ret, Sx_retN, Sx_brk, Sx_cont, Sx_raise, Sx_if, Sx_ite, Sx_par, Sx_par3, Sx_asg, Sx_for, outK_ret, outK_err, outK_brk, outK_cont, loopK_ret, loopK_err, loopK_brk, loopK_cont, W_rng1, rngK_i, W_rng2, rngK2_i, W_seq, seqK_t, seqK_l, W_enumA, enumK_t, enumK_l, W_zip2, oCat_i, oSub_i, oNeg_i, oLt_i, oLe_i, oGt_i, oGe_i, oInt_i, oAbs_i, oMax2_i, oMin2_i, oGcd_i, oIsN_ap, oNotN_ap, oEq_i, oNe_i, oNe_b, oEq_b, gTup_ap, gAll_cons, gNm_ap, gAll_nil, List.set, decide_eq_true_eq, if_true, if_false, Bool.not_eq_true, Bool.not_eq_true', Bool.false_eq_true, true_and, and_true, Option.some.injEq, exists_eq_left', exists_eq_left, beq_iff_eq, beq_eq_false_iff_ne, optR_some, R.bind, W_lc, atI_c0, atI_c1, atI_c2]
        refine ⟨mulB (mul_bd (mul_bd hc (pow_bd ba _)) (pow_bd bb j)) bb (by omega) (by omega), _, by rw [Int.mul_assoc, ← Int.pow_succ]⟩
      · rintro e W ⟨rfl, o, rfl⟩
        try simp -implicitDefEqProofs only [Sat_ok, Sat_err, Sat_bad, Sat_bind, Sat_ite, W_var, W_vars, W_c, W_nil, W_cons, W_tup, W_lst, W_new, W_bin, W_un, W_fn, W_dfn, W_call, W_callP, W_if, W_isi, W_val, W_setI, W_app, W_pop, W_popAt, W_ins, W_augI, andK_b, orK_b, W_and, W_or, notK_b, W_not, boolK_b, W_tval, W_tnot, W_tand, W_tor, W_tyes, W_mul, W_mod, W_fdiv, W_pow, W_idxT, W_idxL, Sx_next, Sx_seq, Sx_pass, Sx_expr, Sx_set, Sx_ret, Sx_retN, Sx_brk, Sx_cont, Sx_raise, Sx_if, Sx_ite, Sx_par, Sx_par3, Sx_asg, Sx_for, outK_ret, outK_err, outK_brk, outK_cont, loopK_ret, loopK_err, loopK_brk, loopK_cont, W_rng1, rngK_i, W_rng2, rngK2_i, W_seq, seqK_t, seqK_l, W_enumA, enumK_t, enumK_l, W_zip2, oCat_i, oSub_i, oNeg_i, oLt_i, oLe_i, oGt_i, oGe_i, oInt_i, oAbs_i, oMax2_i, oMin2_i, oGcd_i, oIsN_ap, oNotN_ap, oEq_i, oNe_i, oNe_b, oEq_b, gTup_ap, gAll_cons, gNm_ap, gAll_nil, List.set, decide_eq_true_eq, if_true, if_false, Bool.not_eq_true, Bool.not_eq_true', Bool.false_eq_true, true_and, and_true, Option.some.injEq, exists_eq_left', exists_eq_left, beq_iff_eq, beq_eq_false_iff_ne, optR_some, R.bind, W_lc, atI_c0, atI_c1, atI_c2]
        exact ⟨_, _, _, by rw [part_step hi]⟩
  · rintro e U ⟨rfl, k, o7, o8, rfl⟩
    try simp -implicitDefEqProofs only [Sat_ok, Sat_err, Sat_bad, Sat_bind, Sat_ite, W_var, W_vars, W_c, W_nil, W_cons, W_tup, W_lst, W_new, W_bin, W_un, W_fn, W_dfn, W_call, W_callP, W_if, W_isi, W_val, W_setI, W_app, W_pop, W_popAt, W_ins, W_augI, andK_b, orK_b, W_and, W_or, notK_b, W_not, boolK_b, W_tval, W_tnot, W_tand, W_tor, W_tyes, W_mul, W_mod, W_fdiv, W_pow, W_idxT, W_idxL, Sx_next, Sx_seq, Sx_pass, Sx_expr, Sx_set, Sx_ret, Sx_retN, Sx_brk, Sx_cont, Sx_raise, Sx_if, Sx_ite, Sx_par, Sx_par3, Sx_asg, Sx_for, outK_ret, outK_err, outK_brk, outK_cont, loopK_ret, loopK_err, loopK_brk, loopK_cont, W_rng1, rngK_i, W_rng2, rngK2_i, W_seq, seqK_t, seqK_l, W_enumA, enumK_t, enumK_l, W_zip2, oCat_i, oSub_i, oNeg_i, oLt_i, oLe_i, oGt_i, oGe_i, oInt_i, oAbs_i, oMax2_i, oMin2_i, oGcd_i, oIsN_ap, oNotN_ap, oEq_i, oNe_i, oNe_b, oEq_b, gTup_ap, gAll_cons, gNm_ap, gAll_nil, List.set, decide_eq_true_eq, if_true, if_false, Bool.not_eq_true, Bool.not_eq_true', Bool.false_eq_true, true_and, and_true, Option.some.injEq, exists_eq_left', exists_eq_left, beq_iff_eq, beq_eq_false_iff_ne, optR_some, R.bind, W_lc, atI_c0, atI_c1, atI_c2]
    refine ⟨inR_of (by omega) (by omega), ?_⟩
    refine Sx_rng (l.length - 1) (by omega) (fun j e V => V = U ∧ ∃ o, e = [some (P l), some (Q x), some (.int x.1), some (.int x.2), some (.int (hev x.1 x.2 (l.take l.length) * x.1 ^ (l.length - l.length))), some (.int ((l.length : Int) - 1)), k, o7, o, some (.int (x.2 ^ j))])
      ⟨rfl, o8, by rw [Int.pow_zero]⟩ ?_ ?_
    · rintro j e V hj ⟨rfl, o, rfl⟩
      try simp -implicitDefEqProofs only [Sat_ok, Sat_err, Sat_bad, Sat_bind, Sat_ite, W_var, W_vars, W_c, W_nil, W_cons, W_tup, W_lst, W_new, W_bin, W_un, W_fn, W_dfn, W_call, W_callP, W_if, W_isi, W_val, W_setI, W_app, W_pop, W_popAt, W_ins, W_augI, andK_b, orK_b, W_and, W_or, notK_b, W_not, boolK_b, W_tval, W_tnot, W_tand, W_tor, W_tyes, W_mul, W_mod, W_fdiv, W_pow, W_idxT, W_idxL, Sx_next, Sx_seq, Sx_pass, Sx_expr, Sx_set, Sx_ret, Sx_retN, Sx_brk, Sx_cont, Sx_raise, Sx_if, Sx_ite, Sx_par, Sx_par3, Sx_asg, Sx_for, outK_ret, outK_err, outK_brk, outK_cont, loopK_ret, loopK_err, loopK_brk, loopK_cont, W_rng1, rngK_i, W_rng2, rngK2_i, W_seq, seqK_t, seqK_l, W_enumA, enumK_t, enumK_l, W_zip2, oCat_i, oSub_i, oNeg_i, oLt_i, oLe_i, oGt_i, oGe_i, oInt_i, oAbs_i, oMax2_i, oMin2_i, oGcd_i, oIsN_ap, oNotN_ap, oEq_i, oNe_i, oNe_b, oEq_b, gTup_ap, gAll_cons, gNm_ap, gAll_nil, List.set, decide_eq_true_eq, if_true, if_false, Bool.not_eq_true, Bool.not_eq_true', Bool.false_eq_true, true_and, and_true, Option.some.injEq, exists_eq_left', exists_eq_left, beq_iff_eq, beq_eq_false_iff_ne, optR_some, R.bind, W_lc, atI_c0, atI_c1, atI_c2]
      refine ⟨mulB (pow_bd bb j) bb (by omega) (by omega), _, by rw [← Int.pow_succ]⟩
    · rintro e V ⟨rfl, o, rfl⟩
      try simp -implicitDefEqProofs only [Sat_ok, Sat_err, Sat_bad, Sat_bind, Sat_ite, W_var, W_vars, W_c, W_nil, W_cons, W_tup, W_lst, W_new, W_bin, W_un, W_fn, W_dfn, W_call, W_callP, W_if, W_isi, W_val, W_setI, W_app, W_pop, W_popAt, W_ins, W_augI, andK_b, orK_b, W_and, W_or, notK_b, W_not, boolK_b, W_tval, W_tnot, W_tand, W_tor, W_tyes, W_mul, W_mod, W_fdiv, W_pow, W_idxT, W_idxL, Sx_next, Sx_seq, Sx_pass, Sx_expr, Sx_set, Sx_ret, Sx_retN, Sx_brk, Sx_cont, Sx_raise, Sx_if, Sx_ite, Sx_par, Sx_par3, Sx_asg, Sx_for, outK_ret, outK_err, outK_brk, outK_cont, loopK_ret, loopK_err, loopK_brk, loopK_cont, W_rng1, rngK_i, W_rng2, rngK2_i, W_seq, seqK_t, seqK_l, W_enumA, enumK_t, enumK_l, W_zip2, oCat_i, oSub_i, oNeg_i, oLt_i, oLe_i, oGt_i, oGe_i, oInt_i, oAbs_i, oMax2_i, oMin2_i, oGcd_i, oIsN_ap, oNotN_ap, oEq_i, oNe_i, oNe_b, oEq_b, gTup_ap, gAll_cons, gNm_ap, gAll_nil, List.set, decide_eq_true_eq, if_true, if_false, Bool.not_eq_true, Bool.not_eq_true', Bool.false_eq_true, true_and, and_true, Option.some.injEq, exists_eq_left', exists_eq_left, beq_iff_eq, beq_eq_false_iff_ne, optR_some, R.bind, W_lc, atI_c0, atI_c1, atI_c2]
      rw [List.take_length, Nat.sub_self, Int.pow_zero, Int.mul_one, h20 _ _ (Int.pow_pos hb0) (bd_lt (hev_bd ba bb hb) (by omega)) (bd_lt (pow_bd bb _) (by omega))]
      exact ⟨rfl, rfl⟩
theorem c27 {args : List D} : calls (n + 1) 27 args S = tidy S (runBody (d27 (calls n)) 10 args S) := rfl
theorem lat_ok {l : List Int} {x : Int × Int} {p : Nat} (hx : Xb x) (hb : Bd p l) (hp : p ≤ 300) (hl : l.length ≤ 20) : calls (n + 2) 27 [P l, Q x] S = .ok (Q (worth l x)) S := by
  rw [show n + 2 = (n + 1) + 1 from rfl, c27, lat_body (Γ := calls (n + 1)) (S := S) (fun a b => llow_ok (n := n)) hx hb hp hl]; exact tidy_ok0
end K04

set_option maxHeartbeats 4000000
namespace K04
open Py
open PySem (Str sizeLine)
variable {n : Nat} {S : Store} {Γ : Calls}
/-- a drawn polynomial -/
structure Po (most : Nat) (far : Int) (l : List Int) : Prop where
  lead : Lead l
  len : l.length ≤ most + 1
  bd : ∀ c ∈ l, -far ≤ c ∧ c ≤ far
theorem ints_of {ds : List D} {φ : Int → Prop} (h : ∀ d ∈ ds, ∃ c : Int, d = .int c ∧ φ c) : ∃ l : List Int, ds = l.map .int ∧ ∀ c ∈ l, φ c := by
  induction ds with
  | nil => exact ⟨[], rfl, fun c h => (by cases h)⟩
  | cons d ds ih =>
    obtain ⟨c, rfl, hc⟩ := h d List.mem_cons_self
    obtain ⟨l, rfl, hl⟩ := ih fun e he => h e (List.mem_cons_of_mem _ he)
    refine ⟨c :: l, rfl, fun e he => ?_⟩
    rcases List.mem_cons.mp he with rfl | he
    · exact hc
    · exact hl e he
theorem poly_body {p : Nat} {most : Nat} {far : Int} (h18 : Tk Γ 18) (h24 : ∀ (l : List Int) S, Γ 24 [.lst (l.map .int)] S = .ok (P (trim l)) S) (hP : Pot S p) (hm : most ≤ 100) (f1 : 1 ≤ far) (f2 : far.natAbs ≤ 2 ^ 100) :
    Sat (runBody (d28 Γ) 6 [.ref p, .int most, .int far] S) (fun d S' => ∃ l, d = P l ∧ Po most far l ∧ Pot S' p ∧ Fr1 S S' p) (fun _ _ _ => False) := by
  unfold d28
  rw [Sat_body]; simp -implicitDefEqProofs only [List.map_cons, List.map_nil, List.length_cons, List.length_nil, List.replicate, List.cons_append, List.nil_append]
  try simp -implicitDefEqProofs only [Sat_ok, Sat_err, Sat_bad, Sat_bind, Sat_ite, W_var, W_vars, W_c, W_nil, W_cons, W_tup, W_lst, W_new, W_bin, W_un, W_fn, W_dfn, W_call, W_callP, W_if, W_isi, W_val, W_setI, W_app, W_pop, W_popAt, W_ins, W_augI, andK_b, orK_b, W_and, W_or, notK_b, W_not, boolK_b, W_tval, W_tnot, W_tand, W_tor, W_tyes, W_mul, W_mod, W_fdiv, W_pow, W_idxT, W_idxL, Sx_next, Sx_seq, Sx_pass, Sx_expr, Sx_set, Sx_ret, Sx_retN, Sx_brk, Sx_cont, Sx_raise, Sx_if, Sx_ite, Sx_par, Sx_par3, Sx_asg, Sx_for, outK_ret, outK_err, outK_brk, outK_cont, loopK_ret, loopK_err, loopK_brk, loopK_cont, W_rng1, rngK_i, W_rng2, rngK2_i, W_seq, seqK_t, seqK_l, W_enumA, enumK_t, enumK_l, W_zip2, oCat_i, oSub_i, oNeg_i, oLt_i, oLe_i, oGt_i, oGe_i, oInt_i, oAbs_i, oMax2_i, oMin2_i, oGcd_i, oIsN_ap, oNotN_ap, oEq_i, oNe_i, oNe_b, oEq_b, gTup_ap, gAll_cons, gNm_ap, gAll_nil, List.set, decide_eq_true_eq, if_true, if_false, Bool.not_eq_true, Bool.not_eq_true', Bool.false_eq_true, true_and, and_true, Option.some.injEq, exists_eq_left', exists_eq_left, beq_iff_eq, beq_eq_false_iff_ne, optR_some, R.bind, W_lc, atI_c0, atI_c1, atI_c2]
  refine Sat_use0 (h18 hP (by decide) (by decide)) ?_
  rintro _ S1 ⟨v, rfl, v0, v1, P1, F1⟩
  try simp -implicitDefEqProofs only [Sat_ok, Sat_err, Sat_bad, Sat_bind, Sat_ite, W_var, W_vars, W_c, W_nil, W_cons, W_tup, W_lst, W_new, W_bin, W_un, W_fn, W_dfn, W_call, W_callP, W_if, W_isi, W_val, W_setI, W_app, W_pop, W_popAt, W_ins, W_augI, andK_b, orK_b, W_and, W_or, notK_b, W_not, boolK_b, W_tval, W_tnot, W_tand, W_tor, W_tyes, W_mul, W_mod, W_fdiv, W_pow, W_idxT, W_idxL, Sx_next, Sx_seq, Sx_pass, Sx_expr, Sx_set, Sx_ret, Sx_retN, Sx_brk, Sx_cont, Sx_raise, Sx_if, Sx_ite, Sx_par, Sx_par3, Sx_asg, Sx_for, outK_ret, outK_err, outK_brk, outK_cont, loopK_ret, loopK_err, loopK_brk, loopK_cont, W_rng1, rngK_i, W_rng2, rngK2_i, W_seq, seqK_t, seqK_l, W_enumA, enumK_t, enumK_l, W_zip2, oCat_i, oSub_i, oNeg_i, oLt_i, oLe_i, oGt_i, oGe_i, oInt_i, oAbs_i, oMax2_i, oMin2_i, oGcd_i, oIsN_ap, oNotN_ap, oEq_i, oNe_i, oNe_b, oEq_b, gTup_ap, gAll_cons, gNm_ap, gAll_nil, List.set, decide_eq_true_eq, if_true, if_false, Bool.not_eq_true, Bool.not_eq_true', Bool.false_eq_true, true_and, and_true, Option.some.injEq, exists_eq_left', exists_eq_left, beq_iff_eq, beq_eq_false_iff_ne, optR_some, R.bind, W_lc, atI_c0, atI_c1, atI_c2]
  refine ⟨fun _ => ⟨[], rfl, ⟨fun c h => (by cases h), Nat.zero_le _, fun c h => (by cases h)⟩, P1, F1⟩, fun _ => ?_⟩
  refine Sat_use0 (h18 P1 (by omega) (bd_lt (j := 10) (by omega) (by decide))) ?_
  rintro _ S2 ⟨m, rfl, m0, m1, P2, F2⟩
  try simp -implicitDefEqProofs only [Sat_ok, Sat_err, Sat_bad, Sat_bind, Sat_ite, W_var, W_vars, W_c, W_nil, W_cons, W_tup, W_lst, W_new, W_bin, W_un, W_fn, W_dfn, W_call, W_callP, W_if, W_isi, W_val, W_setI, W_app, W_pop, W_popAt, W_ins, W_augI, andK_b, orK_b, W_and, W_or, notK_b, W_not, boolK_b, W_tval, W_tnot, W_tand, W_tor, W_tyes, W_mul, W_mod, W_fdiv, W_pow, W_idxT, W_idxL, Sx_next, Sx_seq, Sx_pass, Sx_expr, Sx_set, Sx_ret, Sx_retN, Sx_brk, Sx_cont, Sx_raise, Sx_if, Sx_ite, Sx_par, Sx_par3, Sx_asg, Sx_for, outK_ret, outK_err, outK_brk, outK_cont, loopK_ret, loopK_err, loopK_brk, loopK_cont, W_rng1, rngK_i, W_rng2, rngK2_i, W_seq, seqK_t, seqK_l, W_enumA, enumK_t, enumK_l, W_zip2, oCat_i, oSub_i, oNeg_i, oLt_i, oLe_i, oGt_i, oGe_i, oInt_i, oAbs_i, oMax2_i, oMin2_i, oGcd_i, oIsN_ap, oNotN_ap, oEq_i, oNe_i, oNe_b, oEq_b, gTup_ap, gAll_cons, gNm_ap, gAll_nil, List.set, decide_eq_true_eq, if_true, if_false, Bool.not_eq_true, Bool.not_eq_true', Bool.false_eq_true, true_and, and_true, Option.some.injEq, exists_eq_left', exists_eq_left, beq_iff_eq, beq_eq_false_iff_ne, optR_some, R.bind, W_lc, atI_c0, atI_c1, atI_c2]
  refine ⟨inR_of (by omega) (by omega), ?_⟩
  refine Sat_draw (fun _ _ d => ∃ c : Int, d = .int c ∧ -far ≤ c ∧ c ≤ far) P2 ?_ (by rw [intsD_length, sl]; omega) ?_
  · intro i x S hx hS
    refine ⟨_, rfl, ?_⟩
    simp -implicitDefEqProofs only [wipeE]
    try simp -implicitDefEqProofs only [Sat_ok, Sat_err, Sat_bad, Sat_bind, Sat_ite, W_var, W_vars, W_c, W_nil, W_cons, W_tup, W_lst, W_new, W_bin, W_un, W_fn, W_dfn, W_call, W_callP, W_if, W_isi, W_val, W_setI, W_app, W_pop, W_popAt, W_ins, W_augI, andK_b, orK_b, W_and, W_or, notK_b, W_not, boolK_b, W_tval, W_tnot, W_tand, W_tor, W_tyes, W_mul, W_mod, W_fdiv, W_pow, W_idxT, W_idxL, Sx_next, Sx_seq, Sx_pass, Sx_expr, Sx_set, Sx_ret, Sx_retN, Sx_brk, Sx_cont, Sx_raise, Sx_if, Sx_ite, Sx_par, Sx_par3, Sx_asg, Sx_for, outK_ret, outK_err, outK_brk, outK_cont, loopK_ret, loopK_err, loopK_brk, loopK_cont, W_rng1, rngK_i, W_rng2, rngK2_i, W_seq, seqK_t, seqK_l, W_enumA, enumK_t, enumK_l, W_zip2, oCat_i, oSub_i, oNeg_i, oLt_i, oLe_i, oGt_i, oGe_i, oInt_i, oAbs_i, oMax2_i, oMin2_i, oGcd_i, oIsN_ap, oNotN_ap, oEq_i, oNe_i, oNe_b, oEq_b, gTup_ap, gAll_cons, gNm_ap, gAll_nil, List.set, decide_eq_true_eq, if_true, if_false, Bool.not_eq_true, Bool.not_eq_true', Bool.false_eq_true, true_and, and_true, Option.some.injEq, exists_eq_left', exists_eq_left, beq_iff_eq, beq_eq_false_iff_ne, optR_some, R.bind, W_lc, atI_c0, atI_c1, atI_c2]
    refine ⟨mulB (show (2 : Int).natAbs ≤ 2 ^ 100 by decide) f2 (by omega) (by omega), ?_⟩
    refine Sat_use0 (h18 hS (by omega) (bd_lt (j := 102) (by omega) (by omega))) ?_
    rintro _ S3 ⟨v, rfl, v0, v1, P3, F3⟩
    try simp -implicitDefEqProofs only [Sat_ok, Sat_err, Sat_bad, Sat_bind, Sat_ite, W_var, W_vars, W_c, W_nil, W_cons, W_tup, W_lst, W_new, W_bin, W_un, W_fn, W_dfn, W_call, W_callP, W_if, W_isi, W_val, W_setI, W_app, W_pop, W_popAt, W_ins, W_augI, andK_b, orK_b, W_and, W_or, notK_b, W_not, boolK_b, W_tval, W_tnot, W_tand, W_tor, W_tyes, W_mul, W_mod, W_fdiv, W_pow, W_idxT, W_idxL, Sx_next, Sx_seq, Sx_pass, Sx_expr, Sx_set, Sx_ret, Sx_retN, Sx_brk, Sx_cont, Sx_raise, Sx_if, Sx_ite, Sx_par, Sx_par3, Sx_asg, Sx_for, outK_ret, outK_err, outK_brk, outK_cont, loopK_ret, loopK_err, loopK_brk, loopK_cont, W_rng1, rngK_i, W_rng2, rngK2_i, W_seq, seqK_t, seqK_l, W_enumA, enumK_t, enumK_l, W_zip2, oCat_i, oSub_i, oNeg_i, oLt_i, oLe_i, oGt_i, oGe_i, oInt_i, oAbs_i, oMax2_i, oMin2_i, oGcd_i, oIsN_ap, oNotN_ap, oEq_i, oNe_i, oNe_b, oEq_b, gTup_ap, gAll_cons, gNm_ap, gAll_nil, List.set, decide_eq_true_eq, if_true, if_false, Bool.not_eq_true, Bool.not_eq_true', Bool.false_eq_true, true_and, and_true, Option.some.injEq, exists_eq_left', exists_eq_left, beq_iff_eq, beq_eq_false_iff_ne, optR_some, R.bind, W_lc, atI_c0, atI_c1, atI_c2]
    exact ⟨P3, F3, rfl, _, rfl, by omega, by omega⟩
  · intro ds S3 hl hR hn P3 F3
    obtain ⟨l, rfl, hb⟩ := ints_of (ds := ds) (φ := fun c => -far ≤ c ∧ c ≤ far) fun d hd => by
      obtain ⟨j, hj, rfl⟩ := List.mem_iff_getElem.mp hd
      exact hR j _ _ (List.getElem?_eq_getElem (by rw [← hl]; exact hj)) (List.getElem?_eq_getElem hj)
    rw [List.length_map, intsD_length] at hl
    try simp -implicitDefEqProofs only [Sat_ok, Sat_err, Sat_bad, Sat_bind, Sat_ite, W_var, W_vars, W_c, W_nil, W_cons, W_tup, W_lst, W_new, W_bin, W_un, W_fn, W_dfn, W_call, W_callP, W_if, W_isi, W_val, W_setI, W_app, W_pop, W_popAt, W_ins, W_augI, andK_b, orK_b, W_and, W_or, notK_b, W_not, boolK_b, W_tval, W_tnot, W_tand, W_tor, W_tyes, W_mul, W_mod, W_fdiv, W_pow, W_idxT, W_idxL, Sx_next, Sx_seq, Sx_pass, Sx_expr, Sx_set, Sx_ret, Sx_retN, Sx_brk, Sx_cont, Sx_raise, Sx_if, Sx_ite, Sx_par, Sx_par3, Sx_asg, Sx_for, outK_ret, outK_err, outK_brk, outK_cont, loopK_ret, loopK_err, loopK_brk, loopK_cont, W_rng1, rngK_i, W_rng2, rngK2_i, W_seq, seqK_t, seqK_l, W_enumA, enumK_t, enumK_l, W_zip2, oCat_i, oSub_i, oNeg_i, oLt_i, oLe_i, oGt_i, oGe_i, oInt_i, oAbs_i, oMax2_i, oMin2_i, oGcd_i, oIsN_ap, oNotN_ap, oEq_i, oNe_i, oNe_b, oEq_b, gTup_ap, gAll_cons, gNm_ap, gAll_nil, List.set, decide_eq_true_eq, if_true, if_false, Bool.not_eq_true, Bool.not_eq_true', Bool.false_eq_true, true_and, and_true, Option.some.injEq, exists_eq_left', exists_eq_left, beq_iff_eq, beq_eq_false_iff_ne, optR_some, R.bind, W_lc, atI_c0, atI_c1, atI_c2]
    refine Sat_draw (fun _ x d => ∃ c : Int, d = .int c ∧ -far ≤ c ∧ c ≤ far) P3 ?_ (by rw [List.length_map, sl]; omega) ?_
    · intro i x S hx hS
      rw [List.getElem?_map] at hx
      obtain ⟨c, hc, rfl⟩ := Option.map_eq_some_iff.mp hx
      have hcb := hb c (List.mem_of_getElem? hc)
      refine ⟨_, rfl, ?_⟩
      simp -implicitDefEqProofs only [wipeE]
      try simp -implicitDefEqProofs only [Sat_ok, Sat_err, Sat_bad, Sat_bind, Sat_ite, W_var, W_vars, W_c, W_nil, W_cons, W_tup, W_lst, W_new, W_bin, W_un, W_fn, W_dfn, W_call, W_callP, W_if, W_isi, W_val, W_setI, W_app, W_pop, W_popAt, W_ins, W_augI, andK_b, orK_b, W_and, W_or, notK_b, W_not, boolK_b, W_tval, W_tnot, W_tand, W_tor, W_tyes, W_mul, W_mod, W_fdiv, W_pow, W_idxT, W_idxL, Sx_next, Sx_seq, Sx_pass, Sx_expr, Sx_set, Sx_ret, Sx_retN, Sx_brk, Sx_cont, Sx_raise, Sx_if, Sx_ite, Sx_par, Sx_par3, Sx_asg, Sx_for, outK_ret, outK_err, outK_brk, outK_cont, loopK_ret, loopK_err, loopK_brk, loopK_cont, W_rng1, rngK_i, W_rng2, rngK2_i, W_seq, seqK_t, seqK_l, W_enumA, enumK_t, enumK_l, W_zip2, oCat_i, oSub_i, oNeg_i, oLt_i, oLe_i, oGt_i, oGe_i, oInt_i, oAbs_i, oMax2_i, oMin2_i, oGcd_i, oIsN_ap, oNotN_ap, oEq_i, oNe_i, oNe_b, oEq_b, gTup_ap, gAll_cons, gNm_ap, gAll_nil, List.set, decide_eq_true_eq, if_true, if_false, Bool.not_eq_true, Bool.not_eq_true', Bool.false_eq_true, true_and, and_true, Option.some.injEq, exists_eq_left', exists_eq_left, beq_iff_eq, beq_eq_false_iff_ne, optR_some, R.bind, W_lc, atI_c0, atI_c1, atI_c2]
      refine Sat_use0 (h18 hS (by decide) (by decide)) ?_
      rintro _ S3 ⟨v, rfl, v0, v1, P3, F3⟩
      try simp -implicitDefEqProofs only [Sat_ok, Sat_err, Sat_bad, Sat_bind, Sat_ite, W_var, W_vars, W_c, W_nil, W_cons, W_tup, W_lst, W_new, W_bin, W_un, W_fn, W_dfn, W_call, W_callP, W_if, W_isi, W_val, W_setI, W_app, W_pop, W_popAt, W_ins, W_augI, andK_b, orK_b, W_and, W_or, notK_b, W_not, boolK_b, W_tval, W_tnot, W_tand, W_tor, W_tyes, W_mul, W_mod, W_fdiv, W_pow, W_idxT, W_idxL, Sx_next, Sx_seq, Sx_pass, Sx_expr, Sx_set, Sx_ret, Sx_retN, Sx_brk, Sx_cont, Sx_raise, Sx_if, Sx_ite, Sx_par, Sx_par3, Sx_asg, Sx_for, outK_ret, outK_err, outK_brk, outK_cont, loopK_ret, loopK_err, loopK_brk, loopK_cont, W_rng1, rngK_i, W_rng2, rngK2_i, W_seq, seqK_t, seqK_l, W_enumA, enumK_t, enumK_l, W_zip2, oCat_i, oSub_i, oNeg_i, oLt_i, oLe_i, oGt_i, oGe_i, oInt_i, oAbs_i, oMax2_i, oMin2_i, oGcd_i, oIsN_ap, oNotN_ap, oEq_i, oNe_i, oNe_b, oEq_b, gTup_ap, gAll_cons, gNm_ap, gAll_nil, List.set, decide_eq_true_eq, if_true, if_false, Bool.not_eq_true, Bool.not_eq_true', Bool.false_eq_true, true_and, and_true, Option.some.injEq, exists_eq_left', exists_eq_left, beq_iff_eq, beq_eq_false_iff_ne, optR_some, R.bind, W_lc, atI_c0, atI_c1, atI_c2]
      refine ⟨fun _ => ⟨P3, F3, rfl, c, rfl, hcb.1, hcb.2⟩, fun _ => ⟨P3, F3, rfl, 0, rfl, by omega, by omega⟩⟩
    · intro ds S4 hl2 hR hn P4 F4
      obtain ⟨l2, rfl, hb2⟩ := ints_of (ds := ds) (φ := fun c => -far ≤ c ∧ c ≤ far) fun d hd => by
        obtain ⟨j, hj, rfl⟩ := List.mem_iff_getElem.mp hd
        exact hR j _ _ (List.getElem?_eq_getElem (by rw [← hl2]; exact hj)) (List.getElem?_eq_getElem hj)
      rw [List.length_map, List.length_map] at hl2
      have nil := nil_dec (l := trim l2) (S := S4)
      try simp -implicitDefEqProofs only [Sat_ok, Sat_err, Sat_bad, Sat_bind, Sat_ite, W_var, W_vars, W_c, W_nil, W_cons, W_tup, W_lst, W_new, W_bin, W_un, W_fn, W_dfn, W_call, W_callP, W_if, W_isi, W_val, W_setI, W_app, W_pop, W_popAt, W_ins, W_augI, andK_b, orK_b, W_and, W_or, notK_b, W_not, boolK_b, W_tval, W_tnot, W_tand, W_tor, W_tyes, W_mul, W_mod, W_fdiv, W_pow, W_idxT, W_idxL, Sx_next, Sx_seq, Sx_pass, Sx_expr, Sx_set, Sx_ret, Sx_retN, Sx_brk, Sx_cont, Sx_raise, Sx_if, Sx_ite, Sx_par, Sx_par3, Sx_asg, Sx_for, outK_ret, outK_err, outK_brk, outK_cont, loopK_ret, loopK_err, loopK_brk, loopK_cont, W_rng1, rngK_i, W_rng2, rngK2_i, W_seq, seqK_t, seqK_l, W_enumA, enumK_t, enumK_l, W_zip2, oCat_i, oSub_i, oNeg_i, oLt_i, oLe_i, oGt_i, oGe_i, oInt_i, oAbs_i, oMax2_i, oMin2_i, oGcd_i, oIsN_ap, oNotN_ap, oEq_i, oNe_i, oNe_b, oEq_b, gTup_ap, gAll_cons, gNm_ap, gAll_nil, List.set, decide_eq_true_eq, if_true, if_false, Bool.not_eq_true, Bool.not_eq_true', Bool.false_eq_true, true_and, and_true, Option.some.injEq, exists_eq_left', exists_eq_left, beq_iff_eq, beq_eq_false_iff_ne, optR_some, R.bind, W_lc, atI_c0, atI_c1, atI_c2, h24, nil]
      refine ⟨fun hne => ⟨_, rfl, ⟨trim_lead, ?_, fun c hc => hb2 c (trim_mem hc)⟩, P4, F1.trans (F2.trans (F3.trans F4))⟩, fun _ => ?_⟩
      · have := trim_len (l := l2)
        omega
      · refine Sat_use0 (h18 P4 (by omega) (bd_lt (j := 100) f2 (by omega))) ?_
        rintro _ S5 ⟨v, rfl, v0, v1, P5, F5⟩
        try simp -implicitDefEqProofs only [Sat_ok, Sat_err, Sat_bad, Sat_bind, Sat_ite, W_var, W_vars, W_c, W_nil, W_cons, W_tup, W_lst, W_new, W_bin, W_un, W_fn, W_dfn, W_call, W_callP, W_if, W_isi, W_val, W_setI, W_app, W_pop, W_popAt, W_ins, W_augI, andK_b, orK_b, W_and, W_or, notK_b, W_not, boolK_b, W_tval, W_tnot, W_tand, W_tor, W_tyes, W_mul, W_mod, W_fdiv, W_pow, W_idxT, W_idxL, Sx_next, Sx_seq, Sx_pass, Sx_expr, Sx_set, Sx_ret, Sx_retN, Sx_brk, Sx_cont, Sx_raise, Sx_if, Sx_ite, Sx_par, Sx_par3, Sx_asg, Sx_for, outK_ret, outK_err, outK_brk, outK_cont, loopK_ret, loopK_err, loopK_brk, loopK_cont, W_rng1, rngK_i, W_rng2, rngK2_i, W_seq, seqK_t, seqK_l, W_enumA, enumK_t, enumK_l, W_zip2, oCat_i, oSub_i, oNeg_i, oLt_i, oLe_i, oGt_i, oGe_i, oInt_i, oAbs_i, oMax2_i, oMin2_i, oGcd_i, oIsN_ap, oNotN_ap, oEq_i, oNe_i, oNe_b, oEq_b, gTup_ap, gAll_cons, gNm_ap, gAll_nil, List.set, decide_eq_true_eq, if_true, if_false, Bool.not_eq_true, Bool.not_eq_true', Bool.false_eq_true, true_and, and_true, Option.some.injEq, exists_eq_left', exists_eq_left, beq_iff_eq, beq_eq_false_iff_ne, optR_some, R.bind, W_lc, atI_c0, atI_c1, atI_c2]
        refine ⟨[1 + v], rfl, ⟨fun c h => ?_, by show 1 ≤ _; omega, fun c h => ?_⟩, P5, F1.trans (F2.trans (F3.trans (F4.trans F5)))⟩
        · cases h; omega
        · rw [List.mem_singleton] at h; omega
end K04

set_option maxHeartbeats 4000000
namespace K04
open Py
open PySem (Str sizeLine)
variable {n : Nat} {S : Store} {Γ : Calls}
/-- a polynomial that the law draws -/
structure PP (f : List Int) : Prop where
  lead : Lead f
  len : f.length ≤ 9
  bd : Bd 100 f
theorem Po.pp {l : List Int} {far : Int} (h : Po 8 far l) (hf : far.natAbs ≤ 2 ^ 100) : PP l := ⟨h.lead, h.len, fun c hc => by have := h.bd c hc; omega⟩
theorem pp_take {l : List Int} {i : Nat} (h : i ≤ 2) : True := trivial
theorem sm_len {f g : List Int} {m : Nat} (hf : f.length ≤ m) (hg : g.length ≤ m) : (sm f g).length ≤ m := by
  unfold sm
  refine Nat.le_trans trim_len ?_
  rw [List.length_zipWith, pad_len (Nat.le_max_left _ _), pad_len (Nat.le_max_right _ _), Nat.min_self]
  exact Nat.max_le.mpr ⟨hf, hg⟩
theorem pad_bd {p m : Nat} {f : List Int} (h : Bd p f) : Bd p (pad m f) := fun c hc => by
  unfold pad at hc
  rcases List.mem_append.mp hc with hc | hc
  · rw [(List.mem_replicate.mp hc).2]; exact Nat.zero_le _
  · exact h c hc
theorem sm_bd {f g : List Int} {p : Nat} (hf : Bd p f) (hg : Bd p g) : Bd (p + 1) (sm f g) := fun c hc => by
  unfold sm at hc
  have hc := trim_mem hc
  obtain ⟨i, hi, rfl⟩ := List.mem_iff_getElem.mp hc
  rw [List.length_zipWith] at hi
  rw [List.getElem_zipWith]
  exact add_bd (pad_bd hf _ (List.getElem_mem _)) (pad_bd hg _ (List.getElem_mem _))
theorem sc_lead {f : List Int} {k : Int} (hf : Lead f) : Lead (sc k f) := by
  unfold sc
  split
  · intro c h; cases h
  · rename_i hk
    intro c h
    cases f with
    | nil => cases h
    | cons a f => cases h; exact Int.mul_ne_zero hk (hf a rfl)
theorem sc_len {f : List Int} {k : Int} : (sc k f).length ≤ f.length := by
  unfold sc
  split
  · exact Nat.zero_le _
  · rw [List.length_map]; exact Nat.le_refl _
theorem sc_bd {f : List Int} {k : Int} {p q : Nat} (hk : k.natAbs ≤ 2 ^ q) (hf : Bd p f) : Bd (q + p) (sc k f) := by
  unfold sc
  split
  · intro c h; cases h
  · intro c h
    obtain ⟨a, ha, rfl⟩ := List.mem_map.mp h
    exact mul_bd hk (hf a ha)
theorem worth_nb {l : List Int} {x : Int × Int} {p : Nat} (hx : Xb x) (hb : Bd p l) (hl : l.length ≤ 9) (hp : p ≤ 300) : Nb (p + 100) (worth l x) := by
  have hb0 : 0 < x.2 ^ (l.length - 1) := Int.pow_pos hx.nm.pos
  have f := low_f (a := hev x.1 x.2 l) hb0
  refine ⟨low_nm hb0, Nat.le_trans f.lp (bd_mono (hev_bd hx.a hx.b hb) (by omega)), Nat.le_trans f.lq (bd_mono (pow_bd hx.b _) (by omega))⟩
/-- what the law's main part calls -/
structure G (Γ : Calls) : Prop where
  t : Tk Γ 18
  plus : ∀ {f g S}, PP f → PP g → Γ 14 [P f, P g] S = .ok (P (sm f g)) S
  times : ∀ {f g S}, PP f → PP g → Γ 15 [P f, P g] S = .ok (P (prd f g)) S
  scaled : ∀ {f k S}, PP f → k.natAbs ≤ 2 ^ 5 → Γ 16 [P f, .int k] S = .ok (P (sc k f)) S
  power : ∀ {f S} {k : Nat}, PP f → PwOk f k → Γ 17 [P f, .int k] S = .ok (P (pw f k)) S
  value : ∀ {l x S}, Lead l → l.length ≤ 20 → Bd 300 l → Xb x → Γ 9 [P l, Q x] S = .ok (Q (worth l x)) S
  same : ∀ {xs S}, xs.length ≤ 10 → (∀ d ∈ xs, (∃ l, d = P l ∧ l.length ≤ 1000) ∨ ∃ q, d = Q q) → Γ 19 [.lst xs, .lst xs] S = .ok (.bl true) S
  lsum : ∀ {f g S}, PP f → PP g → Γ 25 [P f, P g] S = .ok (P (sm f g)) S
  lprod : ∀ {f g S}, (∀ c ∈ f, c.natAbs < 2 ^ 1000) → f.length ≤ 100 → PP g → Γ 26 [P f, P g] S = .ok (P (prd f g)) S
  lat : ∀ {l x S}, PP l → Xb x → Γ 27 [P l, Q x] S = .ok (Q (worth l x)) S
  lplus : ∀ {x y S}, Nb 200 x → Nb 200 y → Γ 21 [Q x, Q y] S = .ok (Q (plq x y)) S
  ltimes : ∀ {x y S}, Nb 200 x → Nb 200 y → Γ 22 [Q x, Q y] S = .ok (Q (tmq x y)) S
theorem perm10 {a b : D} : perm [1, 0] ([] ++ [a, b]) = [b, a] := rfl
theorem tupInts {l : List Int} : oTuple [.lst (l.map .int)] S = .ok (P l) S := rfl
theorem sameOk (hG : G Γ) {xs ys : List D} (h : xs = ys) (hl : xs.length ≤ 10) (hx : ∀ d ∈ xs, (∃ l, d = P l ∧ l.length ≤ 1000) ∨ ∃ q, d = Q q) : Γ 19 [.lst xs, .lst ys] S = .ok (.bl true) S := by
  subst h; exact hG.same hl hx
theorem right_body {p : Nat} {f g : List Int} {x : Int × Int} (hG : G Γ) (hP : Pot S p) (hf : PP f) (hg : PP g) (hx : Xb x) :
    Sat (runBody (d31 Γ) 13 [.ref p, P f, P g, Q x] S) (fun d S' => d = .bl true ∧ Pot S' p ∧ Fr1 S S' p) (fun _ _ _ => False) := by
  have lf := hf.len
  have lg := hg.len
  have l1 : (sm f g).length ≤ 9 := sm_len lf lg
  have l2 : (prd f g).length ≤ 17 := Nat.le_trans prd_len (by omega)
  unfold d31
  rw [Sat_body]; simp -implicitDefEqProofs only [List.map_cons, List.map_nil, List.length_cons, List.length_nil, List.replicate, List.cons_append, List.nil_append]
  try simp -implicitDefEqProofs only [Sat_ok, Sat_err, Sat_bad, Sat_bind, W_var, W_vars, W_c, W_nil, W_cons, W_tup, W_lst, W_new, W_bin, W_un, W_fn, W_dfn, W_call, W_callP, W_if, W_isi, W_val, W_setI, W_app, W_pop, W_popAt, W_ins, W_augI, andK_b, orK_b, W_and, W_or, notK_b, W_not, boolK_b, W_tval, W_tnot, W_tand, W_tor, W_tyes, W_mul, W_mod, W_fdiv, W_pow, W_idxT, W_idxL, Sx_next, Sx_seq, Sx_pass, Sx_expr, Sx_set, Sx_ret, Sx_retN, Sx_brk, Sx_cont, Sx_raise, Sx_if, Sx_par, Sx_par3, Sx_asg, Sx_for, outK_ret, outK_err, outK_brk, outK_cont, loopK_ret, loopK_err, loopK_brk, loopK_cont, W_rng1, rngK_i, W_rng2, rngK2_i, W_seq, seqK_t, seqK_l, W_enumA, enumK_t, enumK_l, W_zip2, oCat_i, oSub_i, oNeg_i, oLt_i, oLe_i, oGt_i, oGe_i, oInt_i, oAbs_i, oMax2_i, oMin2_i, oGcd_i, oIsN_ap, oNotN_ap, oEq_i, oNe_i, oNe_b, oEq_b, gTup_ap, gAll_cons, gNm_ap, gAll_nil, List.set, decide_eq_true_eq, if_true, if_false, Bool.not_eq_true, Bool.not_eq_true', Bool.false_eq_true, true_and, and_true, Option.some.injEq, exists_eq_left', exists_eq_left, beq_iff_eq, beq_eq_false_iff_ne, optR_some, R.bind, W_lc, atI_c0, atI_c1, atI_c2]
  refine Sat_use0 (hG.t hP (by decide) (by decide)) ?_
  rintro _ S1 ⟨k0, rfl, v0, v1, P1, F1⟩
  try simp -implicitDefEqProofs only [Sat_ok, Sat_err, Sat_bad, Sat_bind, W_var, W_vars, W_c, W_nil, W_cons, W_tup, W_lst, W_new, W_bin, W_un, W_fn, W_dfn, W_call, W_callP, W_if, W_isi, W_val, W_setI, W_app, W_pop, W_popAt, W_ins, W_augI, andK_b, orK_b, W_and, W_or, notK_b, W_not, boolK_b, W_tval, W_tnot, W_tand, W_tor, W_tyes, W_mul, W_mod, W_fdiv, W_pow, W_idxT, W_idxL, Sx_next, Sx_seq, Sx_pass, Sx_expr, Sx_set, Sx_ret, Sx_retN, Sx_brk, Sx_cont, Sx_raise, Sx_if, Sx_par, Sx_par3, Sx_asg, Sx_for, outK_ret, outK_err, outK_brk, outK_cont, loopK_ret, loopK_err, loopK_brk, loopK_cont, W_rng1, rngK_i, W_rng2, rngK2_i, W_seq, seqK_t, seqK_l, W_enumA, enumK_t, enumK_l, W_zip2, oCat_i, oSub_i, oNeg_i, oLt_i, oLe_i, oGt_i, oGe_i, oInt_i, oAbs_i, oMax2_i, oMin2_i, oGcd_i, oIsN_ap, oNotN_ap, oEq_i, oNe_i, oNe_b, oEq_b, gTup_ap, gAll_cons, gNm_ap, gAll_nil, List.set, decide_eq_true_eq, if_true, if_false, Bool.not_eq_true, Bool.not_eq_true', Bool.false_eq_true, true_and, and_true, Option.some.injEq, exists_eq_left', exists_eq_left, beq_iff_eq, beq_eq_false_iff_ne, optR_some, R.bind, W_lc, atI_c0, atI_c1, atI_c2, W_lenP]
  obtain ⟨k, rfl⟩ : ∃ k, k0 = k + 20 := ⟨k0 - 20, by omega⟩
  rw [Int.add_sub_cancel]
  have hk : k.natAbs ≤ 2 ^ 5 := by omega
  have l3 : (sc k f).length ≤ 9 := Nat.le_trans sc_len lf
  refine Sat_use0 (Q := fun d S' => S' = S1 ∧ ∃ c : Int, d = .int c ∧ (c = 7 ∧ f.length ≤ 3 ∨ c = 3)) ?_ ?_
  · try simp -implicitDefEqProofs only [Sat_ok, Sat_err, Sat_bad, Sat_bind, Sat_ite, W_var, W_vars, W_c, W_nil, W_cons, W_tup, W_lst, W_new, W_bin, W_un, W_fn, W_dfn, W_call, W_callP, W_if, W_isi, W_val, W_setI, W_app, W_pop, W_popAt, W_ins, W_augI, andK_b, orK_b, W_and, W_or, notK_b, W_not, boolK_b, W_tval, W_tnot, W_tand, W_tor, W_tyes, W_mul, W_mod, W_fdiv, W_pow, W_idxT, W_idxL, Sx_next, Sx_seq, Sx_pass, Sx_expr, Sx_set, Sx_ret, Sx_retN, Sx_brk, Sx_cont, Sx_raise, Sx_if, Sx_ite, Sx_par, Sx_par3, Sx_asg, Sx_for, outK_ret, outK_err, outK_brk, outK_cont, loopK_ret, loopK_err, loopK_brk, loopK_cont, W_rng1, rngK_i, W_rng2, rngK2_i, W_seq, seqK_t, seqK_l, W_enumA, enumK_t, enumK_l, W_zip2, oCat_i, oSub_i, oNeg_i, oLt_i, oLe_i, oGt_i, oGe_i, oInt_i, oAbs_i, oMax2_i, oMin2_i, oGcd_i, oIsN_ap, oNotN_ap, oEq_i, oNe_i, oNe_b, oEq_b, gTup_ap, gAll_cons, gNm_ap, gAll_nil, List.set, decide_eq_true_eq, if_true, if_false, Bool.not_eq_true, Bool.not_eq_true', Bool.false_eq_true, true_and, and_true, Option.some.injEq, exists_eq_left', exists_eq_left, beq_iff_eq, beq_eq_false_iff_ne, optR_some, R.bind, W_lc, atI_c0, atI_c1, atI_c2]
    exact ⟨fun h => ⟨_, rfl, .inl ⟨rfl, by omega⟩⟩, fun h => ⟨_, rfl, .inr rfl⟩⟩
  rintro _ _ ⟨rfl, c, rfl, hc⟩
  refine Sat_use0 (hG.t P1 (by omega) (bd_lt (j := 10) (by omega) (by decide))) ?_
  rintro _ S2 ⟨m0, rfl, w0, w1, P2, F2⟩
  obtain ⟨m, rfl⟩ : ∃ m : Nat, m0 = m := ⟨m0.toNat, by omega⟩
  have pk : PwOk f m := ⟨hf.bd, by omega, lf, fun h => by omega⟩
  try simp -implicitDefEqProofs only [Sat_ok, Sat_err, Sat_bad, Sat_bind, W_var, W_vars, W_c, W_nil, W_cons, W_tup, W_lst, W_new, W_bin, W_un, W_fn, W_dfn, W_call, W_callP, W_if, W_isi, W_val, W_setI, W_app, W_pop, W_popAt, W_ins, W_augI, andK_b, orK_b, W_and, W_or, notK_b, W_not, boolK_b, W_tval, W_tnot, W_tand, W_tor, W_tyes, W_mul, W_mod, W_fdiv, W_pow, W_idxT, W_idxL, Sx_next, Sx_seq, Sx_pass, Sx_expr, Sx_set, Sx_ret, Sx_retN, Sx_brk, Sx_cont, Sx_raise, Sx_if, Sx_par, Sx_par3, Sx_asg, Sx_for, outK_ret, outK_err, outK_brk, outK_cont, loopK_ret, loopK_err, loopK_brk, loopK_cont, W_rng1, rngK_i, W_rng2, rngK2_i, W_seq, seqK_t, seqK_l, W_enumA, enumK_t, enumK_l, W_zip2, oCat_i, oSub_i, oNeg_i, oLt_i, oLe_i, oGt_i, oGe_i, oInt_i, oAbs_i, oMax2_i, oMin2_i, oGcd_i, oIsN_ap, oNotN_ap, oEq_i, oNe_i, oNe_b, oEq_b, gTup_ap, gAll_cons, gNm_ap, gAll_nil, List.set, decide_eq_true_eq, if_true, if_false, Bool.not_eq_true, Bool.not_eq_true', Bool.false_eq_true, true_and, and_true, Option.some.injEq, exists_eq_left', exists_eq_left, beq_iff_eq, beq_eq_false_iff_ne, optR_some, R.bind, W_lc, atI_c0, atI_c1, atI_c2, hG.lsum hf hg, hG.lprod (bdLt hf.bd (by decide)) (by omega) hg]
  refine Sat_use0 (Q := fun d S' => S' = S2 ∧ d = P (sc k f)) ?_ ?_
  · try simp -implicitDefEqProofs only [Sat_ok, Sat_err, Sat_bad, Sat_bind, Sat_ite, W_var, W_vars, W_c, W_nil, W_cons, W_tup, W_lst, W_new, W_bin, W_un, W_fn, W_dfn, W_call, W_callP, W_if, W_isi, W_val, W_setI, W_app, W_pop, W_popAt, W_ins, W_augI, andK_b, orK_b, W_and, W_or, notK_b, W_not, boolK_b, W_tval, W_tnot, W_tand, W_tor, W_tyes, W_mul, W_mod, W_fdiv, W_pow, W_idxT, W_idxL, Sx_next, Sx_seq, Sx_pass, Sx_expr, Sx_set, Sx_ret, Sx_retN, Sx_brk, Sx_cont, Sx_raise, Sx_if, Sx_ite, Sx_par, Sx_par3, Sx_asg, Sx_for, outK_ret, outK_err, outK_brk, outK_cont, loopK_ret, loopK_err, loopK_brk, loopK_cont, W_rng1, rngK_i, W_rng2, rngK2_i, W_seq, seqK_t, seqK_l, W_enumA, enumK_t, enumK_l, W_zip2, oCat_i, oSub_i, oNeg_i, oLt_i, oLe_i, oGt_i, oGe_i, oInt_i, oAbs_i, oMax2_i, oMin2_i, oGcd_i, oIsN_ap, oNotN_ap, oEq_i, oNe_i, oNe_b, oEq_b, gTup_ap, gAll_cons, gNm_ap, gAll_nil, List.set, decide_eq_true_eq, if_true, if_false, Bool.not_eq_true, Bool.not_eq_true', Bool.false_eq_true, true_and, and_true, Option.some.injEq, exists_eq_left', exists_eq_left, beq_iff_eq, beq_eq_false_iff_ne, optR_some, R.bind, W_lc, atI_c0, atI_c1, atI_c2]
    refine ⟨fun h => ?_, fun h => (by unfold sc; rw [if_pos (by simpa using h)]; rfl)⟩
    refine Sat_lcP (mulD k) (fun y hy S' _ => ?_) (fun y hy => ?_) (by rw [List.length_map, sl]; omega) ?_
    · obtain ⟨c, hc, rfl⟩ := List.mem_map.mp hy
      refine ⟨_, rfl, ?_⟩
      simp -implicitDefEqProofs only [wipeE]
      try simp -implicitDefEqProofs only [Sat_ok, Sat_err, Sat_bad, Sat_bind, Sat_ite, W_var, W_vars, W_c, W_nil, W_cons, W_tup, W_lst, W_new, W_bin, W_un, W_fn, W_dfn, W_call, W_callP, W_if, W_isi, W_val, W_setI, W_app, W_pop, W_popAt, W_ins, W_augI, andK_b, orK_b, W_and, W_or, notK_b, W_not, boolK_b, W_tval, W_tnot, W_tand, W_tor, W_tyes, W_mul, W_mod, W_fdiv, W_pow, W_idxT, W_idxL, Sx_next, Sx_seq, Sx_pass, Sx_expr, Sx_set, Sx_ret, Sx_retN, Sx_brk, Sx_cont, Sx_raise, Sx_if, Sx_ite, Sx_par, Sx_par3, Sx_asg, Sx_for, outK_ret, outK_err, outK_brk, outK_cont, loopK_ret, loopK_err, loopK_brk, loopK_cont, W_rng1, rngK_i, W_rng2, rngK2_i, W_seq, seqK_t, seqK_l, W_enumA, enumK_t, enumK_l, W_zip2, oCat_i, oSub_i, oNeg_i, oLt_i, oLe_i, oGt_i, oGe_i, oInt_i, oAbs_i, oMax2_i, oMin2_i, oGcd_i, oIsN_ap, oNotN_ap, oEq_i, oNe_i, oNe_b, oEq_b, gTup_ap, gAll_cons, gNm_ap, gAll_nil, List.set, decide_eq_true_eq, if_true, if_false, Bool.not_eq_true, Bool.not_eq_true', Bool.false_eq_true, true_and, and_true, Option.some.injEq, exists_eq_left', exists_eq_left, beq_iff_eq, beq_eq_false_iff_ne, optR_some, R.bind, W_lc, atI_c0, atI_c1, atI_c2]
      exact ⟨mulB hk (hf.bd c hc) (by decide) (by decide), rfl⟩
    · obtain ⟨c, hc, rfl⟩ := List.mem_map.mp hy; rfl
    · rw [map_mul]
      try simp -implicitDefEqProofs only [Sat_ok, Sat_err, Sat_bad, Sat_bind, Sat_ite, W_var, W_vars, W_c, W_nil, W_cons, W_tup, W_lst, W_new, W_bin, W_un, W_fn, W_dfn, W_call, W_callP, W_if, W_isi, W_val, W_setI, W_app, W_pop, W_popAt, W_ins, W_augI, andK_b, orK_b, W_and, W_or, notK_b, W_not, boolK_b, W_tval, W_tnot, W_tand, W_tor, W_tyes, W_mul, W_mod, W_fdiv, W_pow, W_idxT, W_idxL, Sx_next, Sx_seq, Sx_pass, Sx_expr, Sx_set, Sx_ret, Sx_retN, Sx_brk, Sx_cont, Sx_raise, Sx_if, Sx_ite, Sx_par, Sx_par3, Sx_asg, Sx_for, outK_ret, outK_err, outK_brk, outK_cont, loopK_ret, loopK_err, loopK_brk, loopK_cont, W_rng1, rngK_i, W_rng2, rngK2_i, W_seq, seqK_t, seqK_l, W_enumA, enumK_t, enumK_l, W_zip2, oCat_i, oSub_i, oNeg_i, oLt_i, oLe_i, oGt_i, oGe_i, oInt_i, oAbs_i, oMax2_i, oMin2_i, oGcd_i, oIsN_ap, oNotN_ap, oEq_i, oNe_i, oNe_b, oEq_b, gTup_ap, gAll_cons, gNm_ap, gAll_nil, List.set, decide_eq_true_eq, if_true, if_false, Bool.not_eq_true, Bool.not_eq_true', Bool.false_eq_true, true_and, and_true, Option.some.injEq, exists_eq_left', exists_eq_left, beq_iff_eq, beq_eq_false_iff_ne, optR_some, R.bind, W_lc, atI_c0, atI_c1, atI_c2, tupInts]
      unfold sc
      rw [if_neg (by simpa using h)]
  rintro _ S2 ⟨rfl, rfl⟩
  have s1 : ∀ S, Γ 19 [.lst [P (sm f g), P (prd f g), P (sc k f)], .lst [P (sm f g), P (prd f g), P (sc k f)]] S = .ok (.bl true) S := fun S => hG.same (by simp) fun d hd => by
    simp only [List.mem_cons, List.not_mem_nil, or_false] at hd
    rcases hd with rfl | rfl | rfl <;> exact .inl ⟨_, rfl, by omega⟩
  try simp -implicitDefEqProofs only [Sat_ok, Sat_err, Sat_bad, Sat_bind, Sat_ite, W_var, W_vars, W_c, W_nil, W_cons, W_tup, W_lst, W_new, W_bin, W_un, W_fn, W_dfn, W_call, W_callP, W_if, W_isi, W_val, W_setI, W_app, W_pop, W_popAt, W_ins, W_augI, andK_b, orK_b, W_and, W_or, notK_b, W_not, boolK_b, W_tval, W_tnot, W_tand, W_tor, W_tyes, W_mul, W_mod, W_fdiv, W_pow, W_idxT, W_idxL, Sx_next, Sx_seq, Sx_pass, Sx_expr, Sx_set, Sx_ret, Sx_retN, Sx_brk, Sx_cont, Sx_raise, Sx_if, Sx_ite, Sx_par, Sx_par3, Sx_asg, Sx_for, outK_ret, outK_err, outK_brk, outK_cont, loopK_ret, loopK_err, loopK_brk, loopK_cont, W_rng1, rngK_i, W_rng2, rngK2_i, W_seq, seqK_t, seqK_l, W_enumA, enumK_t, enumK_l, W_zip2, oCat_i, oSub_i, oNeg_i, oLt_i, oLe_i, oGt_i, oGe_i, oInt_i, oAbs_i, oMax2_i, oMin2_i, oGcd_i, oIsN_ap, oNotN_ap, oEq_i, oNe_i, oNe_b, oEq_b, gTup_ap, gAll_cons, gNm_ap, gAll_nil, List.set, decide_eq_true_eq, if_true, if_false, Bool.not_eq_true, Bool.not_eq_true', Bool.false_eq_true, true_and, and_true, Option.some.injEq, exists_eq_left', exists_eq_left, beq_iff_eq, beq_eq_false_iff_ne, optR_some, R.bind, W_lc, atI_c0, atI_c1, atI_c2, perm10, hG.plus hf hg, hG.times hf hg, hG.scaled hf hk, hG.plus hf hg, s1]
  refine ⟨fun h => (by cases h), fun _ => ?_⟩
  refine ⟨fun h => (by cases h), fun _ => ?_⟩
  refine ⟨inR_of (by omega) (by omega), ?_⟩
  have p1 : D.tup [.int 1] = P (pw f 0) := rfl
  rw [p1]
  refine Sx_rng m (Int.toNat_natCast _) (fun i e U => U = S2 ∧ ∃ o, e = [some (.ref p), some (P f), some (P g), some (Q x), some (.int k), some (.int m), some (.lst [P (sm f g), P (prd f g), P (sc k f)]), some (.lst [P (sm f g), P (prd f g), P (sc k f)]), some (P (pw f i)), o, none, none, none]) ⟨rfl, _, rfl⟩ ?_ ?_
  · rintro i e U hi ⟨rfl, o, rfl⟩
    have hc := pk.c (i := i) (by omega)
    try simp -implicitDefEqProofs only [Sat_ok, Sat_err, Sat_bad, Sat_bind, Sat_ite, W_var, W_vars, W_c, W_nil, W_cons, W_tup, W_lst, W_new, W_bin, W_un, W_fn, W_dfn, W_call, W_callP, W_if, W_isi, W_val, W_setI, W_app, W_pop, W_popAt, W_ins, W_augI, andK_b, orK_b, W_and, W_or, notK_b, W_not, boolK_b, W_tval, W_tnot, W_tand, W_tor, W_tyes, W_mul, W_mod, W_fdiv, W_pow, W_idxT, W_idxL, Sx_next, Sx_seq, Sx_pass, Sx_expr, Sx_set, Sx_ret, Sx_retN, Sx_brk, Sx_cont, Sx_raise, Sx_if, Sx_ite, Sx_par, Sx_par3, Sx_asg, Sx_for, outK_ret, outK_err, outK_brk, outK_cont, loopK_ret, loopK_err, loopK_brk, loopK_cont, W_rng1, rngK_i, W_rng2, rngK2_i, W_seq, seqK_t, seqK_l, W_enumA, enumK_t, enumK_l, W_zip2, oCat_i, oSub_i, oNeg_i, oLt_i, oLe_i, oGt_i, oGe_i, oInt_i, oAbs_i, oMax2_i, oMin2_i, oGcd_i, oIsN_ap, oNotN_ap, oEq_i, oNe_i, oNe_b, oEq_b, gTup_ap, gAll_cons, gNm_ap, gAll_nil, List.set, decide_eq_true_eq, if_true, if_false, Bool.not_eq_true, Bool.not_eq_true', Bool.false_eq_true, true_and, and_true, Option.some.injEq, exists_eq_left', exists_eq_left, beq_iff_eq, beq_eq_false_iff_ne, optR_some, R.bind, W_lc, atI_c0, atI_c1, atI_c2, hG.lprod hc.1 hc.2 hf]
    exact ⟨_, rfl⟩
  · rintro e U ⟨rfl, o, rfl⟩
    have hc := pk.c (i := m) (Nat.le_refl _)
    have s2 : ∀ S, Γ 19 [.lst [P (pw f m), P (pw f m)], .lst [P (pw f m), P (pw f m)]] S = .ok (.bl true) S := fun S => hG.same (by simp) fun d hd => by
      simp only [List.mem_cons, List.not_mem_nil, or_false] at hd
      rcases hd with rfl | rfl <;> exact .inl ⟨_, rfl, by omega⟩
    have s3 : ∀ S, Γ 19 [.lst [Q (worth f x), Q (worth g x)], .lst [Q (worth f x), Q (worth g x)]] S = .ok (.bl true) S := fun S => hG.same (by simp) fun d hd => by
      simp only [List.mem_cons, List.not_mem_nil, or_false] at hd
      rcases hd with rfl | rfl <;> exact .inr ⟨_, rfl⟩
    have nf := worth_nb hx hf.bd lf (by decide)
    have ng := worth_nb hx hg.bd lg (by decide)
    have nk : Nb 200 (k, 1) := ⟨⟨show (0 : Int) < 1 by decide, Nat.gcd_one_right _⟩, bd_mono hk (by decide), Nat.one_le_two_pow⟩
    have ek : D.tup [.int k, .int 1] = Q (k, 1) := rfl
    try simp -implicitDefEqProofs only [Sat_ok, Sat_err, Sat_bad, Sat_bind, Sat_ite, W_var, W_vars, W_c, W_nil, W_cons, W_tup, W_lst, W_new, W_bin, W_un, W_fn, W_dfn, W_call, W_callP, W_if, W_isi, W_val, W_setI, W_app, W_pop, W_popAt, W_ins, W_augI, andK_b, orK_b, W_and, W_or, notK_b, W_not, boolK_b, W_tval, W_tnot, W_tand, W_tor, W_tyes, W_mul, W_mod, W_fdiv, W_pow, W_idxT, W_idxL, Sx_next, Sx_seq, Sx_pass, Sx_expr, Sx_set, Sx_ret, Sx_retN, Sx_brk, Sx_cont, Sx_raise, Sx_if, Sx_ite, Sx_par, Sx_par3, Sx_asg, Sx_for, outK_ret, outK_err, outK_brk, outK_cont, loopK_ret, loopK_err, loopK_brk, loopK_cont, W_rng1, rngK_i, W_rng2, rngK2_i, W_seq, seqK_t, seqK_l, W_enumA, enumK_t, enumK_l, W_zip2, oCat_i, oSub_i, oNeg_i, oLt_i, oLe_i, oGt_i, oGe_i, oInt_i, oAbs_i, oMax2_i, oMin2_i, oGcd_i, oIsN_ap, oNotN_ap, oEq_i, oNe_i, oNe_b, oEq_b, gTup_ap, gAll_cons, gNm_ap, gAll_nil, List.set, decide_eq_true_eq, if_true, if_false, Bool.not_eq_true, Bool.not_eq_true', Bool.false_eq_true, true_and, and_true, Option.some.injEq, exists_eq_left', exists_eq_left, beq_iff_eq, beq_eq_false_iff_ne, optR_some, R.bind, W_lc, atI_c0, atI_c1, atI_c2, perm10, hG.power hf pk, s2, hG.lat hf hx, hG.lat hg hx, hG.value hf.lead (by omega) (fun c hc => bd_mono (hf.bd c hc) (by decide)) hx, hG.value hg.lead (by omega) (fun c hc => bd_mono (hg.bd c hc) (by decide)) hx, s3, hG.lplus nf ng, hG.ltimes nf ng, ek, hG.ltimes nk nf,
      hG.value (show Lead (sm f g) from trim_lead) (show (sm f g).length ≤ 20 by omega) (fun c hc => bd_mono (sm_bd hf.bd hg.bd c hc) (by decide)) hx, hG.value (prd_lead hf.lead hg.lead) (by omega) (fun c hc => bd_mono (prd_bd hf.bd hg.bd (by omega) c hc) (by decide)) hx, hG.value (sc_lead (k := k) hf.lead) (by omega) (fun c hc => bd_mono (sc_bd hk hf.bd c hc) (by decide)) hx]
    refine ⟨fun h => (by cases h), fun _ => ?_⟩
    refine ⟨fun h => (by cases h), fun _ => ?_⟩
    rw [worth_sm hx.nm.pos, worth_prd hx.nm.pos, worth_sc hx.nm.pos, hG.same (by simp) fun d hd => by
      simp only [List.mem_cons, List.not_mem_nil, or_false] at hd
      rcases hd with rfl | rfl | rfl <;> exact .inr ⟨_, rfl⟩]
    exact ⟨rfl, P2, F1.trans F2⟩
end K04

set_option maxHeartbeats 4000000
namespace K04
open Py
open PySem (Str sizeLine)
variable {n : Nat} {S : Store} {Γ : Calls}
theorem c18 {args : List D} : calls (n + 1) 18 args S = tidy S (runBody takeD 5 args S) := rfl
theorem c19 {args : List D} : calls (n + 1) 19 args S = tidy S (runBody (sameD anc (calls n) 19) 3 args S) := rfl
theorem c28 {args : List D} : calls (n + 1) 28 args S = tidy S (runBody (d28 (calls n)) 6 args S) := rfl
theorem c29 {args : List D} : calls (n + 1) 29 args S = tidy S (runBody (d29 (calls n)) 2 args S) := rfl
theorem c30 {args : List D} : calls (n + 1) 30 args S = tidy S (runBody (d30 (calls n)) 1 args S) := rfl
theorem c31 {args : List D} : calls (n + 1) 31 args S = tidy S (runBody (d31 (calls n)) 13 args S) := rfl
theorem c32 {args : List D} : calls (n + 1) 32 args S = tidy S (runBody (d32 (calls n)) 3 args S) := rfl
theorem t18 : Tk (calls (n + 1)) 18 := tk_of fun args S => c18
theorem same_i {a : Int} : calls (n + 1) 19 [.int a, .int a] S = .ok (.bl true) S := by rw [c19, same_int]; exact tidy_ok0
theorem same_P {l : List Int} (hl : l.length ≤ 1000) : calls (n + 2) 19 [P l, P l] S = .ok (.bl true) S := by
  unfold P
  rw [c19, same_sq (xs := l.map .int) (.inr rfl) (fun x hx S' => by obtain ⟨c, _, rfl⟩ := List.mem_map.mp hx; exact same_i) (by rw [List.length_map, sl]; omega)]; exact tidy_ok0
theorem same_l {xs : List D} (hl : xs.length ≤ 10) (h : ∀ d ∈ xs, (∃ l, d = P l ∧ l.length ≤ 1000) ∨ ∃ q, d = Q q) : calls (n + 3) 19 [.lst xs, .lst xs] S = .ok (.bl true) S := by
  rw [c19, same_sq (xs := xs) (.inl rfl) (fun x hx S' => by
    rcases h x hx with ⟨l, rfl, hl⟩ | ⟨q, rfl⟩
    · exact same_P hl
    · exact same_P (l := [q.1, q.2]) (by simp)) (by rw [sl]; omega)]; exact tidy_ok0
theorem gOk : G (calls (n + 4)) where
  t := t18
  plus hf hg := plus_ok hf.lead hg.lead (by have := hf.len; omega) (by have := hg.len; omega)
  times hf hg := ctimes_ok hf.lead hg.lead (bdLt hf.bd (by decide)) (bdLt hg.bd (by decide)) (by have := hf.len; omega) (by have := hg.len; omega)
  scaled hf hk := cscaled_ok hf.lead (bd_lt hk (by decide)) (bdLt hf.bd (by decide)) (by have := hf.len; omega)
  power hf hk := power_ok hf.lead hk
  value h1 h2 h3 hx := value_ok hx h3 (by decide) h2 h1
  same h1 h2 := same_l h1 h2
  lsum hf hg := lsum_ok (by have := hf.len; omega) (by have := hg.len; omega)
  lprod h1 h2 hg := lprod_ok h1 (bdLt hg.bd (by decide)) h2 (by have := hg.len; omega)
  lat h hx := lat_ok hx h.bd (by decide) (by have := h.len; omega)
  lplus h1 h2 := lplus_ok h1 h2 (by decide)
  ltimes h1 h2 := ltimes_ok h1 h2 (by decide)
theorem far_bd {far : Int} (h1 : 1 ≤ far) (h2 : far ≤ 10 ^ 30) : far.natAbs ≤ 2 ^ 100 := by
  have : (10 : Int) ^ 30 = 1000000000000000000000000000000 := by decide
  have : (2 : Nat) ^ 100 = 1267650600228229401496703205376 := by decide
  omega
theorem poly_ok {p : Nat} {far : Int} (hP : Pot S p) (f1 : 1 ≤ far) (f2 : far ≤ 10 ^ 30) : Sat (calls (n + 2) 28 [.ref p, .int 8, .int far] S) (fun d S' => ∃ l, d = P l ∧ PP l ∧ Pot S' p ∧ Fr1 S S' p) (fun _ _ _ => False) := by
  rw [c28]
  refine Sat_tidy (Sat_use0 (poly_body (most := 8) t18 (fun l S => ltrim_ok (fun _ _ => rfl) (.inl rfl)) hP (by decide) f1 (far_bd f1 f2)) ?_)
  rintro d S' ⟨l, rfl, h, P1, F1⟩
  exact ⟨F1.1, l, rfl, h.pp (far_bd f1 f2), P1, F1⟩
theorem pow30 : oPow (.int 10) (.int 30) S = .ok (.int (10 ^ 30)) S := by rw [oPow_i (by decide)]; rfl
theorem at3 {a b c : D} {v : Int} (h0 : 0 ≤ v) (h1 : v < 3) {Q : D → Prop} (ha : Q a) (hb : Q b) (hc : Q c) : ∃ x, L2.atI [a, b, c] v = some x ∧ Q x := by
  have : v = 0 ∨ v = 1 ∨ v = 2 := by omega
  rcases this with rfl | rfl | rfl
  · exact ⟨a, rfl, ha⟩
  · exact ⟨b, rfl, hb⟩
  · exact ⟨c, rfl, hc⟩
theorem at2 {a b : D} {v : Int} (h0 : 0 ≤ v) (h1 : v < 2) {Q : D → Prop} (ha : Q a) (hb : Q b) : ∃ x, L2.atI [a, b] v = some x ∧ Q x := by
  have : v = 0 ∨ v = 1 := by omega
  rcases this with rfl | rfl
  · exact ⟨a, rfl, ha⟩
  · exact ⟨b, rfl, hb⟩
theorem far_ok {p : Nat} (hP : Pot S p) : Sat (calls (n + 3) 30 [.ref p] S) (fun d S' => ∃ l, d = P l ∧ PP l ∧ Pot S' p ∧ Fr1 S S' p) (fun _ _ _ => False) := by
  rw [c30]
  refine Sat_tidy ?_
  unfold d30
  rw [Sat_body]; simp -implicitDefEqProofs only [List.map_cons, List.map_nil, List.length_cons, List.length_nil, List.replicate, List.cons_append, List.nil_append]
  try simp -implicitDefEqProofs only [Sat_ok, Sat_err, Sat_bad, Sat_bind, Sat_ite, W_var, W_vars, W_c, W_nil, W_cons, W_tup, W_lst, W_new, W_bin, W_un, W_fn, W_dfn, W_call, W_callP, W_if, W_isi, W_val, W_setI, W_app, W_pop, W_popAt, W_ins, W_augI, andK_b, orK_b, W_and, W_or, notK_b, W_not, boolK_b, W_tval, W_tnot, W_tand, W_tor, W_tyes, W_mul, W_mod, W_fdiv, W_pow, W_idxT, W_idxL, Sx_next, Sx_seq, Sx_pass, Sx_expr, Sx_set, Sx_ret, Sx_retN, Sx_brk, Sx_cont, Sx_raise, Sx_if, Sx_ite, Sx_par, Sx_par3, Sx_asg, Sx_for, outK_ret, outK_err, outK_brk, outK_cont, loopK_ret, loopK_err, loopK_brk, loopK_cont, W_rng1, rngK_i, W_rng2, rngK2_i, W_seq, seqK_t, seqK_l, W_enumA, enumK_t, enumK_l, W_zip2, oCat_i, oSub_i, oNeg_i, oLt_i, oLe_i, oGt_i, oGe_i, oInt_i, oAbs_i, oMax2_i, oMin2_i, oGcd_i, oIsN_ap, oNotN_ap, oEq_i, oNe_i, oNe_b, oEq_b, gTup_ap, gAll_cons, gNm_ap, gAll_nil, List.set, decide_eq_true_eq, if_true, if_false, Bool.not_eq_true, Bool.not_eq_true', Bool.false_eq_true, true_and, and_true, Option.some.injEq, exists_eq_left', exists_eq_left, beq_iff_eq, beq_eq_false_iff_ne, optR_some, R.bind, W_lc, atI_c0, atI_c1, atI_c2, pow30]
  refine Sat_use0 (t18 hP (by decide) (by decide)) ?_
  rintro _ S1 ⟨v, rfl, v0, v1, P1, F1⟩
  try simp -implicitDefEqProofs only [Sat_ok, Sat_err, Sat_bad, Sat_bind, Sat_ite, W_var, W_vars, W_c, W_nil, W_cons, W_tup, W_lst, W_new, W_bin, W_un, W_fn, W_dfn, W_call, W_callP, W_if, W_isi, W_val, W_setI, W_app, W_pop, W_popAt, W_ins, W_augI, andK_b, orK_b, W_and, W_or, notK_b, W_not, boolK_b, W_tval, W_tnot, W_tand, W_tor, W_tyes, W_mul, W_mod, W_fdiv, W_pow, W_idxT, W_idxL, Sx_next, Sx_seq, Sx_pass, Sx_expr, Sx_set, Sx_ret, Sx_retN, Sx_brk, Sx_cont, Sx_raise, Sx_if, Sx_ite, Sx_par, Sx_par3, Sx_asg, Sx_for, outK_ret, outK_err, outK_brk, outK_cont, loopK_ret, loopK_err, loopK_brk, loopK_cont, W_rng1, rngK_i, W_rng2, rngK2_i, W_seq, seqK_t, seqK_l, W_enumA, enumK_t, enumK_l, W_zip2, oCat_i, oSub_i, oNeg_i, oLt_i, oLe_i, oGt_i, oGe_i, oInt_i, oAbs_i, oMax2_i, oMin2_i, oGcd_i, oIsN_ap, oNotN_ap, oEq_i, oNe_i, oNe_b, oEq_b, gTup_ap, gAll_cons, gNm_ap, gAll_nil, List.set, decide_eq_true_eq, if_true, if_false, Bool.not_eq_true, Bool.not_eq_true', Bool.false_eq_true, true_and, and_true, Option.some.injEq, exists_eq_left', exists_eq_left, beq_iff_eq, beq_eq_false_iff_ne, optR_some, R.bind, W_lc, atI_c0, atI_c1, atI_c2]
  obtain ⟨x, hx, far, rfl, f1, f2⟩ := at3 (a := .int 3) (b := .int 20) (c := .int (10 ^ 30)) v0 v1 (Q := fun d => ∃ far : Int, d = .int far ∧ 1 ≤ far ∧ far ≤ 10 ^ 30) ⟨3, rfl, by decide, by decide⟩ ⟨20, rfl, by decide, by decide⟩ ⟨_, rfl, by decide, by decide⟩
  refine ⟨_, hx, ?_⟩
  refine Sat_use0 (poly_ok P1 f1 f2) ?_
  rintro d S' ⟨l, rfl, h, P2, F2⟩
  try simp -implicitDefEqProofs only [Sat_ok, Sat_err, Sat_bad, Sat_bind, Sat_ite, W_var, W_vars, W_c, W_nil, W_cons, W_tup, W_lst, W_new, W_bin, W_un, W_fn, W_dfn, W_call, W_callP, W_if, W_isi, W_val, W_setI, W_app, W_pop, W_popAt, W_ins, W_augI, andK_b, orK_b, W_and, W_or, notK_b, W_not, boolK_b, W_tval, W_tnot, W_tand, W_tor, W_tyes, W_mul, W_mod, W_fdiv, W_pow, W_idxT, W_idxL, Sx_next, Sx_seq, Sx_pass, Sx_expr, Sx_set, Sx_ret, Sx_retN, Sx_brk, Sx_cont, Sx_raise, Sx_if, Sx_ite, Sx_par, Sx_par3, Sx_asg, Sx_for, outK_ret, outK_err, outK_brk, outK_cont, loopK_ret, loopK_err, loopK_brk, loopK_cont, W_rng1, rngK_i, W_rng2, rngK2_i, W_seq, seqK_t, seqK_l, W_enumA, enumK_t, enumK_l, W_zip2, oCat_i, oSub_i, oNeg_i, oLt_i, oLe_i, oGt_i, oGe_i, oInt_i, oAbs_i, oMax2_i, oMin2_i, oGcd_i, oIsN_ap, oNotN_ap, oEq_i, oNe_i, oNe_b, oEq_b, gTup_ap, gAll_cons, gNm_ap, gAll_nil, List.set, decide_eq_true_eq, if_true, if_false, Bool.not_eq_true, Bool.not_eq_true', Bool.false_eq_true, true_and, and_true, Option.some.injEq, exists_eq_left', exists_eq_left, beq_iff_eq, beq_eq_false_iff_ne, optR_some, R.bind, W_lc, atI_c0, atI_c1, atI_c2]
  exact ⟨F2.1.trans F1.1, l, rfl, h, P2, F1.trans F2⟩
theorem drawn_ok {p : Nat} {far : Int} (hP : Pot S p) (f1 : 1 ≤ far) (f2 : far ≤ 999) : Sat (calls (n + 3) 29 [.ref p, .int far] S) (fun d S' => ∃ x, d = Q x ∧ Xb x ∧ Pot S' p ∧ Fr1 S S' p) (fun _ _ _ => False) := by
  rw [c29]
  refine Sat_tidy ?_
  unfold d29
  rw [Sat_body]; simp -implicitDefEqProofs only [List.map_cons, List.map_nil, List.length_cons, List.length_nil, List.replicate, List.cons_append, List.nil_append]
  try simp -implicitDefEqProofs only [Sat_ok, Sat_err, Sat_bad, Sat_bind, Sat_ite, W_var, W_vars, W_c, W_nil, W_cons, W_tup, W_lst, W_new, W_bin, W_un, W_fn, W_dfn, W_call, W_callP, W_if, W_isi, W_val, W_setI, W_app, W_pop, W_popAt, W_ins, W_augI, andK_b, orK_b, W_and, W_or, notK_b, W_not, boolK_b, W_tval, W_tnot, W_tand, W_tor, W_tyes, W_mul, W_mod, W_fdiv, W_pow, W_idxT, W_idxL, Sx_next, Sx_seq, Sx_pass, Sx_expr, Sx_set, Sx_ret, Sx_retN, Sx_brk, Sx_cont, Sx_raise, Sx_if, Sx_ite, Sx_par, Sx_par3, Sx_asg, Sx_for, outK_ret, outK_err, outK_brk, outK_cont, loopK_ret, loopK_err, loopK_brk, loopK_cont, W_rng1, rngK_i, W_rng2, rngK2_i, W_seq, seqK_t, seqK_l, W_enumA, enumK_t, enumK_l, W_zip2, oCat_i, oSub_i, oNeg_i, oLt_i, oLe_i, oGt_i, oGe_i, oInt_i, oAbs_i, oMax2_i, oMin2_i, oGcd_i, oIsN_ap, oNotN_ap, oEq_i, oNe_i, oNe_b, oEq_b, gTup_ap, gAll_cons, gNm_ap, gAll_nil, List.set, decide_eq_true_eq, if_true, if_false, Bool.not_eq_true, Bool.not_eq_true', Bool.false_eq_true, true_and, and_true, Option.some.injEq, exists_eq_left', exists_eq_left, beq_iff_eq, beq_eq_false_iff_ne, optR_some, R.bind, W_lc, atI_c0, atI_c1, atI_c2]
  refine ⟨mulB (show (2 : Int).natAbs ≤ 2 ^ 10 by decide) (show far.natAbs ≤ 2 ^ 10 by omega) (by omega) (by omega), ?_⟩
  refine Sat_use0 (t18 hP (by omega) (bd_lt (j := 12) (by omega) (by decide))) ?_
  rintro _ S1 ⟨v, rfl, v0, v1, P1, F1⟩
  try simp -implicitDefEqProofs only [Sat_ok, Sat_err, Sat_bad, Sat_bind, Sat_ite, W_var, W_vars, W_c, W_nil, W_cons, W_tup, W_lst, W_new, W_bin, W_un, W_fn, W_dfn, W_call, W_callP, W_if, W_isi, W_val, W_setI, W_app, W_pop, W_popAt, W_ins, W_augI, andK_b, orK_b, W_and, W_or, notK_b, W_not, boolK_b, W_tval, W_tnot, W_tand, W_tor, W_tyes, W_mul, W_mod, W_fdiv, W_pow, W_idxT, W_idxL, Sx_next, Sx_seq, Sx_pass, Sx_expr, Sx_set, Sx_ret, Sx_retN, Sx_brk, Sx_cont, Sx_raise, Sx_if, Sx_ite, Sx_par, Sx_par3, Sx_asg, Sx_for, outK_ret, outK_err, outK_brk, outK_cont, loopK_ret, loopK_err, loopK_brk, loopK_cont, W_rng1, rngK_i, W_rng2, rngK2_i, W_seq, seqK_t, seqK_l, W_enumA, enumK_t, enumK_l, W_zip2, oCat_i, oSub_i, oNeg_i, oLt_i, oLe_i, oGt_i, oGe_i, oInt_i, oAbs_i, oMax2_i, oMin2_i, oGcd_i, oIsN_ap, oNotN_ap, oEq_i, oNe_i, oNe_b, oEq_b, gTup_ap, gAll_cons, gNm_ap, gAll_nil, List.set, decide_eq_true_eq, if_true, if_false, Bool.not_eq_true, Bool.not_eq_true', Bool.false_eq_true, true_and, and_true, Option.some.injEq, exists_eq_left', exists_eq_left, beq_iff_eq, beq_eq_false_iff_ne, optR_some, R.bind, W_lc, atI_c0, atI_c1, atI_c2]
  refine Sat_use0 (t18 P1 (by decide) (by decide)) ?_
  rintro _ S2 ⟨w, rfl, w0, w1, P2, F2⟩
  try simp -implicitDefEqProofs only [Sat_ok, Sat_err, Sat_bad, Sat_bind, Sat_ite, W_var, W_vars, W_c, W_nil, W_cons, W_tup, W_lst, W_new, W_bin, W_un, W_fn, W_dfn, W_call, W_callP, W_if, W_isi, W_val, W_setI, W_app, W_pop, W_popAt, W_ins, W_augI, andK_b, orK_b, W_and, W_or, notK_b, W_not, boolK_b, W_tval, W_tnot, W_tand, W_tor, W_tyes, W_mul, W_mod, W_fdiv, W_pow, W_idxT, W_idxL, Sx_next, Sx_seq, Sx_pass, Sx_expr, Sx_set, Sx_ret, Sx_retN, Sx_brk, Sx_cont, Sx_raise, Sx_if, Sx_ite, Sx_par, Sx_par3, Sx_asg, Sx_for, outK_ret, outK_err, outK_brk, outK_cont, loopK_ret, loopK_err, loopK_brk, loopK_cont, W_rng1, rngK_i, W_rng2, rngK2_i, W_seq, seqK_t, seqK_l, W_enumA, enumK_t, enumK_l, W_zip2, oCat_i, oSub_i, oNeg_i, oLt_i, oLe_i, oGt_i, oGe_i, oInt_i, oAbs_i, oMax2_i, oMin2_i, oGcd_i, oIsN_ap, oNotN_ap, oEq_i, oNe_i, oNe_b, oEq_b, gTup_ap, gAll_cons, gNm_ap, gAll_nil, List.set, decide_eq_true_eq, if_true, if_false, Bool.not_eq_true, Bool.not_eq_true', Bool.false_eq_true, true_and, and_true, Option.some.injEq, exists_eq_left', exists_eq_left, beq_iff_eq, beq_eq_false_iff_ne, optR_some, R.bind, W_lc, atI_c0, atI_c1, atI_c2]
  obtain ⟨x, hx, m, rfl, m1, m2⟩ := at3 (a := .int 1) (b := .int 4) (c := .int far) w0 w1 (Q := fun d => ∃ m : Int, d = .int m ∧ 1 ≤ m ∧ m ≤ 999) ⟨1, rfl, by decide, by decide⟩ ⟨4, rfl, by decide, by decide⟩ ⟨_, rfl, f1, f2⟩
  refine ⟨_, hx, ?_⟩
  refine Sat_use0 (t18 P2 (by omega) (bd_lt (j := 12) (by omega) (by decide))) ?_
  rintro d S3 ⟨b, hd, b0, b1, P3, F3⟩
  subst hd
  try simp -implicitDefEqProofs only [Sat_ok, Sat_err, Sat_bad, Sat_bind, Sat_ite, W_var, W_vars, W_c, W_nil, W_cons, W_tup, W_lst, W_new, W_bin, W_un, W_fn, W_dfn, W_call, W_callP, W_if, W_isi, W_val, W_setI, W_app, W_pop, W_popAt, W_ins, W_augI, andK_b, orK_b, W_and, W_or, notK_b, W_not, boolK_b, W_tval, W_tnot, W_tand, W_tor, W_tyes, W_mul, W_mod, W_fdiv, W_pow, W_idxT, W_idxL, Sx_next, Sx_seq, Sx_pass, Sx_expr, Sx_set, Sx_ret, Sx_retN, Sx_brk, Sx_cont, Sx_raise, Sx_if, Sx_ite, Sx_par, Sx_par3, Sx_asg, Sx_for, outK_ret, outK_err, outK_brk, outK_cont, loopK_ret, loopK_err, loopK_brk, loopK_cont, W_rng1, rngK_i, W_rng2, rngK2_i, W_seq, seqK_t, seqK_l, W_enumA, enumK_t, enumK_l, W_zip2, oCat_i, oSub_i, oNeg_i, oLt_i, oLe_i, oGt_i, oGe_i, oInt_i, oAbs_i, oMax2_i, oMin2_i, oGcd_i, oIsN_ap, oNotN_ap, oEq_i, oNe_i, oNe_b, oEq_b, gTup_ap, gAll_cons, gNm_ap, gAll_nil, List.set, decide_eq_true_eq, if_true, if_false, Bool.not_eq_true, Bool.not_eq_true', Bool.false_eq_true, true_and, and_true, Option.some.injEq, exists_eq_left', exists_eq_left, beq_iff_eq, beq_eq_false_iff_ne, optR_some, R.bind, W_lc, atI_c0, atI_c1, atI_c2]
  rw [llow_ok (n := n + 1) (by omega) (bd_lt (j := 12) (by omega) (by decide)) (bd_lt (j := 12) (by omega) (by decide))]
  try simp -implicitDefEqProofs only [Sat_ok, Sat_err, Sat_bad, Sat_bind, Sat_ite, W_var, W_vars, W_c, W_nil, W_cons, W_tup, W_lst, W_new, W_bin, W_un, W_fn, W_dfn, W_call, W_callP, W_if, W_isi, W_val, W_setI, W_app, W_pop, W_popAt, W_ins, W_augI, andK_b, orK_b, W_and, W_or, notK_b, W_not, boolK_b, W_tval, W_tnot, W_tand, W_tor, W_tyes, W_mul, W_mod, W_fdiv, W_pow, W_idxT, W_idxL, Sx_next, Sx_seq, Sx_pass, Sx_expr, Sx_set, Sx_ret, Sx_retN, Sx_brk, Sx_cont, Sx_raise, Sx_if, Sx_ite, Sx_par, Sx_par3, Sx_asg, Sx_for, outK_ret, outK_err, outK_brk, outK_cont, loopK_ret, loopK_err, loopK_brk, loopK_cont, W_rng1, rngK_i, W_rng2, rngK2_i, W_seq, seqK_t, seqK_l, W_enumA, enumK_t, enumK_l, W_zip2, oCat_i, oSub_i, oNeg_i, oLt_i, oLe_i, oGt_i, oGe_i, oInt_i, oAbs_i, oMax2_i, oMin2_i, oGcd_i, oIsN_ap, oNotN_ap, oEq_i, oNe_i, oNe_b, oEq_b, gTup_ap, gAll_cons, gNm_ap, gAll_nil, List.set, decide_eq_true_eq, if_true, if_false, Bool.not_eq_true, Bool.not_eq_true', Bool.false_eq_true, true_and, and_true, Option.some.injEq, exists_eq_left', exists_eq_left, beq_iff_eq, beq_eq_false_iff_ne, optR_some, R.bind, W_lc, atI_c0, atI_c1, atI_c2]
  have hb : 0 < 1 + b := by omega
  have f := low_f (a := v - far) hb
  have l1 := f.lp
  have l2 := f.lq
  exact ⟨F3.1.trans (F2.1.trans F1.1), _, rfl, ⟨low_nm hb, by omega, by omega⟩, P3, F1.trans (F2.trans F3)⟩
theorem right_ok {p : Nat} {f g : List Int} {x : Int × Int} (hP : Pot S p) (hf : PP f) (hg : PP g) (hx : Xb x) : Sat (calls (n + 5) 31 [.ref p, P f, P g, Q x] S) (fun d S' => d = .bl true ∧ Pot S' p ∧ Fr1 S S' p) (fun _ _ _ => False) := by
  rw [c31]
  refine Sat_tidy (Sat_use0 (right_body gOk hP hf hg hx) ?_)
  rintro d S' ⟨rfl, P1, F1⟩
  exact ⟨F1.1, rfl, P1, F1⟩
theorem law_ok {ns : List Int} (hl : ns.length ≤ 63) : ∃ S', calls (n + 6) 32 [.fls ns] [] = .ok (.bl true) S' := by
  let pot : List D := .int 0 :: .int 7 :: .int 3 :: ns.map .int
  have P0 : Pot [.lst pot] 0 := ⟨0, 7, 3, ns, rfl, by decide, by decide, by decide, by decide, by omega, hl⟩
  have h : Sat (runBody (d32 (calls (n + 5))) 3 [.fls ns] []) (fun d S' => d = .bl true) (fun _ _ _ => False) := by
    unfold d32
    rw [Sat_body]; simp -implicitDefEqProofs only [List.map_cons, List.map_nil, List.length_cons, List.length_nil, List.replicate, List.cons_append, List.nil_append]
    have l1 : oList [.fls ns] [] = .ok (ns.map .int) [] := rfl
    have h3 : ([D.int 0, .int 7, .int 3] : List D).length + (ns.map D.int).length ≤ sizeLine := by rw [sl]; simp only [List.length_cons, List.length_nil, List.length_map]; omega
    have e0 : ∀ env : Env, dCat (eLst (dCons (eC (.int 0)) (dCons (eC (.int 7)) (dCons (eC (.int 3)) dNil)))) (eLst (dFn oList (dCons (eVar 0) dNil))) (some (.fls ns) :: env) [] = .ok pot [] := fun env => by
      unfold dCat
      simp only [eLst_ap, dCons_ap, eC_ap, dNil_ap, dFn_ap, eVar_c0, R.bind, l1, asL]
      rw [if_pos h3]
      rfl
    try simp -implicitDefEqProofs only [Sat_ok, Sat_err, Sat_bad, Sat_bind, Sat_ite, W_var, W_vars, W_c, W_nil, W_cons, W_tup, W_lst, W_new, W_bin, W_un, W_fn, W_dfn, W_call, W_callP, W_if, W_isi, W_val, W_setI, W_app, W_pop, W_popAt, W_ins, W_augI, andK_b, orK_b, W_and, W_or, notK_b, W_not, boolK_b, W_tval, W_tnot, W_tand, W_tor, W_tyes, W_mul, W_mod, W_fdiv, W_pow, W_idxT, W_idxL, Sx_next, Sx_seq, Sx_pass, Sx_expr, Sx_set, Sx_ret, Sx_retN, Sx_brk, Sx_cont, Sx_raise, Sx_if, Sx_ite, Sx_par, Sx_par3, Sx_asg, Sx_for, outK_ret, outK_err, outK_brk, outK_cont, loopK_ret, loopK_err, loopK_brk, loopK_cont, W_rng1, rngK_i, W_rng2, rngK2_i, W_seq, seqK_t, seqK_l, W_enumA, enumK_t, enumK_l, W_zip2, oCat_i, oSub_i, oNeg_i, oLt_i, oLe_i, oGt_i, oGe_i, oInt_i, oAbs_i, oMax2_i, oMin2_i, oGcd_i, oIsN_ap, oNotN_ap, oEq_i, oNe_i, oNe_b, oEq_b, gTup_ap, gAll_cons, gNm_ap, gAll_nil, List.set, decide_eq_true_eq, if_true, if_false, Bool.not_eq_true, Bool.not_eq_true', Bool.false_eq_true, true_and, and_true, Option.some.injEq, exists_eq_left', exists_eq_left, beq_iff_eq, beq_eq_false_iff_ne, optR_some, R.bind, W_lc, atI_c0, atI_c1, atI_c2, e0]
    refine ⟨inR_of (by omega) (by omega), ?_⟩
    refine Sx_rng 8 rfl (fun i e U => Pot U 0 ∧ ∃ o, e = [some (.fls ns), some (.ref 0), o]) ⟨P0, none, rfl⟩ ?_ ?_
    · rintro i e U hi ⟨PU, o, rfl⟩
      try simp -implicitDefEqProofs only [Sat_ok, Sat_err, Sat_bad, Sat_bind, Sat_ite, W_var, W_vars, W_c, W_nil, W_cons, W_tup, W_lst, W_new, W_bin, W_un, W_fn, W_dfn, W_call, W_callP, W_if, W_isi, W_val, W_setI, W_app, W_pop, W_popAt, W_ins, W_augI, andK_b, orK_b, W_and, W_or, notK_b, W_not, boolK_b, W_tval, W_tnot, W_tand, W_tor, W_tyes, W_mul, W_mod, W_fdiv, W_pow, W_idxT, W_idxL, Sx_next, Sx_seq, Sx_pass, Sx_expr, Sx_set, Sx_ret, Sx_retN, Sx_brk, Sx_cont, Sx_raise, Sx_if, Sx_ite, Sx_par, Sx_par3, Sx_asg, Sx_for, outK_ret, outK_err, outK_brk, outK_cont, loopK_ret, loopK_err, loopK_brk, loopK_cont, W_rng1, rngK_i, W_rng2, rngK2_i, W_seq, seqK_t, seqK_l, W_enumA, enumK_t, enumK_l, W_zip2, oCat_i, oSub_i, oNeg_i, oLt_i, oLe_i, oGt_i, oGe_i, oInt_i, oAbs_i, oMax2_i, oMin2_i, oGcd_i, oIsN_ap, oNotN_ap, oEq_i, oNe_i, oNe_b, oEq_b, gTup_ap, gAll_cons, gNm_ap, gAll_nil, List.set, decide_eq_true_eq, if_true, if_false, Bool.not_eq_true, Bool.not_eq_true', Bool.false_eq_true, true_and, and_true, Option.some.injEq, exists_eq_left', exists_eq_left, beq_iff_eq, beq_eq_false_iff_ne, optR_some, R.bind, W_lc, atI_c0, atI_c1, atI_c2]
      refine Sat_use0 (far_ok PU) ?_
      rintro _ S1 ⟨f, rfl, hf, P1, F1⟩
      refine Sat_use0 (far_ok P1) ?_
      rintro _ S2 ⟨g, rfl, hg, P2, F2⟩
      try simp -implicitDefEqProofs only [Sat_ok, Sat_err, Sat_bad, Sat_bind, Sat_ite, W_var, W_vars, W_c, W_nil, W_cons, W_tup, W_lst, W_new, W_bin, W_un, W_fn, W_dfn, W_call, W_callP, W_if, W_isi, W_val, W_setI, W_app, W_pop, W_popAt, W_ins, W_augI, andK_b, orK_b, W_and, W_or, notK_b, W_not, boolK_b, W_tval, W_tnot, W_tand, W_tor, W_tyes, W_mul, W_mod, W_fdiv, W_pow, W_idxT, W_idxL, Sx_next, Sx_seq, Sx_pass, Sx_expr, Sx_set, Sx_ret, Sx_retN, Sx_brk, Sx_cont, Sx_raise, Sx_if, Sx_ite, Sx_par, Sx_par3, Sx_asg, Sx_for, outK_ret, outK_err, outK_brk, outK_cont, loopK_ret, loopK_err, loopK_brk, loopK_cont, W_rng1, rngK_i, W_rng2, rngK2_i, W_seq, seqK_t, seqK_l, W_enumA, enumK_t, enumK_l, W_zip2, oCat_i, oSub_i, oNeg_i, oLt_i, oLe_i, oGt_i, oGe_i, oInt_i, oAbs_i, oMax2_i, oMin2_i, oGcd_i, oIsN_ap, oNotN_ap, oEq_i, oNe_i, oNe_b, oEq_b, gTup_ap, gAll_cons, gNm_ap, gAll_nil, List.set, decide_eq_true_eq, if_true, if_false, Bool.not_eq_true, Bool.not_eq_true', Bool.false_eq_true, true_and, and_true, Option.some.injEq, exists_eq_left', exists_eq_left, beq_iff_eq, beq_eq_false_iff_ne, optR_some, R.bind, W_lc, atI_c0, atI_c1, atI_c2]
      refine Sat_use0 (t18 P2 (by decide) (by decide)) ?_
      rintro _ S3 ⟨v, rfl, v0, v1, P3, F3⟩
      try simp -implicitDefEqProofs only [Sat_ok, Sat_err, Sat_bad, Sat_bind, Sat_ite, W_var, W_vars, W_c, W_nil, W_cons, W_tup, W_lst, W_new, W_bin, W_un, W_fn, W_dfn, W_call, W_callP, W_if, W_isi, W_val, W_setI, W_app, W_pop, W_popAt, W_ins, W_augI, andK_b, orK_b, W_and, W_or, notK_b, W_not, boolK_b, W_tval, W_tnot, W_tand, W_tor, W_tyes, W_mul, W_mod, W_fdiv, W_pow, W_idxT, W_idxL, Sx_next, Sx_seq, Sx_pass, Sx_expr, Sx_set, Sx_ret, Sx_retN, Sx_brk, Sx_cont, Sx_raise, Sx_if, Sx_ite, Sx_par, Sx_par3, Sx_asg, Sx_for, outK_ret, outK_err, outK_brk, outK_cont, loopK_ret, loopK_err, loopK_brk, loopK_cont, W_rng1, rngK_i, W_rng2, rngK2_i, W_seq, seqK_t, seqK_l, W_enumA, enumK_t, enumK_l, W_zip2, oCat_i, oSub_i, oNeg_i, oLt_i, oLe_i, oGt_i, oGe_i, oInt_i, oAbs_i, oMax2_i, oMin2_i, oGcd_i, oIsN_ap, oNotN_ap, oEq_i, oNe_i, oNe_b, oEq_b, gTup_ap, gAll_cons, gNm_ap, gAll_nil, List.set, decide_eq_true_eq, if_true, if_false, Bool.not_eq_true, Bool.not_eq_true', Bool.false_eq_true, true_and, and_true, Option.some.injEq, exists_eq_left', exists_eq_left, beq_iff_eq, beq_eq_false_iff_ne, optR_some, R.bind, W_lc, atI_c0, atI_c1, atI_c2]
      obtain ⟨x, hx, m, rfl, m1, m2⟩ := at2 (a := .int 3) (b := .int 999) v0 v1 (Q := fun d => ∃ m : Int, d = .int m ∧ 1 ≤ m ∧ m ≤ 999) ⟨3, rfl, by decide, by decide⟩ ⟨_, rfl, by decide, by decide⟩
      refine ⟨_, hx, ?_⟩
      refine Sat_use0 (drawn_ok P3 m1 m2) ?_
      rintro _ S4 ⟨x, rfl, hx, P4, F4⟩
      refine Sat_use0 (right_ok P4 hf hg hx) ?_
      rintro _ S5 ⟨rfl, P5, F5⟩
      try simp -implicitDefEqProofs only [Sat_ok, Sat_err, Sat_bad, Sat_bind, Sat_ite, W_var, W_vars, W_c, W_nil, W_cons, W_tup, W_lst, W_new, W_bin, W_un, W_fn, W_dfn, W_call, W_callP, W_if, W_isi, W_val, W_setI, W_app, W_pop, W_popAt, W_ins, W_augI, andK_b, orK_b, W_and, W_or, notK_b, W_not, boolK_b, W_tval, W_tnot, W_tand, W_tor, W_tyes, W_mul, W_mod, W_fdiv, W_pow, W_idxT, W_idxL, Sx_next, Sx_seq, Sx_pass, Sx_expr, Sx_set, Sx_ret, Sx_retN, Sx_brk, Sx_cont, Sx_raise, Sx_if, Sx_ite, Sx_par, Sx_par3, Sx_asg, Sx_for, outK_ret, outK_err, outK_brk, outK_cont, loopK_ret, loopK_err, loopK_brk, loopK_cont, W_rng1, rngK_i, W_rng2, rngK2_i, W_seq, seqK_t, seqK_l, W_enumA, enumK_t, enumK_l, W_zip2, oCat_i, oSub_i, oNeg_i, oLt_i, oLe_i, oGt_i, oGe_i, oInt_i, oAbs_i, oMax2_i, oMin2_i, oGcd_i, oIsN_ap, oNotN_ap, oEq_i, oNe_i, oNe_b, oEq_b, gTup_ap, gAll_cons, gNm_ap, gAll_nil, List.set, decide_eq_true_eq, if_true, if_false, Bool.not_eq_true, Bool.not_eq_true', Bool.false_eq_true, true_and, and_true, Option.some.injEq, exists_eq_left', exists_eq_left, beq_iff_eq, beq_eq_false_iff_ne, optR_some, R.bind, W_lc, atI_c0, atI_c1, atI_c2]
      exact ⟨fun h => (by cases h), fun _ => ⟨P5, _, rfl⟩⟩
    · rintro e U ⟨PU, o, rfl⟩
      try simp -implicitDefEqProofs only [Sat_ok, Sat_err, Sat_bad, Sat_bind, Sat_ite, W_var, W_vars, W_c, W_nil, W_cons, W_tup, W_lst, W_new, W_bin, W_un, W_fn, W_dfn, W_call, W_callP, W_if, W_isi, W_val, W_setI, W_app, W_pop, W_popAt, W_ins, W_augI, andK_b, orK_b, W_and, W_or, notK_b, W_not, boolK_b, W_tval, W_tnot, W_tand, W_tor, W_tyes, W_mul, W_mod, W_fdiv, W_pow, W_idxT, W_idxL, Sx_next, Sx_seq, Sx_pass, Sx_expr, Sx_set, Sx_ret, Sx_retN, Sx_brk, Sx_cont, Sx_raise, Sx_if, Sx_ite, Sx_par, Sx_par3, Sx_asg, Sx_for, outK_ret, outK_err, outK_brk, outK_cont, loopK_ret, loopK_err, loopK_brk, loopK_cont, W_rng1, rngK_i, W_rng2, rngK2_i, W_seq, seqK_t, seqK_l, W_enumA, enumK_t, enumK_l, W_zip2, oCat_i, oSub_i, oNeg_i, oLt_i, oLe_i, oGt_i, oGe_i, oInt_i, oAbs_i, oMax2_i, oMin2_i, oGcd_i, oIsN_ap, oNotN_ap, oEq_i, oNe_i, oNe_b, oEq_b, gTup_ap, gAll_cons, gNm_ap, gAll_nil, List.set, decide_eq_true_eq, if_true, if_false, Bool.not_eq_true, Bool.not_eq_true', Bool.false_eq_true, true_and, and_true, Option.some.injEq, exists_eq_left', exists_eq_left, beq_iff_eq, beq_eq_false_iff_ne, optR_some, R.bind, W_lc, atI_c0, atI_c1, atI_c2]
  rw [c32]
  cases q : runBody (d32 (calls (n + 5))) 3 [.fls ns] [] with
  | ok d T =>
    rw [q] at h
    have : d = .bl true := h
    subst this
    have := tidy_no (S := []) (T := T) (d := .bl true) rfl
    rw [List.nil_append] at this
    exact ⟨_, this⟩
  | err c v T => rw [q] at h; exact h.elim
  | bad => rw [q] at h; exact h.elim
theorem all_holds : PySem.Challenge.rw_wholerates_k04_whole_sums_products_power.Holds := holds_of 6 ⟨rfl, by decide, by decide⟩ fun ns hl => law_ok hl
end K04

theorem PySem.Challenge.cw_wholerates_k04_whole_sums_products_power_holds : PySem.Challenge.rw_wholerates_k04_whole_sums_products_power.Holds := by
  exact K04.all_holds
