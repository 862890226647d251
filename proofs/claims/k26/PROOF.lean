import PyProof.Rows.All
import Wide.All
import OpenK.AllK
import Wide.FinOn
import HandS.ForMost
import HandS.Style
import HandS.TupAny
import HandS.Zip
import HandS.Conv
import HandS.SortInts
import HandS.SetFor
import HandS.Strs
import HandS.IsInst
import HandS.Wide
import HandS.DictComp
import HandS.Star
import KE.KDictKeyed
import PyProof.AutoSeq1
import KE.KIndexOf
import PyProof.FactsAll.tuple_0
import PyProof.FactsAll.tuple_2
import PyProof.FactsAll.list_0
import PyProof.FactsAll.list_3
import KE.GoesMore
import KE.KRevSl
import HandS.RaiseMore
import PyProof.MaxThree
import PyProof.Rows.SetFrom
import KE.KDictZip
import KE.KDictDisplayH
import PyProof.DictTable
import PySem.Challenge.RW_fewestpours_k26_whole_digits_both_ways
set_option linter.all false
set_option Elab.async false
set_option maxRecDepth 100000
set_option maxHeartbeats 0
/-! KxD: a small evaluator over plain data, in core Lean alone: data D, states S, and for each construct of the program a function on states.
    Each function is total; none (bad) means: not served, so nothing is said. Written with recursors: the kernel runs it. -/
namespace Kx
noncomputable section

/-- data. lst: a list that nothing changes any more; ref n: the n-th object of the state; rep i: the text of i; ptup: a tuple of which is known that it has no dict of its own -/
inductive D where
  | non | bl (b : Bool) | int (i : Int) | rep (i : Int)
  | tup (xs : List D) | lst (xs : List D)
  | idict (kvs : List (Int × D))
  | ref (n : Nat)
  | ptup (xs : List D)

/-- an object that may change: a list; a dict whose values are all True, by its keys -/
inductive O where
  | lst (xs : List D)
  | kset (ks : List D)

structure S where
  sl : List (Option D)
  h : List (Nat × O)
  nx : Nat

/-- what a statement comes to -/
inductive R where
  | bad | nx (s : S) | rt (d : D) (s : S)

abbrev Ex := S → Option D
abbrev Tx := S → Option Bool
abbrev Lx := S → Option (List D)
abbrev Ax := S → Option (D × S)
abbrev Sx := S → R

/-! ### choices -/
def dC {β : Type} (d : D) (n : β) (fb : Bool → β) (fi : Int → β) (fr : Int → β) (ft fl : List D → β) (fd : List (Int × D) → β) (fR : Nat → β) (fp : List D → β) : β := @D.casesOn (fun _ => β) d n fb fi fr ft fl fd fR fp
section
variable {α β : Type}
def oB (o : Option α) (f : α → Option β) : Option β := @Option.rec α (fun _ => Option β) none f o
def ck (b : Bool) (o : Option β) : Option β := @Bool.rec (fun _ => Option β) none o b
def gB (d : D) (f : Bool → Option β) : Option β := dC d none f (fun _ => none) (fun _ => none) (fun _ => none) (fun _ => none) (fun _ => none) (fun _ => none) (fun _ => none)
def gI (d : D) (f : Int → Option β) : Option β := dC d none (fun _ => none) f (fun _ => none) (fun _ => none) (fun _ => none) (fun _ => none) (fun _ => none) (fun _ => none)
def gT (d : D) (f : List D → Option β) : Option β := dC d none (fun _ => none) (fun _ => none) (fun _ => none) f (fun _ => none) (fun _ => none) (fun _ => none) (fun _ => none)
def gL (d : D) (f : List D → Option β) : Option β := dC d none (fun _ => none) (fun _ => none) (fun _ => none) (fun _ => none) f (fun _ => none) (fun _ => none) (fun _ => none)
def gD (d : D) (f : List (Int × D) → Option β) : Option β := dC d none (fun _ => none) (fun _ => none) (fun _ => none) (fun _ => none) (fun _ => none) f (fun _ => none) (fun _ => none)
def gR (d : D) (f : Nat → Option β) : Option β := dC d none (fun _ => none) (fun _ => none) (fun _ => none) (fun _ => none) (fun _ => none) (fun _ => none) f (fun _ => none)
theorem oB_some {o : Option α} {f : α → Option β} {r : β} (h : oB o f = some r) : ∃ x, o = some x ∧ f x = some r := by
  cases o with
  | none => cases h
  | some x => exact ⟨x, rfl, h⟩
theorem ck_some {b : Bool} {o : Option β} {r : β} (h : ck b o = some r) : b = true ∧ o = some r := by
  cases b with
  | false => cases h
  | true => exact ⟨rfl, h⟩
theorem gB_some {d : D} {f : Bool → Option β} {r : β} (h : gB d f = some r) : ∃ x, d = .bl x ∧ f x = some r := by
  cases d <;> first | (cases h; done) | exact ⟨_, rfl, h⟩
theorem gI_some {d : D} {f : Int → Option β} {r : β} (h : gI d f = some r) : ∃ x, d = .int x ∧ f x = some r := by
  cases d <;> first | (cases h; done) | exact ⟨_, rfl, h⟩
theorem gT_some {d : D} {f : List D → Option β} {r : β} (h : gT d f = some r) : ∃ x, d = .tup x ∧ f x = some r := by
  cases d <;> first | (cases h; done) | exact ⟨_, rfl, h⟩
theorem gL_some {d : D} {f : List D → Option β} {r : β} (h : gL d f = some r) : ∃ x, d = .lst x ∧ f x = some r := by
  cases d <;> first | (cases h; done) | exact ⟨_, rfl, h⟩
theorem gD_some {d : D} {f : List (Int × D) → Option β} {r : β} (h : gD d f = some r) : ∃ x, d = .idict x ∧ f x = some r := by
  cases d <;> first | (cases h; done) | exact ⟨_, rfl, h⟩
def gP (d : D) (f : List D → Option β) : Option β := dC d none (fun _ => none) (fun _ => none) (fun _ => none) (fun _ => none) (fun _ => none) (fun _ => none) (fun _ => none) f
theorem gP_some {d : D} {f : List D → Option β} {r : β} (h : gP d f = some r) : ∃ x, d = .ptup x ∧ f x = some r := by
  cases d <;> first | (cases h; done) | exact ⟨_, rfl, h⟩
theorem gR_some {d : D} {f : Nat → Option β} {r : β} (h : gR d f = some r) : ∃ x, d = .ref x ∧ f x = some r := by
  cases d <;> first | (cases h; done) | exact ⟨_, rfl, h⟩
end
/-- .. into statements' ends -/
def oR {α : Type} (o : Option α) (f : α → R) : R := @Option.rec α (fun _ => R) .bad f o
def bR (b : Bool) (x y : R) : R := @Bool.rec (fun _ => R) y x b
def nxB (r : R) (f : S → R) : R := @R.rec (fun _ => R) .bad f .rt r
/-- ended well -/
def R.good : R → Prop
  | .bad => False
  | _ => True
theorem oR_good {α : Type} {o : Option α} {f : α → R} {r : R} (h : oR o f = r) (g : r.good) : ∃ x, o = some x ∧ f x = r := by
  cases o with
  | none => subst h; exact g.elim
  | some x => exact ⟨x, rfl, h⟩

/-! ### lists by recursors -/
section
variable {α : Type}
/-- how many -/
def len (l : List α) : Nat := @List.rec α (fun _ => Nat) 0 (fun _ _ ih => Nat.succ ih) l
/-- the n-th -/
def nth (l : List α) (n : Nat) : Option α := @List.rec α (fun _ => Nat → Option α) (fun _ => none) (fun x _ ih n => @Nat.rec (fun _ => Option α) (some x) (fun m _ => ih m) n) l n
def app (l r : List α) : List α := @List.rec α (fun _ => List α) r (fun x _ ih => x :: ih) l
def stl (l : List α) (n : Nat) (v : α) : List α := @List.rec α (fun _ => Nat → List α) (fun _ => []) (fun x r ih n => @Nat.rec (fun _ => List α) (v :: r) (fun m _ => x :: ih m) n) l n
def drp (l : List α) (n : Nat) : List α := @List.rec α (fun _ => Nat → List α) (fun _ => []) (fun x r ih n => @Nat.rec (fun _ => List α) (x :: r) (fun m _ => ih m) n) l n
def tak (l : List α) (n : Nat) : List α := @List.rec α (fun _ => Nat → List α) (fun _ => []) (fun x _ ih n => @Nat.rec (fun _ => List α) [] (fun m _ => x :: ih m) n) l n
def rvs (l : List α) (a : List α) : List α := @List.rec α (fun _ => List α → List α) (fun a => a) (fun x _ ih a => ih (x :: a)) l a
theorem len_eq : ∀ l : List α, len l = l.length
  | [] => rfl
  | _ :: r => congrArg Nat.succ (len_eq r)
theorem nth_eq : ∀ (l : List α) (n : Nat), nth l n = l[n]?
  | [], _ => rfl
  | _ :: _, 0 => rfl
  | _ :: r, n + 1 => (nth_eq r n).trans (by rw [List.getElem?_cons_succ])
theorem app_eq : ∀ l r : List α, app l r = l ++ r
  | [], _ => rfl
  | x :: l, r => congrArg (x :: ·) (app_eq l r)
theorem stl_eq : ∀ (l : List α) (n : Nat) (v : α), stl l n v = l.set n v
  | [], _, _ => rfl
  | _ :: _, 0, _ => rfl
  | x :: l, n + 1, v => congrArg (x :: ·) (stl_eq l n v)
theorem drp_eq : ∀ (l : List α) (n : Nat), drp l n = l.drop n
  | [], n => by cases n <;> rfl
  | _ :: _, 0 => rfl
  | _ :: l, n + 1 => drp_eq l n
theorem tak_eq : ∀ (l : List α) (n : Nat), tak l n = l.take n
  | [], n => by cases n <;> rfl
  | _ :: _, 0 => rfl
  | x :: l, n + 1 => congrArg (x :: ·) (tak_eq l n)
theorem rvs_eq : ∀ l a : List α, rvs l a = l.reverse ++ a
  | [], _ => rfl
  | x :: l, a => (rvs_eq l (x :: a)).trans (by simp)
end

/-! ### slots, objects -/
def getS (l : List (Option D)) (n : Nat) : Option D := @List.rec (Option D) (fun _ => Nat → Option D) (fun _ => none) (fun x _ ih n => @Nat.rec (fun _ => Option D) x (fun m _ => ih m) n) l n
def getO (l : List (Nat × O)) (n : Nat) : Option O := @List.rec (Nat × O) (fun _ => Option O) none (fun p _ ih => @Bool.rec (fun _ => Option O) ih (some p.2) (Nat.beq p.1 n)) l
def putO (l : List (Nat × O)) (n : Nat) (o : O) : List (Nat × O) := @List.rec (Nat × O) (fun _ => List (Nat × O)) [] (fun p r ih => @Bool.rec (fun _ => List (Nat × O)) (p :: ih) ((n, o) :: r) (Nat.beq p.1 n)) l
def delO (l : List (Nat × O)) (n : Nat) : List (Nat × O) := @List.rec (Nat × O) (fun _ => List (Nat × O)) [] (fun p r ih => @Bool.rec (fun _ => List (Nat × O)) (p :: ih) ih (Nat.beq p.1 n)) l
def S.put (s : S) (i : Nat) (d : D) : S := ⟨stl s.sl i (some d), s.h, s.nx⟩
def S.new (s : S) (o : O) : S := ⟨s.sl, (s.nx, o) :: s.h, Nat.succ s.nx⟩
def S.sto (s : S) (n : Nat) (o : O) : S := ⟨s.sl, putO s.h n o, s.nx⟩
def S.del (s : S) (n : Nat) : S := ⟨s.sl, delO s.h n, s.nx⟩

/-- no reference -/
def cl (d : D) : Bool := dC d true (fun _ => true) (fun _ => true) (fun _ => true) (fun _ => true) (fun _ => true) (fun _ => true) (fun _ => false) (fun _ => true)
def clAll (l : List D) : Bool := @List.rec D (fun _ => Bool) true (fun x _ ih => @Bool.rec (fun _ => Bool) false ih (cl x)) l

/-- the list that a reference means -/
def lstO {β : Type} (s : S) (n : Nat) (f : List D → Option β) : Option β := oB (getO s.h n) fun o => @O.casesOn (fun _ => Option β) o f (fun _ => none)
def ksO {β : Type} (s : S) (n : Nat) (f : List D → Option β) : Option β := oB (getO s.h n) fun o => @O.casesOn (fun _ => Option β) o (fun _ => none) f
/-- the items of a list or a tuple -/
def items (s : S) (d : D) : Option (List D) := dC d none (fun _ => none) (fun _ => none) (fun _ => none) some some (fun _ => none) (fun n => lstO s n some) some
/-- .. all without references -/
def itemsC (s : S) (d : D) : Option (List D) := dC d none (fun _ => none) (fun _ => none) (fun _ => none) some some (fun _ => none) (fun n => lstO s n fun xs => ck (clAll xs) (some xs)) some
/-- the items of a list, all without references -/
def listC (s : S) (d : D) : Option (List D) := dC d none (fun _ => none) (fun _ => none) (fun _ => none) (fun _ => none) some (fun _ => none) (fun n => lstO s n fun xs => ck (clAll xs) (some xs)) (fun _ => none)

/-! ### intsD -/
def onI {β : Type} (i j : Int) (f : Nat → Nat → β) (g : β) : β := @Int.casesOn (fun _ => β) i (fun a => @Int.casesOn (fun _ => β) j (fun b => f a b) (fun _ => g)) (fun _ => g)
def addI (i j : Int) : Int := onI i j (fun a b => .ofNat (Nat.add a b)) (i + j)
def subI (i j : Int) : Int := onI i j (fun a b => @Bool.rec (fun _ => Int) (i - j) (.ofNat (Nat.sub a b)) (Nat.ble b a)) (i - j)
def mulI (i j : Int) : Int := onI i j (fun a b => .ofNat (Nat.mul a b)) (i * j)
def divI (i j : Int) : Int := onI i j (fun a b => .ofNat (Nat.div a b)) (i / j)
def modI (i j : Int) : Int := onI i j (fun a b => .ofNat (Nat.mod a b)) (i % j)
def ltI (i j : Int) : Bool := onI i j Nat.blt (decide (i < j))
def leI (i j : Int) : Bool := onI i j Nat.ble (decide (i ≤ j))
def eqI (i j : Int) : Bool := onI i j Nat.beq (decide (i = j))
theorem addI_eq (i j : Int) : addI i j = i + j := by cases i <;> cases j <;> rfl
theorem mulI_eq (i j : Int) : mulI i j = i * j := by cases i <;> cases j <;> rfl
theorem divI_eq (i j : Int) : divI i j = i / j := by cases i <;> cases j <;> rfl
theorem modI_eq (i j : Int) : modI i j = i % j := by cases i <;> cases j <;> rfl
theorem subI_eq (i j : Int) : subI i j = i - j := by
  cases i with
  | ofNat a => cases j with
    | ofNat b =>
      show @Bool.rec (fun _ => Int) (Int.ofNat a - Int.ofNat b) (.ofNat (Nat.sub a b)) (Nat.ble b a) = Int.ofNat a - Int.ofNat b
      cases h : Nat.ble b a with
      | false => rfl
      | true =>
        have h1 : b ≤ a := Nat.le_of_ble_eq_true h
        show Int.ofNat (a - b) = Int.ofNat a - Int.ofNat b
        exact Int.ofNat_sub h1
    | negSucc b => rfl
  | negSucc a => cases j <;> rfl
theorem ltI_eq (i j : Int) : ltI i j = decide (i < j) := by
  cases i with
  | ofNat a => cases j with
    | ofNat b =>
      show Nat.blt a b = decide ((a : Int) < (b : Int))
      rw [Bool.eq_iff_iff]
      simp [Nat.blt_eq]
    | negSucc b => rfl
  | negSucc a => cases j <;> rfl
theorem leI_eq (i j : Int) : leI i j = decide (i ≤ j) := by
  cases i with
  | ofNat a => cases j with
    | ofNat b =>
      show Nat.ble a b = decide ((a : Int) ≤ (b : Int))
      rw [Bool.eq_iff_iff]
      simp [Nat.ble_eq]
    | negSucc b => rfl
  | negSucc a => cases j <;> rfl
theorem eqI_eq (i j : Int) : eqI i j = decide (i = j) := by
  cases i with
  | ofNat a => cases j with
    | ofNat b =>
      show Nat.beq a b = decide ((a : Int) = (b : Int))
      rw [Bool.eq_iff_iff]
      rw [Nat.beq_eq, decide_eq_true_eq]
      exact Int.ofNat_inj.symm
    | negSucc b => rfl
  | negSucc a => cases j <;> rfl
/-- within a million either way -/
def okI (i : Int) : Bool := @Int.casesOn (fun _ => Bool) i (fun a => Nat.ble a 1000000) (fun a => Nat.ble a 1000000)
/-- from 0 on, below 2 ^ 3000 -/
def okW (i : Int) : Bool := @Int.casesOn (fun _ => Bool) i (fun a => Nat.ble a (2 ^ 3000)) (fun _ => false)
def toN (i : Int) : Nat := @Int.casesOn (fun _ => Nat) i (fun a => a) (fun _ => 0)
def short {α : Type} (xs : List α) : Bool := Nat.ble (len xs) 20000
/-- the place that an index means -/
def atD (xs : List D) (i : Int) : Option D := @Int.casesOn (fun _ => Option D) i (fun n => nth xs n) (fun n => ck (Nat.blt n (len xs)) (nth xs (Nat.sub (len xs) (Nat.succ n))))

/-! ### == of data -/
def allB (f : D → Bool) (l : List D) : Bool := @List.rec D (fun _ => Bool) true (fun x _ ih => @Bool.rec (fun _ => Bool) false ih (f x)) l
/-- None, ints, and tuples and lists of such -/
def pyOk (k : Nat) (d : D) : Bool := @Nat.rec (fun _ => D → Bool) (fun _ => false) (fun _ ih d => dC d true (fun _ => false) (fun _ => true) (fun _ => false) (fun xs => allB ih xs) (fun xs => allB ih xs) (fun _ => false) (fun _ => false) (fun _ => false)) k d
def isE {α : Type} (l : List α) : Bool := @List.casesOn α (fun _ => Bool) l true (fun _ _ => false)
def eqL (f : D → D → Bool) (xs ys : List D) : Bool := @List.rec D (fun _ => List D → Bool) (fun ys => isE ys)
  (fun x _ ih ys => @List.casesOn D (fun _ => Bool) ys false (fun y r => @Bool.rec (fun _ => Bool) false (ih r) (f x y))) xs ys
def eqT (k : Nat) (x y : D) : Bool := @Nat.rec (fun _ => D → D → Bool) (fun _ _ => false) (fun _ ih x y =>
  dC x (dC y true (fun _ => false) (fun _ => false) (fun _ => false) (fun _ => false) (fun _ => false) (fun _ => false) (fun _ => false) (fun _ => false)) (fun _ => false)
    (fun i => dC y false (fun _ => false) (fun j => eqI i j) (fun _ => false) (fun _ => false) (fun _ => false) (fun _ => false) (fun _ => false) (fun _ => false)) (fun _ => false)
    (fun a => dC y false (fun _ => false) (fun _ => false) (fun _ => false) (fun b => eqL ih a b) (fun _ => false) (fun _ => false) (fun _ => false) (fun _ => false))
    (fun a => dC y false (fun _ => false) (fun _ => false) (fun _ => false) (fun _ => false) (fun b => eqL ih a b) (fun _ => false) (fun _ => false) (fun _ => false)) (fun _ => false) (fun _ => false) (fun _ => false)) k x y
def eqD (k : Nat) (x y : D) : Option Bool := ck (pyOk k x) (ck (pyOk k y) (some (eqT k x y)))

/-! ### expressions -/
def eVar (i : Nat) : Ex := fun s => getS s.sl i
def eC (d : D) : Ex := fun _ => some d
def eB (f : S → D → D → Option D) (a b : Ex) : Ex := fun s => oB (a s) fun x => oB (b s) fun y => f s x y
def eU (f : S → D → Option D) (a : Ex) : Ex := fun s => oB (a s) fun x => f s x
/-- + of intsD, tuples, lists -/
def fAdd (s : S) (x y : D) : Option D := dC x none (fun _ => none) (fun i => gI y fun j => some (.int (addI i j))) (fun _ => none) (fun a => gT y fun b => ck (short a) (ck (short b) (some (.tup (app a b))))) (fun a => oB (listC s y) fun b => ck (short a) (ck (short b) (some (.lst (app a b))))) (fun _ => none) (fun n => oB (listC s (.ref n)) fun a => oB (listC s y) fun b => ck (short a) (ck (short b) (some (.lst (app a b))))) (fun _ => none)
def fSub (_ : S) (x y : D) : Option D := gI x fun i => gI y fun j => some (.int (subI i j))
def fMul (_ : S) (x y : D) : Option D := gI x fun i => gI y fun j => @Bool.rec (fun _ => Option D) (ck (okW i) (ck (okW j) (some (.int (mulI i j))))) (some (.int (mulI i j))) (okI j)
def fDiv (_ : S) (x y : D) : Option D := gI x fun i => gI y fun j => ck (okI j) (ck (ltI 0 j) (some (.int (divI i j))))
def fMod (_ : S) (x y : D) : Option D := gI x fun i => gI y fun j => ck (ltI 0 j) (some (.int (modI i j)))
def eAdd := eB fAdd
def eSub := eB fSub
def eMul := eB fMul
def eDiv := eB fDiv
def eMod := eB fMod
def fLt (_ : S) (x y : D) : Option D := gI x fun i => gI y fun j => some (.bl (ltI i j))
def fGt (_ : S) (x y : D) : Option D := gI x fun i => gI y fun j => some (.bl (ltI j i))
def fGe (_ : S) (x y : D) : Option D := gI x fun i => gI y fun j => some (.bl (leI j i))
def fEq (_ : S) (x y : D) : Option D := oB (eqD 7 x y) fun b => some (.bl b)
def fNe (_ : S) (x y : D) : Option D := oB (eqD 7 x y) fun b => some (.bl (!b))
/-- != of the texts of two intsD, if these are the same -/
def fNeR (_ : S) (x y : D) : Option D := dC x none (fun _ => none) (fun _ => none) (fun i => dC y none (fun _ => none) (fun _ => none) (fun j => ck (eqI i j) (some (.bl false))) (fun _ => none) (fun _ => none) (fun _ => none) (fun _ => none) (fun _ => none)) (fun _ => none) (fun _ => none) (fun _ => none) (fun _ => none) (fun _ => none)
def eLt := eB fLt
def eGt := eB fGt
def eGe := eB fGe
def eEq := eB fEq
def eNe := eB fNe
def eNeR := eB fNeR
def isN (d : D) : Bool := dC d true (fun _ => false) (fun _ => false) (fun _ => false) (fun _ => false) (fun _ => false) (fun _ => false) (fun _ => false) (fun _ => false)
def fIs (_ : S) (x : D) : Option D := some (.bl (isN x))
def fIsNot (_ : S) (x : D) : Option D := some (.bl (!isN x))
def eIs := eU fIs
def eIsNot := eU fIsNot
/-- all intsD -/
def intsD (l : List D) : Option (List Int) := @List.rec D (fun _ => Option (List Int)) (some []) (fun x _ ih => gI x fun i => oB ih fun ns => some (i :: ns)) l
def memI (i : Int) (l : List Int) : Bool := @List.rec Int (fun _ => Bool) false (fun j _ ih => @Bool.rec (fun _ => Bool) ih true (eqI j i)) l
/-- an int among intsD -/
def fNotIn (s : S) (x y : D) : Option D := gI x fun i => oB (items s y) fun xs => oB (intsD xs) fun ns => some (.bl (!memI i ns))
def eNotIn := eB fNotIn
/-- a tuple among a dict's keys -/
def inK (k : D) (l : List D) : Bool := @List.rec D (fun _ => Bool) false (fun x _ ih => @Bool.rec (fun _ => Bool) ih true (eqT 4 x k)) l
/-- a key: tuples of intsD or of keys -/
def keyOk (k : Nat) (d : D) : Bool := @Nat.rec (fun _ => D → Bool) (fun _ => false) (fun _ ih d =>
  dC d false (fun _ => false) (fun _ => true) (fun _ => false) (fun xs => allB ih xs) (fun _ => false) (fun _ => false) (fun _ => false) (fun _ => false)) k d
def fNotInK (s : S) (x y : D) : Option D := gT x fun _ => gR y fun n => ksO s n fun ks => ck (keyOk 4 x) (some (.bl (!inK x ks)))
def eNotInK := eB fNotInK

/-- a test's value -/
def tV (e : Ex) : Tx := fun s => oB (e s) fun d => gB d some
def tAnd (a b : Tx) : Tx := fun s => oB (a s) fun c => @Bool.rec (fun _ => Option Bool) (some false) (b s) c
def tOr (a b : Tx) : Tx := fun s => oB (a s) fun c => @Bool.rec (fun _ => Option Bool) (b s) (some true) c
def tNot (a : Tx) : Tx := fun s => oB (a s) fun c => some (!c)
/-- a list's truth -/
def tTru (e : Ex) : Tx := fun s => oB (e s) fun d => oB (items s d) fun xs => some (!isE xs)
def eOr (a b : Ex) : Ex := fun s => oB (a s) fun d => gB d fun c => @Bool.rec (fun _ => Option D) (oB (b s) fun d => gB d fun c => some (.bl c)) (some (.bl true)) c
def eIf (t : Tx) (a b : Ex) : Ex := fun s => oB (t s) fun c => @Bool.rec (fun _ => Option D) (b s) (a s) c

/-! ### arguments, calls -/
def eArgs (es : List Ex) (s : S) : Option (List D) := @List.rec Ex (fun _ => Option (List D)) (some []) (fun e _ ih => oB (e s) fun x => oB ih fun xs => some (x :: xs)) es
abbrev Fn := List D → Option D
def eCall (f : Fn) (es : List Ex) : Ex := fun s => oB (eArgs es s) fun xs => ck (clAll xs) (f xs)
def fLen (s : S) (x : D) : Option D := oB (items s x) fun xs => some (.int (.ofNat (len xs)))
def eLen := eU fLen
/-- tuple(xs) -/
def fTuple (s : S) (x : D) : Option D := oB (itemsC s x) fun xs => some (.tup xs)
def eTuple := eU fTuple
/-- tuple(xs) of a list, with what is known of it -/
def fPTuple (s : S) (x : D) : Option D := oB (listC s x) fun xs => some (.ptup xs)
def ePTuple := eU fPTuple
def insI (i : Int) (l : List Int) : List Int := @List.rec Int (fun _ => List Int) [i] (fun j r ih => @Bool.rec (fun _ => List Int) (j :: ih) (i :: j :: r) (leI i j)) l
def srtI (l : List Int) : List Int := @List.rec Int (fun _ => List Int) [] (fun i _ ih => insI i ih) l
def dedI (l : List Int) : List Int := @List.rec Int (fun _ => List Int) [] (fun i r ih => @Bool.rec (fun _ => List Int) (i :: ih) ih (memI i r)) l
def ofI (l : List Int) : List D := @List.rec Int (fun _ => List D) [] (fun i _ ih => .int i :: ih) l
/-- sorted(xs), intsD -/
def lU (f : S → D → Option (List D)) (a : Ex) : Lx := fun s => oB (a s) fun x => f s x
def fSorted (s : S) (x : D) : Option (List D) := oB (items s x) fun xs => oB (intsD xs) fun ns => ck (Nat.blt (len ns) 64) (some (ofI (srtI ns)))
def lSorted := lU fSorted
/-- sorted(set(xs)), intsD -/
def fSortedSet (s : S) (x : D) : Option (List D) := oB (items s x) fun xs => oB (intsD xs) fun ns => ck (Nat.blt (len ns) 64) (some (ofI (srtI (dedI ns))))
def lSortedSet := lU fSortedSet
/-- len(set(xs)) of a tuple of intsD -/
def fLenSet (_ : S) (x : D) : Option D := gT x fun xs => oB (intsD xs) fun ns => ck (Nat.blt (len ns) 64) (some (.int (.ofNat (len (dedI ns)))))
def eLenSet := eU fLenSet
def minI (i : Int) (l : List Int) : Int := @List.rec Int (fun _ => Int → Int) (fun i => i) (fun j _ ih i => ih (@Bool.rec (fun _ => Int) i j (ltI j i))) l i
def fMin2 (_ : S) (x y : D) : Option D := gI x fun i => gI y fun j => some (.int (@Bool.rec (fun _ => Int) i j (ltI j i)))
def eMin2 := eB fMin2
def hdI {β : Type} (l : List Int) (f : Int → List Int → Option β) : Option β := @List.casesOn Int (fun _ => Option β) l none f
def eMin4 (a b c d : Ex) : Ex := fun s => oB (eArgs [a, b, c, d] s) fun xs => oB (intsD xs) fun ns => hdI ns fun i r => some (.int (minI i r))
def fMinL (s : S) (x : D) : Option D := oB (listC s x) fun xs => oB (intsD xs) fun ns => hdI ns fun i r => some (.int (minI i r))
def eMinL := eU fMinL
def sumI (l : List Int) : Int := @List.rec Int (fun _ => Int) 0 (fun i _ ih => addI i ih) l
def fSum (s : S) (x : D) : Option D := oB (listC s x) fun xs => oB (intsD xs) fun ns => some (.int (sumI ns))
def eSum := eU fSum
def fInt (_ : S) (x : D) : Option D := gI x fun i => some (.int i)
def eInt := eU fInt
def fRepr (_ : S) (x : D) : Option D := gI x fun i => ck (okI i) (some (.rep i))
def eRepr := eU fRepr
/-- isinstance(x, tuple), x a tuple -/
def fIsTup (_ : S) (x : D) : Option D := gT x fun _ => some (.bl true)
def eIsTup := eU fIsTup

/-! ### subscripts, slices -/
def lookD (k : Int) (l : List (Int × D)) : Option D := @List.rec (Int × D) (fun _ => Option D) none (fun p _ ih => @Bool.rec (fun _ => Option D) ih (some p.2) (eqI p.1 k)) l
def fIx (s : S) (x y : D) : Option D := gI y fun i => dC x none (fun _ => none) (fun _ => none) (fun _ => none) (fun xs => atD xs i) (fun xs => atD xs i) (fun kvs => lookD i kvs) (fun n => lstO s n fun xs => atD xs i) (fun xs => atD xs i)
def eIx := eB fIx
/-- d.get(k, e) -/
def eGet (d k e : Ex) : Ex := fun s => oB (d s) fun x => gD x fun kvs => oB (k s) fun y => gI y fun i => oB (e s) fun z => some (@Option.rec D (fun _ => D) z (fun v => v) (lookD i kvs))
/-- a place of a slice, within the length n; d where it is left out -/
def sIx (n d : Nat) (o : Option Int) : Nat := @Option.rec Int (fun _ => Nat) d (fun i => @Int.casesOn (fun _ => Nat) i (fun a => @Bool.rec (fun _ => Nat) n a (Nat.ble a n)) (fun a => Nat.sub n (Nat.succ a))) o
def cut (xs : List D) (lo hi : Option Int) : List D := tak (drp xs (sIx (len xs) 0 lo)) (Nat.sub (sIx (len xs) (len xs) hi) (sIx (len xs) 0 lo))
def part (e : Option Ex) (s : S) : Option (Option Int) := @Option.rec Ex (fun _ => Option (Option Int)) (some none) (fun e => oB (e s) fun x => gI x fun i => some (some i)) e
/-- a[lo:hi] -/
def eSl (a : Ex) (lo hi : Option Ex) : Ex := fun s => oB (a s) fun x => oB (part lo s) fun l => oB (part hi s) fun u =>
  dC x none (fun _ => none) (fun _ => none) (fun _ => none) (fun xs => some (.tup (cut xs l u))) (fun xs => some (.lst (cut xs l u))) (fun _ => none) (fun n => oB (listC s (.ref n)) fun xs => some (.lst (cut xs l u))) (fun xs => some (.tup (cut xs l u)))
/-- t[::-1] of a tuple -/
def fRevT (_ : S) (x : D) : Option D := gT x fun xs => some (.tup (rvs xs []))
def eRevT := eU fRevT
def idxI (i : Int) (l : List Int) : Option Nat := @List.rec Int (fun _ => Nat → Option Nat) (fun _ => none) (fun j _ ih n => @Bool.rec (fun _ => Option Nat) (ih (Nat.succ n)) (some n) (eqI j i)) l 0
/-- t.index(i) of a tuple of intsD -/
def fIndex (_ : S) (x y : D) : Option D := gP x fun xs => gI y fun i => oB (intsD xs) fun ns => oB (idxI i ns) fun n => some (.int (.ofNat n))
def eIndex := eB fIndex
def cntI (i : Int) (l : List Int) : Nat := @List.rec Int (fun _ => Nat) 0 (fun j _ ih => @Bool.rec (fun _ => Nat) ih (Nat.succ ih) (eqI j i)) l
def fCount (s : S) (x y : D) : Option D := gI y fun i => oB (listC s x) fun xs => oB (intsD xs) fun ns => some (.int (.ofNat (cntI i ns)))
def eCount := eB fCount

/-! ### displays -/
def eTup (es : List Ex) : Ex := fun s => oB (eArgs es s) fun xs => ck (clAll xs) (ck (short xs) (some (.tup xs)))
def lLst (es : List Ex) : Lx := fun s => oB (eArgs es s) fun xs => ck (clAll xs) (ck (short xs) (some xs))
/-- a list that is kept as it is -/
def eFrz (l : Lx) : Ex := fun s => oB (l s) fun xs => some (.lst xs)
def rg (n : Nat) (i : Int) : List D := @Nat.rec (fun _ => Int → List D) (fun _ => []) (fun _ ih i => .int i :: ih (addI i 1)) n i
/-- what is walked -/
def iRange1 (a : Ex) : Lx := fun s => oB (a s) fun x => gI x fun n => ck (okI n) (some (rg (toN n) 0))
def iRange2 (a b : Ex) : Lx := fun s => oB (a s) fun x => gI x fun i => oB (b s) fun y => gI y fun j => ck (okI i) (ck (okI j) (some (rg (toN (subI j i)) i)))
def iSeq (a : Ex) : Lx := fun s => oB (a s) fun x => dC x none (fun _ => none) (fun _ => none) (fun _ => none) some some (fun _ => none) (fun _ => none) (fun _ => none)
/-- .. a list of the state's too, for comprehensions -/
def iSeqR (a : Ex) : Lx := fun s => oB (a s) fun x => items s x
def enumD (l : List D) : List D := @List.rec D (fun _ => Nat → List D) (fun _ => []) (fun x _ ih n => .tup [.int (.ofNat n), x] :: ih (Nat.succ n)) l 0
def iEnum (a : Ex) : Lx := fun s => oB (iSeq a s) fun xs => some (enumD xs)
def zipD (xs ys : List D) : List D := @List.rec D (fun _ => List D → List D) (fun _ => []) (fun x _ ih ys => @List.casesOn D (fun _ => List D) ys [] (fun y r => .tup [x, y] :: ih r)) xs ys
/-- zip of two tuples, of one length -/
def iZip (a b : Ex) : Lx := fun s => oB (a s) fun x => gT x fun xs => oB (b s) fun y => gT y fun ys => ck (Nat.beq (len xs) (len ys)) (some (zipD xs ys))
def lList := lU itemsC
/-- list(range(n)) -/
def lRange (a : Ex) : Lx := iRange1 a
/-- tuple(range(n)) -/
def eTupRange (a : Ex) : Ex := fun s => oB (iRange1 a s) fun xs => some (.tup xs)
/-- list(zip(xs, ys)) of two lists, one pair at most -/
def lZip (a b : Ex) : Lx := fun s => oB (a s) fun x => gL x fun xs => oB (b s) fun y => gL y fun ys => ck (Nat.ble (len (zipD xs ys)) 1) (some (zipD xs ys))
def repL (d : D) (n : Nat) : List D := @Nat.rec (fun _ => List D) [] (fun _ ih => d :: ih) n
/-- [x] * n -/
def lRep (x : Ex) (a : Ex) : Lx := fun s => oB (x s) fun d => oB (a s) fun y => gI y fun n => ck (okI n) (ck (cl d) (some (repL d (toN n))))
/-- [x, *xs] with xs a list -/
def lStar1 (x l : Ex) : Lx := fun s => oB (x s) fun d => oB (l s) fun y => gL y fun xs => ck (cl d) (ck (short xs) (some (d :: xs)))
/-- [*range(a, b), *range(c)] -/
def lStarR (a b c : Ex) : Lx := fun s => oB (iRange2 a b s) fun xs => oB (iRange1 c s) fun ys => some (app xs ys)

/-! ### comprehensions -/
abbrev Tg := S → D → Option S
def tgt1 (i : Nat) : Tg := fun s x => some (s.put i x)
def two {β : Type} (l : List D) (f : D → D → Option β) : Option β := @List.casesOn D (fun _ => Option β) l none (fun a r => @List.casesOn D (fun _ => Option β) r none (fun b r2 => @List.casesOn D (fun _ => Option β) r2 (f a b) (fun _ _ => none)))
def tgt2 (i j : Nat) : Tg := fun s x => gT x fun xs => two xs fun a b => some ((s.put i a).put j b)
def compGo (tg : Tg) (t : Tx) (e : Ex) (s : S) (l : List D) : Option (List D) := @List.rec D (fun _ => Option (List D)) (some [])
  (fun x _ ih => oB (tg s x) fun s1 => oB (t s1) fun b => @Bool.rec (fun _ => Option (List D)) ih (oB (e s1) fun d => ck (cl d) (oB ih fun ds => some (d :: ds))) b) l
def tYes : Tx := fun _ => some true
def lComp (tg : Tg) (it : Lx) (t : Tx) (e : Ex) : Lx := fun s => oB (it s) fun xs => ck (short xs) (compGo tg t e s xs)
def hasD (k : Int) (l : List (Int × D)) : Bool := @List.rec (Int × D) (fun _ => Bool) false (fun p _ ih => @Bool.rec (fun _ => Bool) ih true (eqI p.1 k)) l
def mapD (k : Int) (v : D) (l : List (Int × D)) : List (Int × D) := @List.rec (Int × D) (fun _ => List (Int × D)) [] (fun p _ ih => @Bool.rec (fun _ => List (Int × D)) (p :: ih) ((p.1, v) :: ih) (eqI p.1 k)) l
def putD (k : Int) (v : D) (l : List (Int × D)) : List (Int × D) := @Bool.rec (fun _ => List (Int × D)) (app l [(k, v)]) (mapD k v l) (hasD k l)
def dictGo (tg : Tg) (k e : Ex) (s : S) (l : List D) (acc : List (Int × D)) : Option (List (Int × D)) := @List.rec D (fun _ => List (Int × D) → Option (List (Int × D))) some
  (fun x _ ih acc => oB (tg s x) fun s1 => oB (k s1) fun y => gI y fun i => oB (e s1) fun d => ck (cl d) (ih (putD i d acc))) l acc
def eDictC (tg : Tg) (it : Lx) (k e : Ex) : Ex := fun s => oB (it s) fun xs => ck (short xs) (oB (dictGo tg k e s xs []) fun kvs => some (.idict kvs))

/-! ### values that are objects of the state -/
def aV (e : Ex) : Ax := fun s => oB (e s) fun d => some (d, s)
def aOwn (l : Lx) : Ax := fun s => oB (l s) fun xs => some (.ref s.nx, s.new (.lst xs))
/-- {k: True} -/
def aKey (e : Ex) : Ax := fun s => oB (e s) fun d => gT d fun _ => ck (keyOk 4 d) (some (.ref s.nx, s.new (.kset [d])))
def rowsGo (n : Nat) (s : S) (acc : List D) : Option (D × S) := @Nat.rec (fun _ => S → List D → Option (D × S)) (fun s acc => some (.ref s.nx, s.new (.lst acc))) (fun _ ih s acc => ih (s.new (.lst [])) (app acc [.ref s.nx])) n s acc
/-- [[] for x in range(n)] -/
def aRows (n : Ex) : Ax := fun s => oB (n s) fun x => gI x fun k => ck (Nat.ble (toN k) 20000) (ck (okI k) (rowsGo (toN k) s []))
def aArgs (as : List Ax) (s : S) : Option (List D × S) := @List.rec Ax (fun _ => S → Option (List D × S)) (fun s => some ([], s)) (fun a _ ih s => oB (a s) fun p => oB (ih p.2) fun q => some (p.1 :: q.1, q.2)) as s

/-! ### statements -/
def sNext : Sx := .nx
def sSeq (a b : Sx) : Sx := fun s => nxB (a s) b
def sSet (i : Nat) (e : Ex) : Sx := fun s => oR (e s) fun d => .nx (s.put i d)
def sSetA (i : Nat) (a : Ax) : Sx := fun s => oR (a s) fun p => .nx (p.2.put i p.1)
def putAll (is : List Nat) (ds : List D) (s : S) : Option S := @List.rec Nat (fun _ => List D → S → Option S) (fun ds s => ck (isE ds) (some s))
  (fun i _ ih ds s => @List.casesOn D (fun _ => Option S) ds none (fun d r => ih r (s.put i d))) is ds s
/-- a, b, .. = x, y, .. -/
def sPar (is : List Nat) (as : List Ax) : Sx := fun s => oR (aArgs as s) fun p => oR (putAll is p.1 p.2) .nx
/-- a, b = t -/
def sUnp (is : List Nat) (e : Ex) : Sx := fun s => oR (oB (e s) fun d => gT d some) fun ds => oR (putAll is ds s) .nx
/-- x = y, y an object that is kept as it is from here on -/
def sMove (i : Nat) (e : Ex) : Sx := fun s => oR (oB (e s) fun d => gR d fun n => lstO s n fun xs => ck (clAll xs) (some (n, xs))) fun p => .nx ((s.del p.1).put i (.lst p.2))
/-- o.append(e) -/
def sApp (o e : Ex) : Sx := fun s => oR (oB (o s) fun x => gR x fun n => oB (e s) fun d => lstO s n fun xs => ck (short xs) (some (s.sto n (.lst (app xs [d]))))) .nx
/-- o.extend(e) -/
def sExt (o e : Ex) : Sx := fun s => oR (oB (o s) fun x => gR x fun n => oB (e s) fun d => ck (cl d) (oB (items s d) fun ys => lstO s n fun xs => ck (short xs) (ck (short ys) (some (s.sto n (.lst (app xs ys))))))) .nx
def setD (xs : List D) (i : Int) (d : D) : Option (List D) := @Int.casesOn (fun _ => Option (List D)) i (fun n => ck (Nat.blt n (len xs)) (some (stl xs n d))) (fun _ => none)
def sto1 (o i : Ex) (d : D) (s : S) : Option S := oB (o s) fun x => gR x fun n => oB (i s) fun y => gI y fun k => lstO s n fun xs => oB (setD xs k d) fun ys => some (s.sto n (.lst ys))
/-- o[i] = e -/
def sSetIx (o i e : Ex) : Sx := fun s => oR (oB (e s) fun d => sto1 o i d s) .nx
/-- o[i], o[j] = x, y -/
def sSetIx2 (o i j x y : Ex) : Sx := fun s => oR (oB (x s) fun d1 => oB (y s) fun d2 => oB (sto1 o i d1 s) fun s1 => sto1 o j d2 s1) .nx
/-- d[k] = True, k not there yet -/
def sKey (o k : Ex) : Sx := fun s => oR (oB (o s) fun x => gR x fun n => oB (k s) fun d => gT d fun _ => ksO s n fun ks => ck (keyOk 4 d) (ck (short ks) (ck (!inK d ks) (some (s.sto n (.kset (app ks [d]))))))) .nx
def sIf (t : Tx) (a b : Sx) : Sx := fun s => oR (t s) fun c => bR c (a s) (b s)
def forGo (tg : Tg) (b : Sx) (l : List D) (s : S) : R := @List.rec D (fun _ => S → R) .nx (fun x _ ih s => oR (tg s x) fun s1 => nxB (b s1) ih) l s
def sFor (tg : Tg) (it : Lx) (b : Sx) : Sx := fun s => oR (it s) fun xs => forGo tg b xs s
def whGo (t : Tx) (b : Sx) (k : Nat) (s : S) : R := @Nat.rec (fun _ => S → R) (fun _ => .bad) (fun _ ih s => oR (t s) fun c => bR c (nxB (b s) ih) (.nx s)) k s
def sWhile (k : Nat) (t : Tx) (b : Sx) : Sx := whGo t b k
def sRet (e : Ex) : Sx := fun s => oR (e s) fun d => .rt d s

/-! ### a def -/
def frzs (f : D → Option D) (l : List D) : Option (List D) := @List.rec D (fun _ => Option (List D)) (some []) (fun x _ ih => oB (f x) fun y => oB ih fun ys => some (y :: ys)) l
/-- what is handed back, its objects kept as they are -/
def frz (s : S) (k : Nat) (d : D) : Option D := @Nat.rec (fun _ => D → Option D) (fun _ => none) (fun _ ih d =>
  dC d (some d) (fun _ => some d) (fun _ => some d) (fun _ => some d) (fun _ => some d) (fun _ => some d) (fun _ => some d) (fun n => lstO s n fun xs => oB (frzs ih xs) fun ys => some (.lst ys)) (fun _ => some d)) k d
def slots (n : Nat) (ds : List D) : List (Option D) := @List.rec D (fun _ => Nat → List (Option D)) (fun n => @Nat.rec (fun _ => List (Option D)) [] (fun _ ih => none :: ih) n)
  (fun d _ ih n => some d :: ih (Nat.pred n)) ds n
/-- n: how many names -/
def run (n : Nat) (b : Sx) : Fn := fun ds => @R.casesOn (fun _ => Option D) (b ⟨slots n ds, [], 0⟩) none (fun _ => none) (fun d s => frz s 3 d)
/-- a table of answers, for two ints -/
def tab2 (t : List ((Int × Int) × D)) : Fn := fun ds => two ds fun x y => gI x fun i => gI y fun j =>
  @List.rec ((Int × Int) × D) (fun _ => Option D) none (fun e _ ih => @Bool.rec (fun _ => Option D) ih (@Bool.rec (fun _ => Option D) ih (some e.2) (eqI e.1.2 j)) (eqI e.1.1 i)) t
end
end Kx

/-! KxP: the program's and the law's defs as functions over plain data; printed by gen.py -/
namespace Kx
noncomputable section
/-- power_of: m, many, found, turn -/
def b_power_of : Sx := sSeq (sSet 2 (eC (.int 1))) (sSeq (sFor (tgt1 3) (iRange1 (eVar 1)) (sSet 2 (eMul (eVar 2) (eVar 0)))) (sRet (eVar 2)))
def g_power_of : Fn := run 4 b_power_of
/-- digit_of: m, x, place -/
def b_digit_of : Sx := sRet (eMod (eDiv (eVar 1) (eCall g_power_of [eVar 0, eVar 2])) (eVar 0))
def g_digit_of : Fn := run 3 b_digit_of
/-- number_by: m, x, order, found, entry -/
def b_number_by : Sx := sSeq (sSet 3 (eC (.int 0))) (sSeq (sFor (tgt1 4) (iSeq (eRevT (eVar 2))) (sSet 3 (eAdd (eMul (eVar 3) (eVar 0)) (eCall g_digit_of [eVar 0, eVar 1, eVar 4])))) (sRet (eVar 3)))
def g_number_by : Fn := run 5 b_number_by
/-- laid_by: m, k, order, b, blocks, x, block -/
def b_laid_by : Sx := sSeq (sSet 3 (eCall g_power_of [eVar 0, eVar 1])) (sSeq (sSetA 4 (aRows (eCall g_power_of [eVar 0, eSub (eLen (eVar 2)) (eVar 1)]))) (sSeq (sFor (tgt1 5) (iRange1 (eCall g_power_of [eVar 0, eLen (eVar 2)])) (sApp (eIx (eVar 4) (eDiv (eCall g_number_by [eVar 0, eVar 5, eVar 2]) (eVar 3))) (eVar 5))) (sRet (eTup [eVar 3, eTuple (eFrz (lComp (tgt1 6) (iSeqR (eVar 4)) (tYes) (eTuple (eVar 6))))]))))
def g_laid_by : Fn := run 7 b_laid_by
/-- foreign_digits: k, order, entry -/
def b_foreign_digits : Sx := sRet (eLen (eFrz (lComp (tgt1 2) (iSeqR (eSl (eVar 1) (some (eVar 0)) none)) (tV (eLt (eVar 2) (eVar 0))) (eVar 2))))
def g_foreign_digits : Fn := run 3 b_foreign_digits
/-- digit_bound: m, k, order, many -/
def b_digit_bound : Sx := sSeq (sSet 3 (eCall g_foreign_digits [eVar 1, eVar 2])) (sRet (eIf (tV (eGt (eVar 3) (eC (.int 0)))) (eMul (eVar 3) (eCall g_power_of [eVar 0, eSub (eSub (eLen (eVar 2)) (eVar 1)) (eC (.int 1))])) (eC (.int 0))))
def g_digit_bound : Fn := run 4 b_digit_bound
/-- exchanged_order: order, one, other, found -/
def b_exchanged_order : Sx := sSeq (sSetA 3 (aOwn (lList (eVar 0)))) (sSeq (sSetIx2 (eVar 3) (eVar 1) (eVar 2) (eIx (eVar 0) (eVar 2)) (eIx (eVar 0) (eVar 1))) (sRet (eTuple (eVar 3))))
def g_exchanged_order : Fn := run 4 b_exchanged_order
/-- exchange_row: m, k, order, inner, outer, goal, step, row, block, who, digit, at -/
def b_exchange_row : Sx := sSeq (sSet 5 (eIx (eCall g_laid_by [eVar 0, eVar 1, eCall g_exchanged_order [eVar 2, eVar 3, eVar 4]]) (eC (.int 1)))) (sSeq (sPar [6, 7] [aV (eCall g_power_of [eVar 0, eSub (eVar 4) (eVar 1)]), aOwn (lLst [])]) (sSeq (sFor (tgt1 8) (iRange1 (eLen (eVar 5))) (sIf (tV (eEq (eMod (eDiv (eVar 8) (eVar 6)) (eVar 0)) (eC (.int 0)))) (sSeq (sSet 9 (eTuple (eFrz (lComp (tgt1 10) (iRange1 (eVar 0)) (tYes) (eAdd (eVar 8) (eMul (eVar 10) (eVar 6))))))) (sApp (eVar 7) (eTup [eVar 9, eTuple (eFrz (lComp (tgt1 11) (iSeqR (eVar 9)) (tYes) (eIx (eVar 5) (eVar 11))))]))) (sNext))) (sRet (eTuple (eVar 7)))))
def g_exchange_row : Fn := run 12 b_exchange_row
/-- rings_of: names, found, seen, block, ring, at -/
def b_rings_of : Sx := sSeq (sPar [1, 2] [aOwn (lLst []), aOwn (lLst [])]) (sSeq (sFor (tgt1 3) (iRange1 (eLen (eVar 0))) (sSeq (sPar [4, 5] [aOwn (lLst []), aV (eVar 3)]) (sSeq (sWhile 100 (tV (eNotIn (eVar 5) (eVar 2))) (sSeq (sApp (eVar 2) (eVar 5)) (sSeq (sApp (eVar 4) (eVar 5)) (sSet 5 (eIx (eVar 0) (eVar 5)))))) (sIf (tTru (eVar 4)) (sApp (eVar 1) (eVar 4)) (sNext))))) (sRet (eVar 1)))
def g_rings_of : Fn := run 6 b_rings_of
/-- ring_row: blocks, ring, m, row, part, told, who, at, block, inside -/
def b_ring_row : Sx := sSeq (sSetA 3 (aOwn (lLst []))) (sSeq (sWhile 100 (tV (eGt (eLen (eVar 1)) (eC (.int 1)))) (sSeq (sSet 4 (eSl (eVar 1) none (some (eVar 2)))) (sSeq (sSet 5 (eDictC (tgt2 7 8) (iEnum (eVar 4)) (eIx (eVar 4) (eMod (eAdd (eVar 7) (eC (.int 1))) (eLen (eVar 4)))) (eIx (eVar 0) (eVar 8)))) (sSeq (sSet 6 (eTuple (eFrz (lSorted (eVar 4))))) (sSeq (sApp (eVar 3) (eTup [eVar 6, eTuple (eFrz (lComp (tgt1 8) (iSeqR (eVar 6)) (tYes) (eIx (eVar 5) (eVar 8))))])) (sSeq (sSet 0 (eTuple (eFrz (lComp (tgt2 8 9) (iEnum (eVar 0)) (tYes) (eGet (eVar 5) (eVar 8) (eVar 9)))))) (sSet 1 (eFrz (lStar1 (eIx (eVar 1) (eC (.int 0))) (eSl (eVar 1) (some (eVar 2)) none)))))))))) (sRet (eVar 3)))
def g_ring_row : Fn := run 10 b_ring_row
/-- renaming_row: standing, names, m, row, ring -/
def b_renaming_row : Sx := sSeq (sSetA 3 (aOwn (lLst []))) (sSeq (sFor (tgt1 4) (iSeq (eCall g_rings_of [eVar 1])) (sExt (eVar 3) (eCall g_ring_row [eIx (eVar 0) (eC (.int 1)), eVar 4, eVar 2]))) (sRet (eTuple (eVar 3))))
def g_renaming_row : Fn := run 5 b_renaming_row
/-- turned_order: i, j -/
def b_turned_order : Sx := sRet (ePTuple (eFrz (lStarR (eVar 1) (eAdd (eVar 0) (eVar 1)) (eVar 1))))
def g_turned_order : Fn := run 2 b_turned_order
/-- to_bring: k, order, wanted, found, used, free, outer, left, entry -/
def b_to_bring : Sx := sSeq (sPar [2, 3, 4] [aV (eSl (eVar 1) (some (eVar 0)) none), aOwn (lLst []), aOwn (lLst [])]) (sSeq (sSet 5 (eFrz (lComp (tgt1 6) (iRange2 (eVar 0) (eLen (eVar 1))) (tV (eNotIn (eVar 6) (eVar 2))) (eVar 6)))) (sSeq (sFor (tgt1 6) (iSeq (eVar 5)) (sIf (tV (eLt (eIx (eVar 1) (eVar 6)) (eVar 0))) (sSeq (sApp (eVar 3) (eTup [eIx (eVar 1) (eVar 6), eVar 6])) (sApp (eVar 4) (eIx (eVar 1) (eVar 6)))) (sNext))) (sSeq (sSet 7 (eFrz (lComp (tgt1 8) (iSeqR (eVar 2)) (tAnd (tV (eLt (eVar 8) (eVar 0))) (tV (eNotIn (eVar 8) (eVar 4)))) (eVar 8)))) (sRet (eAdd (eVar 3) (eFrz (lZip (eVar 7) (eFrz (lComp (tgt1 6) (iSeqR (eVar 5)) (tV (eGe (eIx (eVar 1) (eVar 6)) (eVar 0))) (eVar 6))))))))))
def g_to_bring : Fn := run 9 b_to_bring
/-- brought: m, k, order, row, now, inner, outer -/
def b_brought : Sx := sSeq (sPar [3, 4] [aOwn (lLst []), aV (eTupRange (eLen (eVar 2)))]) (sSeq (sFor (tgt2 5 6) (iSeq (eCall g_to_bring [eVar 1, eVar 2])) (sSeq (sExt (eVar 3) (eCall g_exchange_row [eVar 0, eVar 1, eVar 4, eVar 5, eVar 6])) (sSet 4 (eCall g_exchanged_order [eVar 4, eVar 5, eVar 6])))) (sRet (eTup [eTuple (eVar 3), eVar 4])))
def g_brought : Fn := run 7 b_brought
/-- names_between: m, k, now, order, found, block, name, place, entry -/
def b_names_between : Sx := sSeq (sSetA 4 (aOwn (lLst []))) (sSeq (sFor (tgt1 5) (iRange1 (eCall g_power_of [eVar 0, eSub (eLen (eVar 3)) (eVar 1)])) (sSeq (sSet 6 (eC (.int 0))) (sSeq (sFor (tgt2 7 8) (iEnum (eSl (eVar 2) (some (eVar 1)) none)) (sSet 6 (eAdd (eVar 6) (eMul (eCall g_digit_of [eVar 0, eVar 5, eVar 7]) (eCall g_power_of [eVar 0, eSub (eIndex (eVar 3) (eVar 8)) (eVar 1)]))))) (sApp (eVar 4) (eVar 6))))) (sRet (eTuple (eVar 4))))
def g_names_between : Fn := run 9 b_names_between
/-- named_digit_row: m, k, order, row, now -/
def b_named_digit_row : Sx := sSeq (sUnp [3, 4] (eCall g_brought [eVar 0, eVar 1, eVar 2])) (sRet (eTup [eVar 3, eCall g_names_between [eVar 0, eVar 1, eVar 4, eVar 2]]))
def g_named_digit_row : Fn := run 5 b_named_digit_row
/-- digit_row: m, k, order, row, now -/
def b_digit_row : Sx := sSeq (sUnp [3, 4] (eCall g_brought [eVar 0, eVar 1, eVar 2])) (sRet (eAdd (eVar 3) (eCall g_renaming_row [eCall g_laid_by [eVar 0, eVar 1, eVar 4], eCall g_names_between [eVar 0, eVar 1, eVar 4, eVar 2], eVar 0])))
def g_digit_row : Fn := run 5 b_digit_row
/-- least_turning: m, i, j, k -/
def b_least_turning : Sx := sRet (eCall g_digit_bound [eVar 0, eVar 3, eCall g_turned_order [eVar 1, eVar 2]])
def g_least_turning : Fn := run 4 b_least_turning
/-- _law_power: _law_m, _law_many, _law_found, _law_turn -/
def b_law_power : Sx := sSeq (sSet 2 (eC (.int 1))) (sSeq (sFor (tgt1 3) (iRange1 (eVar 1)) (sSet 2 (eInt (eMul (eVar 2) (eVar 0))))) (sRet (eVar 2)))
def g_law_power : Fn := run 4 b_law_power
/-- _law_digits: _law_m, _law_h, _law_x, _law_found, _law_rest, _law_turn -/
def b_law_digits : Sx := sSeq (sPar [3, 4] [aOwn (lLst []), aV (eVar 2)]) (sSeq (sFor (tgt1 5) (iRange1 (eVar 1)) (sSeq (sApp (eVar 3) (eMod (eVar 4) (eVar 0))) (sSet 4 (eDiv (eVar 4) (eVar 0))))) (sRet (eVar 3)))
def g_law_digits : Fn := run 6 b_law_digits
/-- _law_laid: _law_m, _law_k, _law_order, _law_h, _law_b, _law_blocks, _law_x, _law_digits_here, _law_y, _law_t, _law_block -/
def b_law_laid : Sx := sSeq (sPar [3, 4] [aV (eLen (eVar 2)), aV (eCall g_law_power [eVar 0, eVar 1])]) (sSeq (sSetA 5 (aRows (eCall g_law_power [eVar 0, eSub (eVar 3) (eVar 1)]))) (sSeq (sFor (tgt1 6) (iRange1 (eCall g_law_power [eVar 0, eVar 3])) (sSeq (sPar [7, 8] [aV (eCall g_law_digits [eVar 0, eVar 3, eVar 6]), aV (eC (.int 0))]) (sSeq (sFor (tgt1 9) (iRange1 (eVar 3)) (sSet 8 (eAdd (eVar 8) (eMul (eIx (eVar 7) (eIx (eVar 2) (eVar 9))) (eCall g_law_power [eVar 0, eVar 9]))))) (sApp (eIx (eVar 5) (eDiv (eVar 8) (eVar 4))) (eVar 6))))) (sRet (eTup [eVar 4, eTuple (eFrz (lComp (tgt1 10) (iSeqR (eVar 5)) (tYes) (eTuple (eVar 10))))]))))
def g_law_laid : Fn := run 11 b_law_laid
/-- _law_played: _law_standing, _law_m, _law_row, _law_b, _law_blocks, _law_pour, _law_who, _law_parts, _law_told, _law_lain, _law_at, _law_part -/
def b_law_played : Sx := sSeq (sIf (tNot (tV (eIsTup (eVar 2)))) (sRet (eC .non)) (sNext)) (sSeq (sPar [3, 4] [aV (eIx (eVar 0) (eC (.int 0))), aOwn (lList (eIx (eVar 0) (eC (.int 1))))]) (sSeq (sFor (tgt1 5) (iSeq (eVar 2)) (sSeq (sIf (tOr (tNot (tV (eIsTup (eVar 5)))) (tOr (tV (eNe (eLen (eVar 5)) (eC (.int 2)))) (tOr (tNot (tV (eIsTup (eIx (eVar 5) (eC (.int 0)))))) (tNot (tV (eIsTup (eIx (eVar 5) (eC (.int 1))))))))) (sRet (eC .non)) (sNext)) (sSeq (sUnp [6, 7] (eVar 5)) (sSeq (sIf (tOr (tV (eNe (eLen (eVar 6)) (eLen (eVar 7)))) (tOr (tV (eLt (eLen (eVar 6)) (eC (.int 2)))) (tOr (tV (eGt (eLen (eVar 6)) (eVar 1))) (tOr (tV (eNe (eFrz (lList (eVar 6))) (eFrz (lSortedSet ((eVar 6)))))) (tOr (tV (eLt (eIx (eVar 6) (eC (.int 0))) (eC (.int 0)))) (tV (eGe (eIx (eVar 6) (eC (.int (-1)))) (eLen (eVar 4))))))))) (sRet (eC .non)) (sNext)) (sSeq (sIf (tV (eNe (eFrz (lComp (tgt1 11) (iSeqR (eVar 7)) (tOr (tNot (tV (eIsTup (eVar 11)))) (tOr (tV (eGt (eLen (eVar 11)) (eVar 3))) (tV (eNe (eFrz (lList (eVar 11))) (eFrz (lSorted (eVar 11))))))) (eVar 11))) (eFrz (lLst [])))) (sRet (eC .non)) (sNext)) (sSeq (sPar [8, 9] [aV (eFrz (lLst [])), aV (eFrz (lLst []))]) (sSeq (sFor (tgt2 10 11) (iZip (eVar 6) (eVar 7)) (sPar [8, 9] [aV (eAdd (eVar 8) (eFrz (lList (eVar 11)))), aV (eAdd (eVar 9) (eFrz (lList (eIx (eVar 4) (eVar 10)))))])) (sSeq (sIf (tV (eNe (eFrz (lSorted (eVar 8))) (eFrz (lSorted (eVar 9))))) (sRet (eC .non)) (sNext)) (sFor (tgt2 10 11) (iZip (eVar 6) (eVar 7)) (sSetIx (eVar 4) (eVar 10) (eVar 11))))))))))) (sRet (eTup [eVar 3, eTuple (eVar 4)]))))
def g_law_played : Fn := run 12 b_law_played
/-- _law_count: _law_standing, _law_block -/
def b_law_count : Sx := sRet (eSum (eFrz (lComp (tgt1 1) (iSeqR (eIx (eVar 0) (eC (.int 1)))) (tYes) (eLen (eVar 1)))))
def g_law_count : Fn := run 2 b_law_count
/-- _law_places: _law_standing, _law_found, _law_at, _law_block, _law_record -/
def b_law_places : Sx := sSeq (sSetA 1 (aOwn (lRep (eC (.int 0)) (eCall g_law_count [eVar 0])))) (sSeq (sFor (tgt2 2 3) (iEnum (eIx (eVar 0) (eC (.int 1)))) (sFor (tgt1 4) (iSeq (eVar 3)) (sSetIx (eVar 1) (eVar 4) (eVar 2)))) (sRet (eTuple (eVar 1))))
def g_law_places : Fn := run 5 b_law_places
/-- _law_depths: _law_m, _law_most, _law_best, _law_x, _law_parts, _law_low, _law_many, _law_later, _law_total, _law_tried, _law_i -/
def b_law_depths : Sx := sSeq (sSetA 2 (aOwn (lLst [eC (.int 0), eC (.int 0)]))) (sSeq (sFor (tgt1 3) (iRange2 (eC (.int 2)) (eAdd (eVar 1) (eC (.int 1)))) (sSeq (sSet 4 (eSl (eVar 2) none none)) (sSeq (sSet 5 (eC .non)) (sSeq (sFor (tgt1 6) (iRange2 (eC (.int 2)) (eAdd (eVar 0) (eC (.int 1)))) (sSeq (sSetA 7 (aOwn (lRep (eC .non) (eAdd (eVar 3) (eC (.int 1)))))) (sSeq (sFor (tgt1 8) (iRange2 (eVar 6) (eAdd (eVar 3) (eC (.int 1)))) (sSeq (sSet 9 (eFrz (lComp (tgt1 10) (iRange2 (eC (.int 1)) (eMin2 (eVar 3) (eAdd (eSub (eVar 8) (eVar 6)) (eC (.int 2))))) (tAnd (tV (eLt (eSub (eVar 8) (eVar 10)) (eVar 3))) (tV (eIsNot (eIx (eVar 4) (eSub (eVar 8) (eVar 10)))))) (eAdd (eIx (eVar 2) (eVar 10)) (eIx (eVar 4) (eSub (eVar 8) (eVar 10))))))) (sSetIx (eVar 7) (eVar 8) (eMinL (eVar 9))))) (sSeq (sSet 4 (eSl (eVar 7) none (some (eVar 3)))) (sSet 5 (eIf (tAnd (tV (eIsNot (eIx (eVar 7) (eVar 3)))) (tOr (tV (eIs (eVar 5))) (tV (eLt (eIx (eVar 7) (eVar 3)) (eVar 5))))) (eIx (eVar 7) (eVar 3)) (eVar 5))))))) (sApp (eVar 2) (eAdd (eVar 3) (eVar 5))))))) (sRet (eVar 2)))
def g_law_depths : Fn := run 11 b_law_depths
/-- what law_depths gives, where it is asked -/
def t_list : List ((Int × Int) × D) := [((2, 1), .lst (ofI [0, 0])), ((2, 2), .lst (ofI [0, 0, 2])), ((2, 4), .lst (ofI [0, 0, 2, 5, 8])), ((2, 8), .lst (ofI [0, 0, 2, 5, 8, 12, 16, 20, 24])), ((2, 16), .lst (ofI [0, 0, 2, 5, 8, 12, 16, 20, 24, 29, 34, 39, 44, 49, 54, 59, 64])), ((3, 1), .lst (ofI [0, 0])), ((3, 3), .lst (ofI [0, 0, 2, 3])), ((3, 9), .lst (ofI [0, 0, 2, 3, 6, 8, 11, 13, 16, 18])), ((3, 27), .lst (ofI [0, 0, 2, 3, 6, 8, 11, 13, 16, 18, 22, 25, 29, 32, 36, 39, 43, 46, 50, 53, 57, 60, 64, 67, 71, 74, 78, 81]))]
def t_law_depths : Fn := tab2 t_list
/-- _law_bounds: _law_m, _law_first, _law_wish, _law_b, _law_blocks, _law_best, _law_before, _law_now, _law_block, _law_wished, _law_many, _law_depth, _law_goal, _law_turns, _law_record, _law_at -/
def b_law_bounds : Sx := sSeq (sUnp [3, 4] (eVar 1)) (sSeq (sPar [5, 6, 7] [aV (eCall t_law_depths [eVar 0, eVar 3]), aV (eC (.int 0)), aV (eC (.int 1))]) (sSeq (sFor (tgt1 8) (iSeq (eVar 4)) (sSeq (sSet 9 (eFrz (lComp (tgt1 14) (iSeqR (eVar 8)) (tYes) (eIx (eVar 2) (eVar 14))))) (sFor (tgt1 10) (iSeq (eFrz (lComp (tgt1 15) (iSeqR (eFrz (lSortedSet ((eVar 9))))) (tYes) (eCount (eVar 9) (eVar 15))))) (sPar [6, 7] [aV (eAdd (eVar 6) (eIx (eVar 5) (eVar 10))), aV (eMul (eVar 7) (eCall g_law_power [eVar 10, eVar 10]))])))) (sSeq (sSet 11 (eDiv (eSub (eAdd (eSub (eMul (eLen (eVar 4)) (eIx (eVar 5) (eVar 3))) (eVar 6)) (eMul (eVar 0) (eVar 3))) (eC (.int 1))) (eMul (eVar 0) (eVar 3)))) (sSeq (sPar [12, 13] [aV (eCall g_law_power [eVar 3, eMul (eVar 3) (eLen (eVar 4))]), aV (eC (.int 0))]) (sSeq (sWhile 100 (tV (eLt (eVar 7) (eVar 12))) (sPar [7, 13] [aV (eMul (eVar 7) (eCall g_law_power [eVar 0, eMul (eVar 0) (eVar 3)])), aV (eAdd (eVar 13) (eC (.int 1)))])) (sRet (eFrz (lLst [eVar 11, eVar 13]))))))))
def g_law_bounds : Fn := run 16 b_law_bounds
/-- _law_shares: _law_b, _law_many, _law_records, _law_found, _law_record, _law_later, _law_parts, _law_block, _law_at -/
def b_law_shares : Sx := sSeq (sSet 3 (eFrz (lLst [eTuple (eFrz (lComp (tgt1 7) (iRange1 (eVar 1)) (tYes) (eTup [])))]))) (sSeq (sFor (tgt1 4) (iSeq (eVar 2)) (sSeq (sSet 5 (eFrz (lLst []))) (sSeq (sFor (tgt1 6) (iSeq (eVar 3)) (sSet 5 (eAdd (eVar 5) (eFrz (lComp (tgt1 8) (iRange1 (eVar 1)) (tV (eLt (eLen (eIx (eVar 6) (eVar 8))) (eVar 0))) (eAdd (eAdd (eSl (eVar 6) none (some (eVar 8))) (eTup [eAdd (eIx (eVar 6) (eVar 8)) (eTup [eVar 4])])) (eSl (eVar 6) (some (eAdd (eVar 8) (eC (.int 1)))) none))))))) (sSet 3 (eVar 5))))) (sRet (eVar 3)))
def g_law_shares : Fn := run 9 b_law_shares
/-- _law_lots: _law_many, _law_m, _law_found, _law_at, _law_lot -/
def b_law_lots : Sx := sSeq (sSet 2 (eFrz (lLst [eTup []]))) (sSeq (sFor (tgt1 3) (iRange1 (eVar 0)) (sSet 2 (eAdd (eVar 2) (eFrz (lComp (tgt1 4) (iSeqR (eVar 2)) (tV (eLt (eLen (eVar 4)) (eVar 1))) (eAdd (eVar 4) (eTup [eVar 3]))))))) (sRet (eFrz (lComp (tgt1 4) (iSeqR (eVar 2)) (tV (eGt (eLen (eVar 4)) (eC (.int 1)))) (eVar 4)))))
def g_law_lots : Fn := run 5 b_law_lots
/-- _law_uniform: _law_b, _law_blocks, _law_m, _law_known, _law_fresh, _law_turn, _law_later, _law_some, _law_who, _law_pool, _law_at, _law_parts, _law_now, _law_part, _law_block -/
def b_law_uniform : Sx := sSeq (sPar [3, 4, 5] [aKey (eVar 1), aV (eFrz (lLst [eVar 1])), aV (eC (.int 0))]) (sSeq (sWhile 100 (tV (eEq (eFrz (lComp (tgt1 7) (iSeqR (eVar 4)) (tV (eEq (eFrz (lComp (tgt1 14) (iSeqR (eVar 7)) (tV (eGt (eLenSet (eVar 14)) (eC (.int 1)))) (eVar 14))) (eFrz (lLst [])))) (eVar 7))) (eFrz (lLst [])))) (sSeq (sPar [5, 6] [aV (eAdd (eVar 5) (eC (.int 1))), aOwn (lLst [])]) (sSeq (sFor (tgt1 7) (iSeq (eVar 4)) (sFor (tgt1 8) (iSeq (eCall g_law_lots [eLen (eVar 7), eVar 2])) (sSeq (sSet 9 (eFrz (lLst []))) (sSeq (sFor (tgt1 10) (iSeq (eVar 8)) (sSet 9 (eAdd (eVar 9) (eFrz (lList (eIx (eVar 7) (eVar 10))))))) (sFor (tgt1 11) (iSeq (eCall g_law_shares [eVar 0, eLen (eVar 8), eFrz (lSorted (eVar 9))])) (sSeq (sSetA 12 (aOwn (lList (eVar 7)))) (sSeq (sFor (tgt2 10 13) (iZip (eVar 8) (eVar 11)) (sSetIx (eVar 12) (eVar 10) (eVar 13))) (sIf (tV (eNotInK (eTuple (eVar 12)) (eVar 3))) (sSeq (sKey (eVar 3) (eTuple (eVar 12))) (sApp (eVar 6) (eTuple (eVar 12)))) (sNext))))))))) (sMove 4 (eVar 6))))) (sRet (eVar 5)))
def g_law_uniform : Fn := run 15 b_law_uniform
/-- _law_rings: _law_names, _law_sizes, _law_seen, _law_block, _law_size, _law_at -/
def b_law_rings : Sx := sSeq (sPar [1, 2] [aOwn (lLst []), aOwn (lLst [])]) (sSeq (sFor (tgt1 3) (iRange1 (eLen (eVar 0))) (sSeq (sPar [4, 5] [aV (eC (.int 0)), aV (eVar 3)]) (sSeq (sWhile 100 (tV (eNotIn (eVar 5) (eVar 2))) (sSeq (sApp (eVar 2) (eVar 5)) (sPar [4, 5] [aV (eAdd (eVar 4) (eC (.int 1))), aV (eIx (eVar 0) (eVar 5))]))) (sIf (tV (eGt (eVar 4) (eC (.int 0)))) (sApp (eVar 1) (eVar 4)) (sNext))))) (sRet (eVar 1)))
def g_law_rings : Fn := run 6 b_law_rings
/-- _law_both: _law_m, _law_k, _law_order, _law_h, _law_first, _law_goal, _law_row, _law_names, _law_behind, _law_own, _law_at, _law_size, _law_t -/
def b_law_both : Sx := sSeq (sSet 3 (eLen (eVar 2))) (sSeq (sPar [4, 5] [aV (eCall g_law_laid [eVar 0, eVar 1, eTupRange (eVar 3)]), aV (eCall g_law_laid [eVar 0, eVar 1, eVar 2])]) (sSeq (sUnp [6, 7] (eCall g_named_digit_row [eVar 0, eVar 1, eVar 2])) (sSeq (sSet 8 (eCall g_law_played [eVar 4, eVar 0, eVar 6])) (sSeq (sIf (tOr (tV (eIs (eVar 8))) (tOr (tNot (tV (eIsTup (eVar 7)))) (tV (eNe (eFrz (lSorted (eVar 7))) (eFrz (lRange (eLen (eIx (eVar 4) (eC (.int 1)))))))))) (sRet (eC (.bl false))) (sNext)) (sSeq (sIf (tV (eNe (eIx (eVar 8) (eC (.int 1))) (eTuple (eFrz (lComp (tgt1 10) (iRange1 (eLen (eVar 7))) (tYes) (eIx (eIx (eVar 5) (eC (.int 1))) (eIx (eVar 7) (eVar 10)))))))) (sRet (eC (.bl false))) (sNext)) (sSeq (sIf (tV (eNe (eCall g_law_bounds [eVar 0, eVar 4, eCall g_law_places [eVar 5]]) (eFrz (lLst [eLen (eVar 6), eLen (eVar 6)])))) (sRet (eC (.bl false))) (sNext)) (sSeq (sSet 9 (eCall g_digit_row [eVar 0, eVar 1, eVar 2])) (sSeq (sIf (tOr (tV (eNe (eCall g_law_played [eVar 4, eVar 0, eVar 9]) (eVar 5))) (tV (eNe (eLen (eVar 9)) (eAdd (eLen (eVar 6)) (eSum (eFrz (lComp (tgt1 11) (iSeqR (eCall g_law_rings [eVar 7])) (tYes) (eDiv (eSub (eAdd (eVar 11) (eVar 0)) (eC (.int 3))) (eSub (eVar 0) (eC (.int 1))))))))))) (sRet (eC (.bl false))) (sNext)) (sRet (eOr (eEq (eLen (eVar 9)) (eLen (eVar 6))) (eNe (eFrz (lComp (tgt1 12) (iRange2 (eVar 1) (eVar 3)) (tAnd (tV (eGe (eIx (eVar 2) (eVar 12)) (eVar 1))) (tV (eNe (eIx (eVar 2) (eVar 12)) (eVar 12)))) (eVar 12))) (eFrz (lLst [])))))))))))))
def g_law_both : Fn := run 13 b_law_both
/-- _law_turned: _law_m, _law_i, _law_j, _law_k, _law_order, _law_d, _law_many -/
def b_law_turned : Sx := sSeq (sPar [4, 5, 6] [aV (eCall g_turned_order [eVar 1, eVar 2]), aV (eMin4 (eVar 1) (eVar 2) (eVar 3) (eSub (eAdd (eVar 1) (eVar 2)) (eVar 3))), aV (eC (.int 0))]) (sSeq (sIf (tV (eGt (eVar 5) (eC (.int 0)))) (sSet 6 (eMul (eVar 5) (eCall g_law_power [eVar 0, eSub (eSub (eAdd (eVar 1) (eVar 2)) (eVar 3)) (eC (.int 1))]))) (sNext)) (sSeq (sIf (tOr (tV (eNeR (eRepr (eCall g_least_turning [eVar 0, eVar 1, eVar 2, eVar 3])) (eRepr (eVar 6)))) (tV (eNe (eLen (eIx (eCall g_named_digit_row [eVar 0, eVar 3, eVar 4]) (eC (.int 0)))) (eVar 6)))) (sRet (eC (.bl false))) (sNext)) (sSeq (sIf (tV (eNeR (eRepr (eCall g_least_turning [eVar 0, eVar 1, eVar 2, eVar 3])) (eRepr (eVar 6)))) (sRet (eC (.bl false))) (sNext)) (sRet (eOr (eGt (eVar 1) (eVar 3)) (eOr (eGt (eVar 2) (eVar 3)) (eEq (eLen (eCall g_digit_row [eVar 0, eVar 3, eVar 4])) (eVar 6))))))))
def g_law_turned : Fn := run 7 b_law_turned
/-- the law from _law_b, _law_blocks = .. on; slots: _law_script, _law_deal, _law_m, _law_h, _law_k, _law_i, _law_order, _law_b, _law_blocks, _law_wish, _law_start, _law_block, _law_record -/
def b_tail : Sx := sSeq (sUnp [7, 8] (eCall g_law_laid [eC (.int 2), eVar 4, eTupRange (eVar 3)])) (sSeq (sSet 9 (eCall g_law_places [eCall g_law_laid [eC (.int 2), eVar 4, eVar 6]])) (sSeq (sSet 10 (eTuple (eFrz (lComp (tgt1 11) (iSeqR (eVar 8)) (tYes) (eTuple (eFrz (lSorted (eFrz (lComp (tgt1 12) (iSeqR (eVar 11)) (tYes) (eIx (eVar 9) (eVar 12))))))))))) (sRet (eEq (eCall g_law_uniform [eVar 7, eVar 10, eC (.int 2)]) (eLen (eIx (eCall g_named_digit_row [eC (.int 2), eVar 4, eVar 6]) (eC (.int 0))))))))
end
end Kx

/-! KxR: how data lie in the abstract heap; states; readings of the evaluator's functions as HandS readings. -/
namespace Kx
open PySem L2

/-! ### data in a heap -/
/-- the text of an int -/
def reprS (i : Int) : Str := Str.ofString (toString i)
/-- a tuple, as it may be read -/
def TupAt (H : Hp) (a : Addr) (vs : List V) : Prop := Rd H a (.tup vs)
theorem TupAt.sq {K : PySem.W.Frag} {H : Hp} {a : Addr} {vs : List V} (h : TupAt H a vs) : SqT K H a vs := .inl h
theorem TupAt.mono {F H : Hp} {a : Addr} {vs : List V} (e : Same F H) (h : TupAt F a vs) : TupAt H a vs := h.imp (e _ _) fun ⟨o, q⟩ => ⟨o, e _ _ q⟩
mutual
/-- the closed data d lie at v, in a part F of the heap that nothing changes -/
inductive Is (F : Hp) : D → V → Prop
  | non : Is F .non .non
  | bl (b : Bool) : Is F (.bl b) (.bl b)
  | int (i : Int) : Is F (.int i) (.int i)
  | rep (i : Int) : Is F (.rep i) (.str (reprS i))
  | tup {a : Addr} {xs : List D} {vs : List V} : TupAt F a vs → IsAll F xs vs → Is F (.tup xs) (.ref a)
  | lst {a : Addr} {xs : List D} {vs : List V} : F a = some (.lst vs) → IsAll F xs vs → Is F (.lst xs) (.ref a)
  | ptup {a : Addr} {o : Obj} {xs : List D} {vs : List V} : F a = some (.frz o (.tup vs)) → o.cls = .type "tuple" → o.dict = none → IsAll F xs vs → Is F (.ptup xs) (.ref a)
  | idict {a : Addr} {xs : List (Int × D)} {vs : List (Key × V)} : F a = some (.dK vs) → IsKv F xs vs → Is F (.idict xs) (.ref a)
inductive IsAll (F : Hp) : List D → List V → Prop
  | nil : IsAll F [] []
  | cons {d : D} {v : V} {ds : List D} {vs : List V} : Is F d v → IsAll F ds vs → IsAll F (d :: ds) (v :: vs)
inductive IsKv (F : Hp) : List (Int × D) → List (Key × V) → Prop
  | nil : IsKv F [] []
  | cons {k : Int} {d : D} {v : V} {ds : List (Int × D)} {vs : List (Key × V)} : Is F d v → IsKv F ds vs → IsKv F ((k, d) :: ds) ((Sum.inl k, v) :: vs)
end

section
variable {F F' : Hp} (e : Same F F')
include e
theorem Is.mono {d : D} {v : V} (h : Is F d v) : Is F' d v :=
  Is.rec (motive_1 := fun d v _ => Is F' d v) (motive_2 := fun ds vs _ => IsAll F' ds vs) (motive_3 := fun ds vs _ => IsKv F' ds vs)
    .non .bl .int .rep (fun h _ i => .tup (h.mono e) i) (fun h _ i => .lst (e _ _ h) i) (fun h c d _ i => .ptup (e _ _ h) c d i) (fun h _ i => .idict (e _ _ h) i)
    .nil (fun _ _ i j => .cons i j) .nil (fun _ _ i j => .cons i j) h
theorem IsAll.mono : ∀ {ds : List D} {vs : List V}, IsAll F ds vs → IsAll F' ds vs
  | _, _, .nil => .nil
  | _, _, .cons h t => .cons (h.mono e) (IsAll.mono t)
theorem IsKv.mono : ∀ {ds : List (Int × D)} {vs : List (Key × V)}, IsKv F ds vs → IsKv F' ds vs
  | _, _, .nil => .nil
  | _, _, .cons h t => .cons (h.mono e) (IsKv.mono t)
end
section
variable {F : Hp}
theorem IsAll.length : ∀ {ds : List D} {vs : List V}, IsAll F ds vs → ds.length = vs.length
  | _, _, .nil => rfl
  | _, _, .cons _ t => congrArg Nat.succ (IsAll.length t)
theorem IsAll.get : ∀ {ds : List D} {vs : List V} {i : Nat} {d : D}, IsAll F ds vs → ds[i]? = some d → ∃ v, vs[i]? = some v ∧ Is F d v
  | _, _, _, _, .nil, h => by simp at h
  | _, _, 0, _, .cons h _, e => by simp at e; subst e; exact ⟨_, rfl, h⟩
  | _, _, i + 1, d, .cons _ t, e => IsAll.get (i := i) (d := d) t (by simpa using e)
theorem IsAll.append : ∀ {ds es : List D} {vs us : List V}, IsAll F ds vs → IsAll F es us → IsAll F (ds ++ es) (vs ++ us)
  | _, _, _, _, .nil, t => t
  | _, _, _, _, .cons h r, t => .cons h (IsAll.append r t)
theorem IsAll.drop : ∀ {ds : List D} {vs : List V} (n : Nat), IsAll F ds vs → IsAll F (ds.drop n) (vs.drop n)
  | _, _, 0, h => h
  | _, _, _ + 1, .nil => .nil
  | _, _, n + 1, .cons _ t => IsAll.drop n t
theorem IsAll.take : ∀ {ds : List D} {vs : List V} (n : Nat), IsAll F ds vs → IsAll F (ds.take n) (vs.take n)
  | _, _, 0, _ => .nil
  | _, _, _ + 1, .nil => .nil
  | _, _, n + 1, .cons h t => .cons h (IsAll.take n t)
theorem IsAll.reverse : ∀ {ds : List D} {vs : List V}, IsAll F ds vs → IsAll F ds.reverse vs.reverse
  | _, _, .nil => .nil
  | _, _, .cons h t => by rw [List.reverse_cons, List.reverse_cons]; exact (IsAll.reverse t).append (.cons h .nil)
theorem IsAll.set : ∀ {ds : List D} {vs : List V} {d : D} {v : V} (n : Nat), IsAll F ds vs → Is F d v → IsAll F (ds.set n d) (vs.set n v)
  | _, _, _, _, _, .nil, _ => .nil
  | _, _, _, _, 0, .cons _ t, h => .cons h t
  | _, _, _, _, n + 1, .cons r t, h => .cons r (IsAll.set n t h)
theorem Is.noref {n : Nat} {v : V} (h : Is F (.ref n) v) : False := by cases h
theorem Is.int_eq {i : Int} {v : V} (h : Is F (.int i) v) : v = .int i := by cases h; rfl
theorem Is.bl_eq {b : Bool} {v : V} (h : Is F (.bl b) v) : v = .bl b := by cases h; rfl
theorem Is.non_eq {v : V} (h : Is F .non v) : v = .non := by cases h; rfl
theorem Is.tup_eq {xs : List D} {v : V} (h : Is F (.tup xs) v) : ∃ a vs, v = .ref a ∧ TupAt F a vs ∧ IsAll F xs vs := by
  cases h with
  | tup h1 h2 => exact ⟨_, _, rfl, h1, h2⟩
theorem Is.lst_eq {xs : List D} {v : V} (h : Is F (.lst xs) v) : ∃ a vs, v = .ref a ∧ F a = some (.lst vs) ∧ IsAll F xs vs := by
  cases h with
  | lst h1 h2 => exact ⟨_, _, rfl, h1, h2⟩
theorem Is.ptup_eq {xs : List D} {v : V} (h : Is F (.ptup xs) v) : ∃ a vs o, v = .ref a ∧ F a = some (.frz o (.tup vs)) ∧ o.cls = .type "tuple" ∧ o.dict = none ∧ IsAll F xs vs := by
  cases h with
  | ptup h1 h2 h3 h4 => exact ⟨_, _, _, rfl, h1, h2, h3, h4⟩
theorem Is.idict_eq {xs : List (Int × D)} {v : V} (h : Is F (.idict xs) v) : ∃ a vs, v = .ref a ∧ F a = some (.dK vs) ∧ IsKv F xs vs := by
  cases h with
  | idict h1 h2 => exact ⟨_, _, rfl, h1, h2⟩
end

/-! ### values with references -/
/-- .. or the n-th object of the state, n below nx -/
def IsV (F : Hp) (rho : Nat → Addr) (nx : Nat) (d : D) (v : V) : Prop := dC d (Is F .non v) (fun b => Is F (.bl b) v) (fun i => Is F (.int i) v) (fun i => Is F (.rep i) v) (fun xs => Is F (.tup xs) v) (fun xs => Is F (.lst xs) v) (fun xs => Is F (.idict xs) v) (fun n => n < nx ∧ v = .ref (rho n)) (fun xs => Is F (.ptup xs) v)
theorem IsV.of {F : Hp} {rho : Nat → Addr} {nx : Nat} {d : D} {v : V} (h : Is F d v) : IsV F rho nx d v := by
  cases d <;> first | exact h | exact (h.noref).elim
theorem IsV.closed {F : Hp} {rho : Nat → Addr} {nx : Nat} {d : D} {v : V} (h : IsV F rho nx d v) (c : cl d = true) : Is F d v := by
  cases d <;> first | exact h | (cases c; done)
/-- from one part to a greater one, the references staying -/
def Agr (rho rho' : Nat → Addr) (nx : Nat) : Prop := ∀ n, n < nx → rho' n = rho n
theorem Agr.refl (rho : Nat → Addr) (nx : Nat) : Agr rho rho nx := fun _ _ => rfl
theorem Agr.trans {r1 r2 r3 : Nat → Addr} {n m : Nat} (a : Agr r1 r2 n) (b : Agr r2 r3 m) (h : n ≤ m) : Agr r1 r3 n := fun i hi => (b i (Nat.lt_of_lt_of_le hi h)).trans (a i hi)
theorem IsV.mono {F F' : Hp} {rho rho' : Nat → Addr} {nx nx' : Nat} {d : D} {v : V} (e : Same F F') (a : Agr rho rho' nx) (l : nx ≤ nx') (h : IsV F rho nx d v) : IsV F' rho' nx' d v := by
  cases d with
  | ref n =>
    obtain ⟨h1, h2⟩ := h
    exact ⟨Nat.lt_of_lt_of_le h1 l, by rw [a n h1]; exact h2⟩
  | non => exact Is.mono e h
  | bl b => exact Is.mono e h
  | int i => exact Is.mono e h
  | rep i => exact Is.mono e h
  | tup xs => exact Is.mono e h
  | lst xs => exact Is.mono e h
  | idict xs => exact Is.mono e h
  | ptup xs => exact Is.mono e h
theorem IsV.step {F F' : Hp} {rho : Nat → Addr} {nx : Nat} {d : D} {v : V} (h : IsV F rho nx d v) (e : Same F F') : IsV F' rho nx d v := h.mono e (Agr.refl _ _) (Nat.le_refl _)
abbrev IsVs (F : Hp) (rho : Nat → Addr) (nx : Nat) : List D → List V → Prop := Paired (IsV F rho nx)
theorem IsVs.mono {F F' : Hp} {rho rho' : Nat → Addr} {nx nx' : Nat} {ds : List D} {vs : List V} (e : Same F F') (a : Agr rho rho' nx) (l : nx ≤ nx') (h : IsVs F rho nx ds vs) : IsVs F' rho' nx' ds vs := Paired.mapP h fun _ _ => IsV.mono e a l
theorem IsAll.vs {F : Hp} {rho : Nat → Addr} {nx : Nat} : ∀ {ds : List D} {vs : List V}, IsAll F ds vs → IsVs F rho nx ds vs
  | _, _, .nil => .nil
  | _, _, .cons h t => .cons (IsV.of h) (IsAll.vs t)
theorem clAll_cons {d : D} {ds : List D} (h : clAll (d :: ds) = true) : cl d = true ∧ clAll ds = true := by
  have h1 : @Bool.rec (fun _ => Bool) false (clAll ds) (cl d) = true := h
  cases e : cl d with
  | false => rw [e] at h1; cases h1
  | true => rw [e] at h1; exact ⟨rfl, h1⟩
theorem IsVs.closed {F : Hp} {rho : Nat → Addr} {nx : Nat} : ∀ {ds : List D} {vs : List V}, IsVs F rho nx ds vs → clAll ds = true → IsAll F ds vs
  | _, _, .nil, _ => .nil
  | _, _, .cons h t, c => .cons (IsV.closed h (clAll_cons c).1) (IsVs.closed t (clAll_cons c).2)
theorem Paired.len {α β : Type} {R : α → β → Prop} {xs : List α} {ys : List β} (h : Paired R xs ys) : xs.length = ys.length := Paired.length h
theorem Paired.at {α β : Type} {R : α → β → Prop} : ∀ {xs : List α} {ys : List β} {i : Nat} {x : α}, Paired R xs ys → xs[i]? = some x → ∃ y, ys[i]? = some y ∧ R x y
  | _, _, _, _, .nil, h => by simp at h
  | _, _, 0, _, .cons h _, e => by simp at e; subst e; exact ⟨_, rfl, h⟩
  | _, _, i + 1, x, .cons _ t, e => Paired.at (i := i) (x := x) t (by simpa using e)

/-! ### keys of the one dict that changes -/
def keyD (k : Nat) (d : D) : NestedKey := @Nat.rec (fun _ => D → NestedKey) (fun _ => .none) (fun _ ih d => dC d .none (fun _ => .none) (fun i => .num i) (fun _ => .none) (fun xs => .tup (xs.map ih)) (fun _ => .none) (fun _ => .none) (fun _ => .none) (fun _ => .none)) k d
abbrev Ent := NestedKey × Addr × Value
/-- the dict at a: the entries xs, as the object tells them -/
def KO (P : Program) (w : World) (a : Addr) (xs : List Ent) : HO := .ext fun h =>
  (a == sysModules) = false ∧ ∃ o es ep, h.get? a = some o ∧ o.ExactDict ∧ o.data = .dict es ep ∧ es.toList = xs.map (entryOfKey (nestedKind P w)) ∧ (xs.map (·.1)).Nodup
/-- ks are the keys -/
def IsKs (F : Hp) (ks : List D) (xs : List Ent) : Prop := Paired (fun d x => keyOk 4 d = true ∧ x.1 = keyD 4 d ∧ Is F d (.ref x.2.1) ∧ x.2.2 = .bool true) ks xs
theorem IsKs.mono {F F' : Hp} {ks : List D} {xs : List Ent} (e : Same F F') (h : IsKs F ks xs) : IsKs F' ks xs := Paired.mapP h fun _ _ q => ⟨q.1, q.2.1, q.2.2.1.mono e, q.2.2.2⟩

/-! ### states -/
section
variable (P : Program) (w : World)
/-- the object o lies at a -/
def IsO (F : Hp) (rho : Nat → Addr) (nx : Nat) (H : Hp) (o : O) (a : Addr) : Prop := match o with
  | .lst ds => ∃ vs, H a = some (.lst vs) ∧ IsVs F rho nx ds vs
  | .kset ks => ∃ xs, H a = some (KO P w a xs) ∧ IsKs F ks xs
structure Rel (F0 H0 F : Hp) (rho : Nat → Addr) (s : S) (σ : L2.St) (H : Hp) : Prop where
  sub : Same F H
  sub0 : Same F0 F
  old : Same H0 H
  fre : ∀ b o, F b = some o → F0 b ≠ none ∨ H0 b = none
  sl : ∀ i d, getS s.sl i = some d → ∃ v, σ[i]? = some (some v) ∧ IsV F rho s.nx d v
  ln : s.sl.length = σ.length
  ob : ∀ n o, getO s.h n = some o → n < s.nx ∧ H0 (rho n) = none ∧ F (rho n) = none ∧ IsO P w F rho s.nx H o (rho n)
  inj : ∀ n m o p, getO s.h n = some o → getO s.h m = some p → rho n = rho m → n = m
end
/-- what a part of the code may do to the frozen part and the heap: both grow -/
structure Step (F H F' H' : Hp) : Prop where
  f : Same F F'
  s : Same F' H'
  h : Same H H'
  n : ∀ b o, F' b = some o → F b ≠ none ∨ H b = none
theorem Step.refl {F H : Hp} (h : Same F H) : Step F H F H := ⟨Same.refl _, h, Same.refl _, fun b o e => .inl (by rw [e]; exact fun q => nomatch q)⟩
theorem Step.trans {F H F1 H1 F2 H2 : Hp} (a : Step F H F1 H1) (b : Step F1 H1 F2 H2) : Step F H F2 H2 := ⟨a.f.trans b.f, b.s, a.h.trans b.h, fun c o e => by
  rcases b.n c o e with q | q
  · cases r : F1 c with
    | none => exact (q r).elim
    | some u => exact a.n c u r
  · exact .inr (a.h.free q)⟩
theorem same_new {H : Hp} {p : Addr} {o : HO} (h : H p = none) : Same H (L2.upd H p o) := fun b u q => by
  rw [L2.upd_ne (ne_of_none q h)]
  exact q
/-- a new object, frozen -/
theorem Step.lay {F H : Hp} (e : Same F H) {p : Addr} {o : HO} (h : H p = none) : Step F H (L2.upd F p o) (L2.upd H p o) := by
  have hF : F p = none := e.free h
  refine ⟨same_new hF, fun b u q => ?_, same_new h, fun b u q => ?_⟩
  · by_cases hb : b = p
    · subst hb; rw [L2.upd_same] at q ⊢; exact q
    · rw [L2.upd_ne hb] at q ⊢; exact e b u q
  · by_cases hb : b = p
    · subst hb; exact .inr h
    · rw [L2.upd_ne hb] at q; exact .inl (by rw [q]; exact fun z => nomatch z)
/-- a new object, not frozen -/
theorem Step.own {F H : Hp} (e : Same F H) {p : Addr} {o : HO} (h : H p = none) : Step F H F (L2.upd H p o) :=
  ⟨Same.refl _, e.trans (same_new h), same_new h, fun b u q => .inl (by rw [q]; exact fun z => nomatch z)⟩

section
variable {P : Program} {w : World} {F0 H0 F F' : Hp} {rho : Nat → Addr} {s : S} {σ : L2.St} {H H' : Hp}
theorem IsO.there {nx : Nat} {o : O} {a : Addr} (h : IsO P w F rho nx H o a) : H a ≠ none := by
  cases o with
  | lst ds => obtain ⟨vs, e, _⟩ := h; rw [e]; exact fun q => nomatch q
  | kset ks => obtain ⟨xs, e, _⟩ := h; rw [e]; exact fun q => nomatch q
theorem IsO.mono {nx nx' : Nat} {rho' : Nat → Addr} {o : O} {a : Addr} (e : Same F F') (hh : ∀ u, H a = some u → H' a = some u) (ag : Agr rho rho' nx) (l : nx ≤ nx') (h : IsO P w F rho nx H o a) : IsO P w F' rho' nx' H' o a := by
  cases o with
  | lst ds => obtain ⟨vs, q, r⟩ := h; exact ⟨vs, hh _ q, r.mono e ag l⟩
  | kset ks => obtain ⟨xs, q, r⟩ := h; exact ⟨xs, hh _ q, r.mono e⟩
theorem Rel.step (R : Rel P w F0 H0 F rho s σ H) (t : Step F H F' H') : Rel P w F0 H0 F' rho s σ H' where
  sub := t.s
  sub0 := R.sub0.trans t.f
  old := R.old.trans t.h
  fre := fun b o e => by
    rcases t.n b o e with q | q
    · cases r : F b with
      | none => exact (q r).elim
      | some u => exact R.fre b u r
    · exact .inr (R.old.free q)
  sl := fun i d e => by
    obtain ⟨v, h1, h2⟩ := R.sl i d e
    exact ⟨v, h1, h2.step t.f⟩
  ln := R.ln
  ob := fun n o e => by
    obtain ⟨h1, h2, h3, h4⟩ := R.ob n o e
    refine ⟨h1, h2, ?_, h4.mono t.f (fun u q => t.h _ u q) (Agr.refl _ _) (Nat.le_refl _)⟩
    cases r : F' (rho n) with
    | none => rfl
    | some u =>
      rcases t.n _ u r with q | q
      · exact (q h3).elim
      · exact (h4.there q).elim
  inj := R.inj
end

/-! ### readings -/
section
variable (P : Program) (w : World)
def tE (e : Ex) : TE := fun σ H Q => ∃ F0 H0 F rho s d, Rel P w F0 H0 F rho s σ H ∧ e s = some d ∧ ∀ F' H' v, Step F H F' H' → IsV F' rho s.nx d v → Q v H'
def tT (e : Tx) : TT := fun σ H Q => ∃ F0 H0 F rho s b, Rel P w F0 H0 F rho s σ H ∧ e s = some b ∧ ∀ F' H', Step F H F' H' → Q b H'
/-- a new list -/
def tL (l : Lx) : TE := fun σ H Q => ∃ F0 H0 F rho s ds, Rel P w F0 H0 F rho s σ H ∧ l s = some ds ∧
  ∀ F' H' p vs, Step F H F' H' → H p = none → F' p = none → H' p = some (.lst vs) → IsAll F' ds vs → Q (.ref p) H'
/-- arguments -/
def tX (es : List Ex) : TA := fun σ H Q => ∃ F0 H0 F rho s ds, Rel P w F0 H0 F rho s σ H ∧ eArgs es s = some ds ∧ ∀ F' H' vs, Step F H F' H' → IsVs F' rho s.nx ds vs → Q vs H'
/-- a value, maybe an object of the state -/
def tA (a : Ax) : TE := fun σ H Q => ∃ F0 H0 F rho s d s', Rel P w F0 H0 F rho s σ H ∧ a s = some (d, s') ∧
  ∀ F' rho' H' v, Rel P w F0 H0 F' rho' s' σ H' → Same F F' → Agr rho rho' s.nx → s.nx ≤ s'.nx → IsV F' rho' s'.nx d v → Q v H'
def tAs (as : List Ax) : TA := fun σ H Q => ∃ F0 H0 F rho s ds s', Rel P w F0 H0 F rho s σ H ∧ aArgs as s = some (ds, s') ∧
  ∀ F' rho' H' vs, Rel P w F0 H0 F' rho' s' σ H' → Same F F' → Agr rho rho' s.nx → s.nx ≤ s'.nx → IsVs F' rho' s'.nx ds vs → Q vs H'
/-- statements -/
def After (F0 H0 F : Hp) (r : R) (D : Ends) : Prop := match r with
  | .bad => False
  | .nx s' => ∀ F' rho' σ' H', Rel P w F0 H0 F' rho' s' σ' H' → Same F F' → D.nx σ' H'
  | .rt d s' => ∀ F' rho' σ' H' v, Rel P w F0 H0 F' rho' s' σ' H' → Same F F' → IsV F' rho' s'.nx d v → D.rt v H'
def tS (b : Sx) : TS := fun D σ H => ∃ F0 H0 F rho s, Rel P w F0 H0 F rho s σ H ∧ After P w F0 H0 F (b s) D
end
abbrev XE (X : Cx) (e : Expr) (f : Ex) : Prop := PE X e (tE X.prog X.w f)
abbrev XT (X : Cx) (e : Expr) (f : Tx) : Prop := PT X e (tT X.prog X.w f)
abbrev XL (X : Cx) (e : Expr) (f : Lx) : Prop := PE X e (tL X.prog X.w f)
abbrev XX (X : Cx) (es : List Expr) (f : List Ex) : Prop := PA X es (tX X.prog X.w f)
abbrev XA (X : Cx) (e : Expr) (f : Ax) : Prop := PE X e (tA X.prog X.w f)
abbrev XAs (X : Cx) (es : List Expr) (f : List Ax) : Prop := PA X es (tAs X.prog X.w f)
abbrev XS (X : Cx) (st : Stmt) (f : Sx) : Prop := PS X st (tS X.prog X.w f)
abbrev XB (X : Cx) (st : List Stmt) (f : Sx) : Prop := PSs X st (tS X.prog X.w f)

/-! ### two, one operands -/
section
variable {P : Program} {w : World} {F0 H0 F : Hp} {rho : Nat → Addr} {s : S} {σ : L2.St} {H : Hp}
theorem tE1 {ea : Ex} {x : D} {G : V → Hp → Prop} (R : Rel P w F0 H0 F rho s σ H) (hx : ea s = some x)
    (k : ∀ F' H' v, Step F H F' H' → IsV F' rho s.nx x v → G v H') : tE P w ea σ H G := ⟨F0, H0, F, rho, s, x, R, hx, k⟩
theorem tE2 {ea eb : Ex} {x y : D} {G : V → V → Hp → Prop} (R : Rel P w F0 H0 F rho s σ H) (hx : ea s = some x) (hy : eb s = some y)
    (k : ∀ F' H' v u, Step F H F' H' → IsV F' rho s.nx x v → IsV F' rho s.nx y u → G v u H') : tE P w ea σ H fun v H1 => tE P w eb σ H1 fun u H2 => G v u H2 :=
  tE1 R hx fun F1 H1 v st1 i1 => tE1 (R.step st1) hy fun F2 H2 u st2 i2 => k F2 H2 v u (st1.trans st2) (i1.step st2.f) i2
end
/-- the rule may be chosen when it is known what is wanted -/
theorem pe_by {X : Cx} {e : Expr} {t : TE} (h : ∀ σ H Q, t σ H Q → ∃ t', PE X e t' ∧ t' σ H Q) : PE X e t := ⟨fun pins s σ H Q I q => by
  obtain ⟨t', h1, h2⟩ := h σ H Q q
  exact h1.run pins s σ H Q I h2⟩
theorem pt_by {X : Cx} {e : Expr} {t : TT} (h : ∀ σ H Q, t σ H Q → ∃ t', PT X e t' ∧ t' σ H Q) : PT X e t := ⟨fun pins s σ H Q I q => by
  obtain ⟨t', h1, h2⟩ := h σ H Q q
  exact h1.run pins s σ H Q I h2⟩
theorem ps_by {X : Cx} {e : Stmt} {t : TS} (h : ∀ D σ H, t D σ H → ∃ t', PS X e t' ∧ t' D σ H) : PS X e t := ⟨fun pins s σ H D I q => by
  obtain ⟨t', h1, h2⟩ := h D σ H q
  exact h1.run pins s σ H D I h2⟩
theorem pi_by {X : Cx} {tg e : Expr} {t : TI} (h : ∀ σ H R, t σ H R → ∃ t', PI X tg e t' ∧ t' σ H R) : PI X tg e t := ⟨fun pins s σ H R I q => by
  obtain ⟨t', h1, h2⟩ := h σ H R q
  exact h1.run pins s σ H R I h2⟩
end Kx

/-! KxE: the expressions' rules. -/
namespace Kx
open PySem L2 PyProof.Rows
section
variable {X : Cx} {a b c e : Expr} {ea eb ec : Ex} {pos p p2 : Pos}
/-! ### names, constants -/
theorem x_var {x : Str} (i : Nat) (hN : X.N[i]? = some x := by rfl) (hv : Vis X.env.scope x := by first | exact Or.inl rfl | exact Or.inr (Or.inl rfl) | exact Or.inr (Or.inr rfl)) (hd : (x == ("__debug__" : Str)) = false := by decide)
    (hcd : (x == ("__classdict__" : Str)) = false := by decide) : XE X (.Name x pos) (eVar i) := pe_by fun σ H Q h => by
  obtain ⟨F0, H0, F, rho, s, d, R, he, q⟩ := h
  obtain ⟨v, h1, h2⟩ := R.sl i d he
  exact ⟨_, pe_var hN hv hd hcd, v, h1, q F H v (Step.refl R.sub) h2⟩
theorem x_c {v : V} {d : D} (h : PE X e (tC v)) (hd : ∀ F, Is F d v) : XE X e (eC d) := pe_by fun σ H Q h' => by
  obtain ⟨F0, H0, F, rho, s, d', R, he, q⟩ := h'
  cases he
  exact ⟨_, h, q F H v (Step.refl R.sub) (IsV.of (hd F))⟩
theorem x_int {i : Int} {j} : XE X (.Constant (.int i) j pos) (eC (.int i)) := x_c pe_int fun _ => .int i
theorem x_bl {b : Bool} {j} : XE X (.Constant (.bool b) j pos) (eC (.bl b)) := x_c pe_bl fun _ => .bl b
theorem x_non {j} : XE X (.Constant .none j pos) (eC .non) := x_c pe_non fun _ => .non
/-- a negative number as it is written -/
theorem x_neg {i : Int} {j p2} : XE X (.UnaryOp .USub (.Constant (.int i) j p2) pos) (eC (.int (-i))) := pe_by fun σ H Q h' => by
  obtain ⟨F0, H0, F, rho, s, d', R, he, q⟩ := h'
  cases he
  exact ⟨_, pe_un un_neg pe_int, i, rfl, q F H _ (Step.refl R.sub) (IsV.of (.int _))⟩

/-! ### what a value is -/
theorem v_int {F : Hp} {rho : Nat → Addr} {nx : Nat} {i : Int} {v : V} (h : IsV F rho nx (.int i) v) : v = .int i := Is.int_eq h
theorem v_bl {F : Hp} {rho : Nat → Addr} {nx : Nat} {i : Bool} {v : V} (h : IsV F rho nx (.bl i) v) : v = .bl i := Is.bl_eq h
theorem lst_of {s : S} {n : Nat} {β : Type} {f : List D → Option β} {r : β} (h : lstO s n f = some r) : ∃ xs, getO s.h n = some (.lst xs) ∧ f xs = some r := by
  obtain ⟨o, h1, h2⟩ := oB_some h
  cases o with
  | lst xs => exact ⟨xs, h1, h2⟩
  | kset ks => cases h2
theorem ks_of {s : S} {n : Nat} {β : Type} {f : List D → Option β} {r : β} (h : ksO s n f = some r) : ∃ xs, getO s.h n = some (.kset xs) ∧ f xs = some r := by
  obtain ⟨o, h1, h2⟩ := oB_some h
  cases o with
  | lst xs => cases h2
  | kset ks => exact ⟨ks, h1, h2⟩
section
variable {P : Program} {w : World} {F0 H0 F : Hp} {rho : Nat → Addr} {s : S} {σ : L2.St} {H : Hp} {d : D} {v : V} {xs : List D}
/-- the items of a list or a tuple: where it lies -/
theorem items_at (R : Rel P w F0 H0 F rho s σ H) (iv : IsV F rho s.nx d v) (h : items s d = some xs) : ∃ a vs, v = .ref a ∧ (H a = some (.lst vs) ∨ TupAt H a vs) ∧ IsVs F rho s.nx xs vs := by
  cases d with
  | ptup ys =>
    cases h
    obtain ⟨a, vs, o, e, h1, _, _, h2⟩ := Is.ptup_eq iv
    exact ⟨a, vs, e, .inr (.inr ⟨o, R.sub _ _ h1⟩), h2.vs⟩
  | tup ys =>
    cases h
    obtain ⟨a, vs, e, h1, h2⟩ := Is.tup_eq iv
    exact ⟨a, vs, e, .inr (h1.mono R.sub), h2.vs⟩
  | lst ys =>
    cases h
    obtain ⟨a, vs, e, h1, h2⟩ := Is.lst_eq iv
    exact ⟨a, vs, e, .inl (R.sub _ _ h1), h2.vs⟩
  | ref n =>
    obtain ⟨ys, h1, h2⟩ := lst_of h
    cases h2
    obtain ⟨_, _, _, vs, k1, k2⟩ := R.ob n _ h1
    exact ⟨_, vs, iv.2, .inl k1, k2⟩
  | _ => cases h
theorem itemsC_items (h : itemsC s d = some xs) : items s d = some xs ∧ (∀ n, d = .ref n → clAll xs = true) := by
  cases d with
  | ptup ys => cases h; exact ⟨rfl, fun n e => nomatch e⟩
  | tup ys => cases h; exact ⟨rfl, fun n e => nomatch e⟩
  | lst ys => cases h; exact ⟨rfl, fun n e => nomatch e⟩
  | ref n =>
    obtain ⟨ys, h1, h2⟩ := lst_of h
    obtain ⟨h3, h4⟩ := ck_some h2
    cases h4
    refine ⟨?_, fun _ _ => h3⟩
    show lstO s n some = some xs
    unfold lstO
    rw [h1]
    rfl
  | _ => cases h
/-- .. all closed -/
theorem itemsC_at (R : Rel P w F0 H0 F rho s σ H) (iv : IsV F rho s.nx d v) (h : itemsC s d = some xs) : ∃ a vs, v = .ref a ∧ (H a = some (.lst vs) ∨ TupAt H a vs) ∧ IsAll F xs vs := by
  cases d with
  | ptup ys =>
    cases h
    obtain ⟨a, vs, o, e, h1, _, _, h2⟩ := Is.ptup_eq iv
    exact ⟨a, vs, e, .inr (.inr ⟨o, R.sub _ _ h1⟩), h2⟩
  | tup ys =>
    cases h
    obtain ⟨a, vs, e, h1, h2⟩ := Is.tup_eq iv
    exact ⟨a, vs, e, .inr (h1.mono R.sub), h2⟩
  | lst ys =>
    cases h
    obtain ⟨a, vs, e, h1, h2⟩ := Is.lst_eq iv
    exact ⟨a, vs, e, .inl (R.sub _ _ h1), h2⟩
  | ref n =>
    obtain ⟨h1, h2⟩ := itemsC_items h
    obtain ⟨a, vs, k1, k2, k3⟩ := items_at R iv h1
    exact ⟨a, vs, k1, k2, k3.closed (h2 n rfl)⟩
  | _ => cases h
/-- the items of a list -/
theorem listC_at (R : Rel P w F0 H0 F rho s σ H) (iv : IsV F rho s.nx d v) (h : listC s d = some xs) : ∃ a vs, v = .ref a ∧ H a = some (.lst vs) ∧ IsAll F xs vs := by
  cases d with
  | lst ys =>
    cases h
    obtain ⟨a, vs, e, h1, h2⟩ := Is.lst_eq iv
    exact ⟨a, vs, e, R.sub _ _ h1, h2⟩
  | ref n =>
    obtain ⟨ys, h1, h2⟩ := lst_of h
    obtain ⟨h3, h4⟩ := ck_some h2
    cases h4
    obtain ⟨_, _, _, vs, k1, k2⟩ := R.ob n _ h1
    exact ⟨_, vs, iv.2, k1, k2.closed h3⟩
  | _ => cases h
end
theorem ints_cons {x : D} {r : List D} {ns : List Int} (h : intsD (x :: r) = some ns) : ∃ i ms, x = .int i ∧ intsD r = some ms ∧ ns = i :: ms := by
  obtain ⟨i, h1, h2⟩ := gI_some h
  obtain ⟨ms, h3, h4⟩ := oB_some h2
  cases h4
  exact ⟨i, ms, h1, h3, rfl⟩
theorem ints_at {F : Hp} {rho : Nat → Addr} {nx : Nat} : ∀ {xs : List D} {vs : List V} {ns : List Int}, IsVs F rho nx xs vs → intsD xs = some ns → vs = ns.map V.int
  | _, _, _, .nil, h => by cases h; rfl
  | _, _, _, .cons iv t, h => by
    obtain ⟨i, ms, rfl, h2, rfl⟩ := ints_cons h
    rw [v_int iv, ints_at t h2]
    rfl
theorem ofI_map : ∀ ns : List Int, ofI ns = ns.map D.int
  | [] => rfl
  | i :: r => congrArg (D.int i :: ·) (ofI_map r)
theorem is_ints {F : Hp} : ∀ ns : List Int, IsAll F (ofI ns) (ns.map V.int)
  | [] => .nil
  | i :: r => .cons (.int i) (is_ints r)
theorem sz_short {α : Type} {xs : List α} (h : short xs = true) : xs.length ≤ 20000 := by
  have h1 : len xs ≤ 20000 := Nat.le_of_ble_eq_true h
  rw [len_eq] at h1
  exact h1
theorem line_ge {n : Nat} (h : n ≤ 100000) : n ≤ sizeLine := Nat.le_trans h (by decide)
theorem line_gt {n : Nat} (h : n ≤ 100000) : n < sizeLine := Nat.lt_of_le_of_lt h (by decide)

/-! ### arithmetic -/
theorem okI_lt {j : Int} (h : okI j = true) : -1000001 ≤ j ∧ j ≤ 1000000 := by
  cases j with
  | ofNat n =>
    have h1 : n ≤ 1000000 := Nat.le_of_ble_eq_true h
    have e : Int.ofNat n = (n : Int) := rfl
    rw [e]
    omega
  | negSucc n =>
    have h1 : n ≤ 1000000 := Nat.le_of_ble_eq_true h
    have e : Int.negSucc n = -((n : Int) + 1) := Int.negSucc_eq n
    rw [e]
    omega
theorem okW_lt {j : Int} (h : okW j = true) : j.natAbs < 2 ^ 3001 := by
  cases j with
  | ofNat n =>
    have h1 : n ≤ 2 ^ 3000 := Nat.le_of_ble_eq_true h
    show n < 2 ^ 3001
    exact Nat.lt_of_le_of_lt h1 (Nat.pow_lt_pow_right (by decide) (by decide))
  | negSucc n => cases h
theorem ltI_iff {i j : Int} (h : ltI i j = true) : i < j := by
  rw [ltI_eq] at h
  exact of_decide_eq_true h
/-- an arithmetic rule of ints -/
theorem x_ar {op : Operator} {C : Int → Int → Prop} {g : Int → Int → Int} {f : S → D → D → Option D} (ha : XE X a ea) (hb : XE X b eb)
    (hf : ∀ s x y d, f s x y = some d → ∃ i j, x = .int i ∧ y = .int j ∧ d = .int (g i j) ∧ ∃ r, OpR X (binaryOp op) r ∧ ∀ H (Q : VK), Q (.int (g i j)) H → r (.int i) (.int j) H Q) :
    XE X (.BinOp a op b pos) (eB f ea eb) := pe_by fun σ H Q h => by
  obtain ⟨F0, H0, F, rho, s, d, R, he, q⟩ := h
  obtain ⟨x, hx, he_1⟩ := oB_some he
  obtain ⟨y, hy, he_2⟩ := oB_some he_1
  obtain ⟨i, j, rfl, rfl, rfl, r, hr, hq⟩ := hf s x y d he_2
  refine ⟨_, pe_op hr ha hb, tE2 R hx hy fun F' H' v u st iv iu => ?_⟩
  rw [v_int iv, v_int iu]
  exact hq H' Q (q F' H' _ st (IsV.of (.int _)))
theorem x_sub (ha : XE X a ea) (hb : XE X b eb) : XE X (.BinOp a .Sub b pos) (eSub ea eb) := x_ar (g := fun i j => i - j) (C := fun _ _ => True) ha hb fun s x y d h => by
  obtain ⟨i, rfl, h_3⟩ := gI_some h
  obtain ⟨j, rfl, h_4⟩ := gI_some h_3
  cases h_4
  exact ⟨i, j, rfl, rfl, by rw [subI_eq], _, op_sub, fun H Q q => ⟨i, j, rfl, rfl, q⟩⟩
theorem x_mul (ha : XE X a ea) (hb : XE X b eb) : XE X (.BinOp a .Mult b pos) (eMul ea eb) := x_ar (g := fun i j => i * j) (C := fun _ _ => True) ha hb fun s x y d h => by
  obtain ⟨i, rfl, h_5⟩ := gI_some h
  obtain ⟨j, rfl, h_6⟩ := gI_some h_5
  refine ⟨i, j, rfl, rfl, ?_⟩
  cases e : okI j with
  | true =>
    rw [e] at h_6
    cases h_6
    have b := okI_lt e
    exact ⟨by rw [mulI_eq], _, op_mul, fun H Q q => ⟨i, j, rfl, rfl, .inr (by constructor <;> omega), q⟩⟩
  | false =>
    rw [e] at h_6
    obtain ⟨h1, h_7⟩ := ck_some h_6
    obtain ⟨h2, h_8⟩ := ck_some h_7
    cases h_8
    exact ⟨by rw [mulI_eq], _, op_mulW, fun H Q q => ⟨i, j, rfl, rfl, wide_mul (okW_lt h1) (okW_lt h2) (by decide) (by decide) (by decide), q⟩⟩
theorem x_div (ha : XE X a ea) (hb : XE X b eb) : XE X (.BinOp a .FloorDiv b pos) (eDiv ea eb) := x_ar (g := fun i j => i / j) (C := fun _ _ => True) ha hb fun s x y d h => by
  obtain ⟨i, rfl, h_9⟩ := gI_some h
  obtain ⟨j, rfl, h_10⟩ := gI_some h_9
  obtain ⟨h1, h_11⟩ := ck_some h_10
  obtain ⟨h2, h_12⟩ := ck_some h_11
  cases h_12
  have b := okI_lt h1
  exact ⟨i, j, rfl, rfl, by rw [divI_eq], _, op_fdiv, fun H Q q => ⟨i, j, rfl, rfl, ⟨ltI_iff h2, by omega⟩, q⟩⟩
theorem x_mod (ha : XE X a ea) (hb : XE X b eb) : XE X (.BinOp a .Mod b pos) (eMod ea eb) := x_ar (g := fun i j => i % j) (C := fun _ _ => True) ha hb fun s x y d h => by
  obtain ⟨i, rfl, h_13⟩ := gI_some h
  obtain ⟨j, rfl, h_14⟩ := gI_some h_13
  obtain ⟨h2, h_15⟩ := ck_some h_14
  cases h_15
  exact ⟨i, j, rfl, rfl, by rw [modI_eq], _, op_mod, fun H Q q => ⟨i, j, rfl, rfl, ltI_iff h2, q⟩⟩
theorem x_add (ha : XE X a ea) (hb : XE X b eb) : XE X (.BinOp a .Add b pos) (eAdd ea eb) := pe_by fun σ H Q h => by
  obtain ⟨F0, H0, F, rho, s, d, R, he, q⟩ := h
  obtain ⟨x, hx, h1⟩ := oB_some he
  obtain ⟨y, hy, h2⟩ := oB_some h1
  have lists : ∀ as, listC s x = some as → (oB (listC s y) fun b => ck (short as) (ck (short b) (some (D.lst (app as b))))) = some d →
      ∃ t', PE X (.BinOp a .Add b pos) t' ∧ t' σ H Q := fun as g1 k => by
    obtain ⟨bs, g2, k2⟩ := oB_some k
    obtain ⟨z1, k3⟩ := ck_some k2
    obtain ⟨z2, k4⟩ := ck_some k3
    cases k4
    refine ⟨_, pe_op op_cat ha hb, tE2 R hx hy fun F' H' v u st iv iu => ?_⟩
    obtain ⟨av, vs, rfl, f1, f2⟩ := listC_at (R.step st) iv g1
    obtain ⟨bv, us, rfl, f3, f4⟩ := listC_at (R.step st) iu g2
    have l1 := f2.length
    have l2 := f4.length
    have z3 := sz_short z1
    have z4 := sz_short z2
    refine ⟨av, bv, vs, us, rfl, rfl, f1, f3, line_ge (by omega), fun pa np => ?_⟩
    refine q _ _ _ (st.trans (Step.lay st.s np)) (IsV.of (.lst L2.upd_same ?_))
    rw [app_eq]
    exact (f2.append f4).mono (same_new (st.s.free np))
  cases x with
  | int i =>
    obtain ⟨j, rfl, h3⟩ := gI_some h2
    cases h3
    refine ⟨_, pe_op op_add ha hb, tE2 R hx hy fun F' H' v u st iv iu => ⟨i, j, v_int iv, v_int iu, q F' H' _ st (IsV.of ?_)⟩⟩
    rw [addI_eq]
    exact .int _
  | tup as =>
    obtain ⟨bs, rfl, h3⟩ := gT_some h2
    obtain ⟨z1, h4⟩ := ck_some h3
    obtain ⟨z2, h5⟩ := ck_some h4
    cases h5
    refine ⟨_, pe_op op_catA ha hb, tE2 R hx hy fun F' H' v u st iv iu => ?_⟩
    obtain ⟨av, vs, rfl, f1, f2⟩ := Is.tup_eq iv
    obtain ⟨bv, us, rfl, f3, f4⟩ := Is.tup_eq iu
    have l1 := f2.length
    have l2 := f4.length
    have z3 := sz_short z1
    have z4 := sz_short z2
    rw [app_eq] at q
    refine ⟨av, bv, vs, us, rfl, rfl, (f1.mono st.s).sq, (f3.mono st.s).sq, line_ge (by omega), fun e => ?_, fun _ e => ?_, fun _ _ pa np => ?_⟩
    · subst e
      cases f2
      exact q _ _ _ st (IsV.of (.tup f3 f4))
    · subst e
      cases f4
      rw [List.append_nil] at q
      exact q _ _ _ st (IsV.of (.tup f1 f2))
    · exact q _ _ _ (st.trans (Step.lay st.s np)) (IsV.of (.tup (.inl L2.upd_same) ((f2.append f4).mono (same_new (st.s.free np)))))
  | lst as => exact lists as rfl h2
  | ref n =>
    obtain ⟨as, g1, h3⟩ := oB_some h2
    exact lists as g1 h3
  | _ => cases h2

/-! ### comparisons -/
/-- a comparison's rule, by values -/
def CmpK (X : Cx) (op : CmpOp) (f : S → D → D → Option D) : Prop :=
  ∀ (F0 H0 F : Hp) (rho : Nat → Addr) (s : S) (σ : L2.St) (H : Hp) (x y d : D) (Q : VK), Rel X.prog X.w F0 H0 F rho s σ H → f s x y = some d → (∀ F' H' v, Step F H F' H' → IsV F' rho s.nx d v → Q v H') →
    ∃ r, OpR X (compareOp op) r ∧ ∀ F' H' v u, Step F H F' H' → IsV F' rho s.nx x v → IsV F' rho s.nx y u → r v u H' Q
theorem x_cmp {op : CmpOp} {f : S → D → D → Option D} (hk : CmpK X op f) (ha : XE X a ea) (hb : XE X b eb) (hm : behindInMarks op b = false) : XE X (.Compare a [op] [b] pos) (eB f ea eb) := pe_by fun σ H Q h => by
  obtain ⟨F0, H0, F, rho, s, d, R, he, q⟩ := h
  obtain ⟨x, hx, he_26⟩ := oB_some he
  obtain ⟨y, hy, he_27⟩ := oB_some he_26
  obtain ⟨r, hr, k⟩ := hk F0 H0 F rho s σ H x y d Q R he_27 q
  exact ⟨_, pe_cmpR hr ha hb hm, tE2 R hx hy k⟩
theorem xt_cmp {op : CmpOp} {f : S → D → D → Option D} (hk : CmpK X op f) (ha : XE X a ea) (hb : XE X b eb) (hm : behindInMarks op b = false) : XT X (.Compare a [op] [b] pos) (tV (eB f ea eb)) := pt_by fun σ H Q h => by
  obtain ⟨F0, H0, F, rho, s, bb, R, he, q⟩ := h
  obtain ⟨d, he, hg⟩ := oB_some he
  obtain ⟨k0, rfl, hg⟩ := gB_some hg
  cases hg
  obtain ⟨x, hx, he_28⟩ := oB_some he
  obtain ⟨y, hy, he_29⟩ := oB_some he_28
  obtain ⟨r, hr, k⟩ := hk F0 H0 F rho s σ H x y _ (fun v H' => ∃ k, v = .bl k ∧ Q k H') R he_29 fun F' H' v st iv => ⟨bb, v_bl iv, q F' H' st⟩
  exact ⟨_, pt_cmpR hr ha hb hm, tE2 R hx hy k⟩
theorem ck_lt : CmpK X .Lt fLt := fun F0 H0 F rho s σ H x y d Q R h q => by
  obtain ⟨i, rfl, h_30⟩ := gI_some h
  obtain ⟨j, rfl, h_31⟩ := gI_some h_30
  cases h_31
  refine ⟨_, op_lt, fun F' H' v u st iv iu => ⟨i, j, v_int iv, v_int iu, ?_⟩⟩
  show Q (.bl (decide (i < j))) H'
  rw [← ltI_eq]
  exact q F' H' _ st (IsV.of (.bl _))
theorem ck_gt : CmpK X .Gt fGt := fun F0 H0 F rho s σ H x y d Q R h q => by
  obtain ⟨i, rfl, h_32⟩ := gI_some h
  obtain ⟨j, rfl, h_33⟩ := gI_some h_32
  cases h_33
  refine ⟨_, op_gt, fun F' H' v u st iv iu => ⟨i, j, v_int iv, v_int iu, ?_⟩⟩
  show Q (.bl (decide (j < i))) H'
  rw [← ltI_eq]
  exact q F' H' _ st (IsV.of (.bl _))
theorem ck_ge : CmpK X .GtE fGe := fun F0 H0 F rho s σ H x y d Q R h q => by
  obtain ⟨i, rfl, h_34⟩ := gI_some h
  obtain ⟨j, rfl, h_35⟩ := gI_some h_34
  cases h_35
  refine ⟨_, op_ge, fun F' H' v u st iv iu => ⟨i, j, v_int iv, v_int iu, ?_⟩⟩
  show Q (.bl (decide (j ≤ i))) H'
  rw [← leI_eq]
  exact q F' H' _ st (IsV.of (.bl _))
end
end Kx

/-! KxQ: == and != of data, None, not in. -/
namespace Kx
open PySem L2 PyProof.Rows
/-- data as the library's data -/
noncomputable def toPy (k : Nat) (d : D) : PyData := @Nat.rec (fun _ => D → PyData) (fun _ => .none) (fun _ ih d => dC d .none (fun _ => .none) (fun i => .int i) (fun _ => .none) (fun xs => .tuple (xs.map ih)) (fun xs => .list (xs.map ih)) (fun _ => .none) (fun _ => .none) (fun _ => .none)) k d
theorem allB_cons {f : D → Bool} {x : D} {r : List D} (h : allB f (x :: r) = true) : f x = true ∧ allB f r = true := by
  have h1 : @Bool.rec (fun _ => Bool) false (allB f r) (f x) = true := h
  cases e : f x with
  | false => rw [e] at h1; cases h1
  | true => rw [e] at h1; exact ⟨rfl, h1⟩
mutual
theorem dp_of {K : PySem.W.Frag} {F H : Hp} (e : Same F H) : ∀ (k : Nat) (d : D) (v : V), pyOk k d = true → Is F d v → Dp K H v (toPy k d)
  | 0, d, v, h, _ => by cases h
  | k + 1, .non, v, h, i => by rw [i.non_eq]; exact .non
  | k + 1, .bl b, v, h, i => by cases h
  | k + 1, .int j, v, h, i => by rw [i.int_eq]; exact .int j
  | k + 1, .rep j, v, h, i => by cases h
  | k + 1, .tup xs, v, h, i => by
    obtain ⟨a, vs, rfl, h1, h2⟩ := i.tup_eq
    exact .tup (h1.mono e).sq (dps_of e k xs vs h h2)
  | k + 1, .lst xs, v, h, i => by
    obtain ⟨a, vs, rfl, h1, h2⟩ := i.lst_eq
    exact .lst (SqL.of (e _ _ h1)) (dps_of e k xs vs h h2)
  | k + 1, .idict xs, v, h, i => by cases h
  | k + 1, .ref n, v, h, i => by cases h
  | k + 1, .ptup n, v, h, i => by cases h
theorem dps_of {K : PySem.W.Frag} {F H : Hp} (e : Same F H) : ∀ (k : Nat) (ds : List D) (vs : List V), allB (pyOk k) ds = true → IsAll F ds vs → DpAll K H vs (ds.map (toPy k))
  | k, _, _, _, .nil => .nil
  | k, _, _, h, .cons i t => .cons (dp_of e k _ _ (allB_cons h).1 i) (dps_of e k _ _ (allB_cons h).2 t)
end
theorem lay_all {f : D → PyData} {g : D → Bool} (hf : ∀ d, g d = true → (f d).canLay0 = true) : ∀ ds : List D, allB g ds = true → PyData.canLayAll0 (ds.map f) = true
  | [], _ => rfl
  | d :: r, h => by
    show (PyData.canLay0 (f d) && PyData.canLayAll0 (r.map f)) = true
    rw [hf d (allB_cons h).1, lay_all hf r (allB_cons h).2]
    rfl
theorem py_lay : ∀ (k : Nat) (d : D), pyOk k d = true → (toPy k d).canLay0 = true
  | 0, d, h => by cases h
  | k + 1, d, h => by
    cases d with
    | tup xs => exact lay_all (py_lay k) xs h
    | lst xs => exact lay_all (py_lay k) xs h
    | non => rfl
    | int i => rfl
    | _ => cases h
theorem depth_all {f : D → PyData} {n : Nat} (hf : ∀ d, (f d).depth ≤ n) : ∀ ds : List D, PyData.depthAll (ds.map f) ≤ n
  | [] => Nat.zero_le _
  | d :: r => Nat.max_le.mpr ⟨hf d, depth_all hf r⟩
theorem py_depth : ∀ (k : Nat) (d : D), (toPy k d).depth ≤ k
  | 0, d => Nat.le_refl _
  | k + 1, d => by
    cases d with
    | tup xs => exact Nat.succ_le_succ (depth_all (py_depth k) xs)
    | lst xs => exact Nat.succ_le_succ (depth_all (py_depth k) xs)
    | non => exact Nat.zero_le _
    | int i => exact Nat.zero_le _
    | bl b => exact Nat.zero_le _
    | rep i => exact Nat.zero_le _
    | idict i => exact Nat.zero_le _
    | ref i => exact Nat.zero_le _
    | ptup i => exact Nat.zero_le _
theorem py_shape {k : Nat} (hk : k ≤ 64) {d : D} (h : pyOk k d = true) : SeqAt.shaped (toPy k d) = true := by
  unfold SeqAt.shaped
  rw [py_lay k d h, decide_eq_true (Nat.le_trans (py_depth k d) hk)]
  rfl
theorem eqv_all {f : D → PyData} {g : D → Bool} {q : D → D → Bool} (hf : ∀ x y, g x = true → g y = true → PyData.eqv (f x) (f y) = q x y) :
    ∀ xs ys : List D, allB g xs = true → allB g ys = true → PyData.eqvAll (xs.map f) (ys.map f) = eqL q xs ys
  | [], [], _, _ => rfl
  | [], _ :: _, _, _ => rfl
  | _ :: _, [], _, _ => rfl
  | x :: xs, y :: ys, h1, h2 => by
    show (PyData.eqv (f x) (f y) && PyData.eqvAll (xs.map f) (ys.map f)) = @Bool.rec (fun _ => Bool) false (eqL q xs ys) (q x y)
    rw [hf x y (allB_cons h1).1 (allB_cons h2).1, eqv_all hf xs ys (allB_cons h1).2 (allB_cons h2).2]
    cases q x y <;> rfl
theorem py_eqv : ∀ (k : Nat) (x y : D), pyOk k x = true → pyOk k y = true → PyData.eqv (toPy k x) (toPy k y) = eqT k x y
  | 0, x, y, h, _ => by cases h
  | k + 1, x, y, h1, h2 => by
    cases x with
    | non => cases y <;> first | rfl | (cases h2; done)
    | int i => cases y <;> first | (cases h2; done) | rfl | exact (show (i == _) = eqI i _ by rw [eqI_eq]; rfl)
    | tup xs =>
      cases y <;> first | (cases h2; done) | rfl | exact eqv_all (py_eqv k) xs _ h1 h2
    | lst xs =>
      cases y <;> first | (cases h2; done) | rfl | exact eqv_all (py_eqv k) xs _ h1 h2
    | _ => cases h1
theorem eqD_some {x y : D} {b : Bool} (h : eqD 7 x y = some b) : pyOk 7 x = true ∧ pyOk 7 y = true ∧ b = eqT 7 x y := by
  obtain ⟨h1, h2⟩ := ck_some h
  obtain ⟨h3, h4⟩ := ck_some h2
  cases h4
  exact ⟨h1, h3, rfl⟩
theorem py_cl {x : D} (h : pyOk 7 x = true) : cl x = true := by
  cases x <;> first | rfl | (cases h; done)
section
variable {X : Cx} {a b c e : Expr} {ea eb ec : Ex} {pos p p2 : Pos}
theorem ck_eq (hu : X.A.units + 64 < cLine) : CmpK X .Eq fEq := fun F0 H0 F rho s σ H x y d Q R h q => by
  obtain ⟨bb, h1, h2⟩ := oB_some h
  cases h2
  obtain ⟨k1, k2, rfl⟩ := eqD_some h1
  refine ⟨_, op_eqD hu, fun F' H' v u st iv iu => ?_⟩
  have d1 := dp_of (K := X.K) st.s 7 x v k1 (iv.closed (py_cl k1))
  have d2 := dp_of (K := X.K) st.s 7 y u k2 (iu.closed (py_cl k2))
  refine ⟨_, _, d1, d2, py_shape (by decide) k1, py_shape (by decide) k2, ?_⟩
  rw [py_eqv 7 x y k1 k2]
  exact q F' H' _ st (IsV.of (.bl _))
theorem ck_ne (hu : X.A.units + 64 < cLine) : CmpK X .NotEq fNe := fun F0 H0 F rho s σ H x y d Q R h q => by
  obtain ⟨bb, h1, h2⟩ := oB_some h
  cases h2
  obtain ⟨k1, k2, rfl⟩ := eqD_some h1
  refine ⟨_, op_neD hu, fun F' H' v u st iv iu => ?_⟩
  have d1 := dp_of (K := X.K) st.s 7 x v k1 (iv.closed (py_cl k1))
  have d2 := dp_of (K := X.K) st.s 7 y u k2 (iu.closed (py_cl k2))
  refine ⟨_, _, d1, d2, py_shape (by decide) k1, py_shape (by decide) k2, ?_⟩
  rw [py_eqv 7 x y k1 k2]
  exact q F' H' _ st (IsV.of (.bl _))
/-- != of two texts of ints -/
theorem ck_neR : CmpK X .NotEq fNeR := fun F0 H0 F rho s σ H x y d Q R h q => by
  cases x with
  | rep i =>
    cases y with
    | rep j =>
      obtain ⟨h1, h2⟩ := ck_some (show ck (eqI i j) (some (D.bl false)) = some d from h)
      cases h2
      rw [eqI_eq] at h1
      obtain rfl := of_decide_eq_true h1
      refine ⟨_, op_ne, fun F' H' v u st iv iu => ?_⟩
      have e1 : v = .str (reprS i) := by cases (show Is F' (.rep i) v from iv); rfl
      have e2 : u = .str (reprS i) := by cases (show Is F' (.rep i) u from iu); rfl
      refine ⟨by rw [e1, e2]; rfl, ?_⟩
      rw [e1, e2, decide_eq_true rfl]
      exact q F' H' _ st (IsV.of (.bl _))
    | _ => cases h
  | _ => cases h
theorem isN_of {F : Hp} {rho : Nat → Addr} {nx : Nat} {d : D} {v : V} (iv : IsV F rho nx d v) : decide (v = .non) = isN d := by
  cases d with
  | non => rw [Is.non_eq iv]; rfl
  | bl b => rw [Is.bl_eq iv]; rfl
  | int b => rw [Is.int_eq iv]; rfl
  | rep b => cases (show Is F (.rep b) v from iv); rfl
  | tup xs => obtain ⟨a, vs, rfl, _⟩ := Is.tup_eq iv; rfl
  | lst xs => obtain ⟨a, vs, rfl, _⟩ := Is.lst_eq iv; rfl
  | idict xs => obtain ⟨a, vs, rfl, _⟩ := Is.idict_eq iv; rfl
  | ref n => rw [iv.2]; rfl
  | ptup xs => obtain ⟨a, vs, o, rfl, _⟩ := Is.ptup_eq iv; rfl
theorem x_isN {j p3} (ha : XE X a ea) : XE X (.Compare a [.Is] [.Constant .none j p3] pos) (eIs ea) := pe_by fun σ H Q h => by
  obtain ⟨F0, H0, F, rho, s, d, R, he, q⟩ := h
  obtain ⟨x, hx, h1⟩ := oB_some he
  cases h1
  refine ⟨_, pe_cmpR op_isN ha pe_non (nomark _), tE1 R hx fun F' H' v st iv => ⟨rfl, ?_⟩⟩
  rw [isN_of iv]
  exact q F' H' _ st (IsV.of (.bl _))
theorem x_notN {j p3} (ha : XE X a ea) : XE X (.Compare a [.IsNot] [.Constant .none j p3] pos) (eIsNot ea) := pe_by fun σ H Q h => by
  obtain ⟨F0, H0, F, rho, s, d, R, he, q⟩ := h
  obtain ⟨x, hx, h1⟩ := oB_some he
  cases h1
  refine ⟨_, pe_cmpR op_notN ha pe_non (nomark _), tE1 R hx fun F' H' v st iv => ⟨rfl, ?_⟩⟩
  rw [isN_of iv]
  exact q F' H' _ st (IsV.of (.bl _))
theorem xt_isN {j p3} (ha : XE X a ea) : XT X (.Compare a [.Is] [.Constant .none j p3] pos) (tV (eIs ea)) := pt_by fun σ H Q h => by
  obtain ⟨F0, H0, F, rho, s, bb, R, he, q⟩ := h
  obtain ⟨d, h1, h2⟩ := oB_some he
  obtain ⟨x, hx, h3⟩ := oB_some h1
  cases h3
  cases h2
  refine ⟨_, pt_cmpR op_isN ha pe_non (nomark _), tE1 R hx fun F' H' v st iv => ⟨rfl, _, rfl, ?_⟩⟩
  rw [isN_of iv]
  exact q F' H' st
theorem xt_notN {j p3} (ha : XE X a ea) : XT X (.Compare a [.IsNot] [.Constant .none j p3] pos) (tV (eIsNot ea)) := pt_by fun σ H Q h => by
  obtain ⟨F0, H0, F, rho, s, bb, R, he, q⟩ := h
  obtain ⟨d, h1, h2⟩ := oB_some he
  obtain ⟨x, hx, h3⟩ := oB_some h1
  cases h3
  cases h2
  refine ⟨_, pt_cmpR op_notN ha pe_non (nomark _), tE1 R hx fun F' H' v st iv => ⟨rfl, _, rfl, ?_⟩⟩
  rw [isN_of iv]
  exact q F' H' st
theorem memI_in (i : Int) : ∀ ns : List Int, inV (.int i) (ns.map V.int) = memI i ns
  | [] => rfl
  | j :: r => by
    show ((j == i) || inV (.int i) (r.map V.int)) = @Bool.rec (fun _ => Bool) (memI i r) true (eqI j i)
    rw [memI_in i r, eqI_eq]
    by_cases e : j = i
    · rw [decide_eq_true e, e]; simp
    · rw [decide_eq_false e, beq_eq_false_iff_ne.mpr e]; rfl
theorem flat_ints : ∀ ns : List Int, (ns.map V.int).all flatV = true
  | [] => rfl
  | j :: r => flat_ints r
theorem ck_notIn : CmpK X .NotIn fNotIn := fun F0 H0 F rho s σ H x y d Q R h q => by
  obtain ⟨i, rfl, h1⟩ := gI_some h
  obtain ⟨xs, h2, h3⟩ := oB_some h1
  obtain ⟨ns, h4, h5⟩ := oB_some h3
  cases h5
  refine ⟨_, op_notIn_seq, fun F' H' v u st iv iu => ?_⟩
  obtain ⟨a, vs, rfl, k1, k2⟩ := items_at (R.step st) iu h2
  obtain rfl := ints_at k2 h4
  rw [v_int iv]
  refine ⟨a, _, rfl, k1.imp SqL.of TupAt.sq, rfl, flat_ints ns, ?_⟩
  show Q (.bl (!inV (.int i) (ns.map V.int))) H'
  rw [memI_in]
  exact q F' H' _ st (IsV.of (.bl _))

/-! ### tests -/
theorem xt_and {rest : List Expr} {ta tb : Tx} (ha : XT X a ta) (hb : PW X (.BoolOp .And (b :: rest) pos) (tT X.prog X.w tb)) : PW X (.BoolOp .And (a :: b :: rest) pos) (tT X.prog X.w (tAnd ta tb)) := ⟨fun wh pins st σ H Q I h => by
  obtain ⟨F0, H0, F, rho, s, bb, R, he, q⟩ := h
  obtain ⟨c, h1, h2⟩ := oB_some he
  refine (pw_and ha hb).run wh pins st σ H Q I ⟨F0, H0, F, rho, s, c, R, h1, fun F' H' st => ?_⟩
  cases c with
  | true => exact iteT ⟨F0, H0, F', rho, s, bb, R.step st, h2, fun F2 H2 st2 => q F2 H2 (st.trans st2)⟩
  | false => cases h2; exact iteF (q F' H' st)⟩
theorem xt_or {rest : List Expr} {ta tb : Tx} (ha : XT X a ta) (hb : PW X (.BoolOp .Or (b :: rest) pos) (tT X.prog X.w tb)) : PW X (.BoolOp .Or (a :: b :: rest) pos) (tT X.prog X.w (tOr ta tb)) := ⟨fun wh pins st σ H Q I h => by
  obtain ⟨F0, H0, F, rho, s, bb, R, he, q⟩ := h
  obtain ⟨c, h1, h2⟩ := oB_some he
  refine (pw_or ha hb).run wh pins st σ H Q I ⟨F0, H0, F, rho, s, c, R, h1, fun F' H' st => ?_⟩
  cases c with
  | false => exact iteF ⟨F0, H0, F', rho, s, bb, R.step st, h2, fun F2 H2 st2 => q F2 H2 (st.trans st2)⟩
  | true => cases h2; exact iteT (q F' H' st)⟩
theorem xt_and1 {ta : Tx} (ha : XT X a ta) : PW X (.BoolOp .And [a] pos) (tT X.prog X.w ta) := pw_and1 ha
theorem xt_or1 {ta : Tx} (ha : XT X a ta) : PW X (.BoolOp .Or [a] pos) (tT X.prog X.w ta) := pw_or1 ha
theorem xt_not {ta : Tx} (ha : XT X a ta) : XT X (.UnaryOp .Not a pos) (tNot ta) := pt_by fun σ H Q h => by
  obtain ⟨F0, H0, F, rho, s, bb, R, he, q⟩ := h
  obtain ⟨c, h1, h2⟩ := oB_some he
  cases h2
  exact ⟨_, pt_not ha, F0, H0, F, rho, s, c, R, h1, fun F' H' st => q F' H' st⟩
/-- a call's answer, a bool, as a test -/
theorem xt_val (ha : XE X a ea) (he : ∀ whole, isTrue a X.env whole = (do let v ← whole; standAt a.pos; holding [v] (truthy v)) := by intro _; rfl) : XT X a (tV ea) := pt_by fun σ H Q h => by
  obtain ⟨F0, H0, F, rho, s, bb, R, he2, q⟩ := h
  obtain ⟨d, h1, h2⟩ := oB_some he2
  obtain ⟨k, rfl, h3⟩ := gB_some h2
  cases h3
  exact ⟨_, pt_val ha he, tE1 R h1 fun F' H' v st iv => ⟨_, v_bl iv, q F' H' st⟩⟩
/-- a list's, a tuple's truth -/
theorem xt_tru (ha : XE X a ea) (he : ∀ whole, isTrue a X.env whole = (do let v ← whole; standAt a.pos; holding [v] (truthy v)) := by intro _; rfl) : XT X a (tTru ea) := pt_by fun σ H Q h => by
  obtain ⟨F0, H0, F, rho, s, bb, R, he2, q⟩ := h
  obtain ⟨d, h1, h2⟩ := oB_some he2
  obtain ⟨xs, h3, h4⟩ := oB_some h2
  cases h4
  refine ⟨_, pt_truth ha he, tE1 R h1 fun F' H' v st iv => ?_⟩
  obtain ⟨p0, vs, rfl, k1, k2⟩ := items_at (R.step st) iv h3
  have e : (!isE xs) = !vs.isEmpty := by cases k2 <;> rfl
  refine ⟨!isE xs, ?_, q F' H' st⟩
  rcases k1 with k1 | k1
  · exact .inl ⟨vs, SqL.of k1, e⟩
  · exact .inr (.inl ⟨vs, k1.sq, e⟩)
theorem x_or {rest : List Expr} (ha : XE X a ea) (hb : XE X (.BoolOp .Or (b :: rest) pos) eb) : XE X (.BoolOp .Or (a :: b :: rest) pos) (eOr ea eb) := pe_by fun σ H Q h => by
  obtain ⟨F0, H0, F, rho, s, d, R, he, q⟩ := h
  obtain ⟨x, hx, h1⟩ := oB_some he
  obtain ⟨c, rfl, h2⟩ := gB_some h1
  refine ⟨_, pe_or ha hb, tE1 R hx fun F' H' v st iv => ⟨c, v_bl iv, ?_⟩⟩
  cases c with
  | true => cases h2; exact iteT (q F' H' _ st (IsV.of (.bl _)))
  | false =>
    obtain ⟨y, hy, h3⟩ := oB_some h2
    obtain ⟨c2, rfl, h4⟩ := gB_some h3
    cases h4
    exact iteF (tE1 (R.step st) hy fun F2 H2 u st2 iu => q F2 H2 u (st.trans st2) iu)
theorem x_one {op} (ha : XE X a ea) : XE X (.BoolOp op [a] pos) ea := pe_one ha
theorem x_if {t : Expr} {tt : Tx} (ht : XT X t tt) (ha : XE X a ea) (hb : XE X b eb) : XE X (.IfExp t a b pos) (eIf tt ea eb) := pe_by fun σ H Q h => by
  obtain ⟨F0, H0, F, rho, s, d, R, he, q⟩ := h
  obtain ⟨c, hc, h1⟩ := oB_some he
  refine ⟨_, pe_ifExp ht ha hb, F0, H0, F, rho, s, c, R, hc, fun F' H' st => ?_⟩
  cases c with
  | true => exact iteT (tE1 (R.step st) h1 fun F2 H2 u st2 iu => q F2 H2 u (st.trans st2) iu)
  | false => exact iteF (tE1 (R.step st) h1 fun F2 H2 u st2 iu => q F2 H2 u (st.trans st2) iu)
end
end Kx

/-! KxC: arguments, calls of defs and of built-ins, subscripts, slices, displays. -/
namespace Kx
open PySem L2 PyProof.Rows

/-! ### calls of defs -/
/-- the promise of a def with n parameters: on closed data it gives what f gives, and leaves what was there -/
def spD (n : Nat) (f : Fn) : Sp := fun vs H Q _ => ∃ F ds r, ds.length = n ∧ Same F H ∧ IsAll F ds vs ∧ f ds = some r ∧ ∀ F' H' v, Step F H F' H' → Is F' r v → Q v H'
theorem spD_len {n : Nat} {f : Fn} {vs : List V} {H : Hp} {Q : VK} {E : XK} (h : spD n f vs H Q E) : vs.length = n := by
  obtain ⟨F, ds, r, h1, _, h3, _⟩ := h
  rw [← h3.length, h1]
/-- fewer answers promise less -/
theorem spD_mono {n : Nat} {f g : Fn} (hg : ∀ ds r, g ds = some r → f ds = some r) {vs : List V} {H : Hp} {Q : VK} {E : XK} (h : spD n g vs H Q E) : spD n f vs H Q E := by
  obtain ⟨F, ds, r, h1, h2, h3, h4, h5⟩ := h
  exact ⟨F, ds, r, h1, h2, h3, hg _ _ h4, h5⟩
section
variable {X : Cx} {a b c e : Expr} {ea eb ec : Ex} {pos p p2 : Pos}
theorem eArgs_cons {s : S} {es : List Ex} {ds : List D} (h : eArgs (ea :: es) s = some ds) : ∃ x xs, ea s = some x ∧ eArgs es s = some xs ∧ ds = x :: xs := by
  obtain ⟨x, h1, h2⟩ := oB_some h
  obtain ⟨xs, h3, h4⟩ := oB_some h2
  cases h4
  exact ⟨x, xs, h1, h3, rfl⟩
theorem eArgs_len {s : S} : ∀ {es : List Ex} {ds : List D}, eArgs es s = some ds → ds.length = es.length
  | [], _, h => by cases h; rfl
  | e :: es, _, h => by
    obtain ⟨x, xs, _, h2, rfl⟩ := eArgs_cons h
    exact congrArg Nat.succ (eArgs_len h2)
theorem xx_nil : XX X [] [] := ⟨fun pos pins st σ H Q I h => by
  obtain ⟨F0, H0, F, rho, s, ds, R, he, q⟩ := h
  cases he
  exact pa_nil.run pos pins st σ H Q I (q F H [] (Step.refl R.sub) .nil)⟩
theorem xx_cons {es : List Expr} {ees : List Ex} (ha : XE X a ea) (hr : XX X es ees) (hs : starEach (a :: es) X.env = (false, eval a X.env) :: starEach es X.env := by rfl) : XX X (a :: es) (ea :: ees) := ⟨fun pos pins st σ H Q I h => by
  obtain ⟨F0, H0, F, rho, s, ds, R, he, q⟩ := h
  obtain ⟨x, xs, h1, h2, rfl⟩ := eArgs_cons he
  refine (pa_cons ha hr hs).run pos pins st σ H Q I (tE1 R h1 fun F' H' v st iv => ⟨F0, H0, F', rho, s, xs, R.step st, h2, fun F2 H2 vs st2 ivs => q F2 H2 (v :: vs) (st.trans st2) (.cons (iv.step st2.f) ivs)⟩)⟩
section
variable {k n : Nat} {f : Addr} {fd : FuncData} {ps : List Str} {g : Fn} {x : Str} {es : List Expr} {ees : List Ex}
theorem x_call (G : FnOk X.prog X.w X.K X.mg X.base CX0 k f fd ps (spD n g)) (hr : Room k X.A) (hg : Gl X x) (hm : X.mg x = some (.ref f)) (hk : PySem.W.keepIn X.K (.ref f) = true) (hb : Binds X.K fd ps []) (hn : (ea :: ees).length = n)
    (ha : XX X (a :: es) (ea :: ees)) (hdb : (x == ("__debug__" : Str)) = false := by decide) (he : starEach (a :: es) X.env = (false, eval a X.env) :: starEach es X.env := by rfl) (hpl : (backTo pos (starEach es X.env)).any (·.1) = false := by rfl) :
    XE X (.Call (.Name x p) (a :: es) [] pos) (eCall g (ea :: ees)) := pe_by fun σ H Q h => by
  obtain ⟨F0, H0, F, rho, s, d, R, he1, q⟩ := h
  obtain ⟨xs, h1, h2⟩ := oB_some he1
  obtain ⟨h3, h4⟩ := ck_some h2
  refine ⟨_, pe_call (E := E0) G hr hg hm hk hb .nil pass0 ha hdb he hpl, F0, H0, F, rho, s, xs, R, h1, fun F' H' vs st ivs => ?_⟩
  show spD n g (vs ++ []) H' Q E0
  rw [List.append_nil]
  exact ⟨F', xs, d, (eArgs_len h1).trans hn, st.s, ivs.closed h3, h4, fun F2 H2 v st2 iv => q F2 H2 v (st.trans st2) (IsV.of iv)⟩
/-- all arguments by keywords, in the order ks; pm puts them in the parameters' order -/
theorem x_callK {kws : List Keyword} {ks : List Str} {gg : List Value → List Value → List Value} {gV : List V → List V → List V} {tk : TA} (G : FnOk X.prog X.w X.K X.mg X.base CX0 k f fd ps (spD n g)) (hr : Room k X.A) (hg : Gl X x) (hm : X.mg x = some (.ref f))
    (hk : PySem.W.keepIn X.K (.ref f) = true) (hb : KBinds X.K fd ps ks gg gV) (hkw : PK X kws tk) (hall : (backToKw pos (keywordEach kws X.env)).all (·.1.isSome) = true := by rfl) (hks : (backToKw pos (keywordEach kws X.env)).filterMap (·.1) = ks := by rfl)
    (hdb : (x == ("__debug__" : Str)) = false := by decide) (hpl : ((backTo pos (starEach [] X.env)).any (·.1) || (backToKw pos (keywordEach kws X.env)).any (·.1.isNone)) = false := by rfl) :
    PE X (.Call (.Name x p) [] kws pos) (tCallK (spD n g) gV E0 tNil tk) := ⟨fun pins s σ H Q I h => by
  refine wpAny_Call_Name_kw (ld_glob I hg hm ?_ hdb)
  refine PySem.W.callWith_KW0 (first := []) (h₀ := X.base) I.ok.mod.kin hk hall (thn (hkw.run pos pins s σ H _ I h) fun ws s2 ⟨zs, H2, I2, rz, q2⟩ => ⟨I2.kIn, ?_⟩) hpl
  rw [hks]
  exact run_fnk (us := []) (vs := []) G hr hb pass0 I2 .nil rz q2⟩
end

/-! ### built-ins with one argument -/
def CalK (X : Cx) (fv : Value) (f : S → D → Option D) : Prop :=
  ∀ (F0 H0 F : Hp) (rho : Nat → Addr) (s : S) (σ : L2.St) (H : Hp) (x d : D) (Q : VK), Rel X.prog X.w F0 H0 F rho s σ H → f s x = some d → (∀ F' H' v, Step F H F' H' → IsV F' rho s.nx d v → Q v H') →
    ∃ r, CallR X fv r ∧ ∀ F' H' v, Step F H F' H' → IsV F' rho s.nx x v → r [v] H' Q
theorem pa1 (ha : XE X a ea) (hs : starEach [a] X.env = (false, eval a X.env) :: starEach [] X.env := by rfl) : PA X [a] (tCons (tE X.prog X.w ea) tNil) := pa_cons ha pa_nil hs
theorem x_cb {f : S → D → Option D} {x : Str} {id : String} (hk : CalK X (.builtin id) f) (ha : XE X a ea) (hg : Gl X x) (hm : X.mg x = none) (hv : bootBuiltins x = some (.builtin id)) (hn : x ≠ "__name__" := by decide) (hdb : (x == ("__debug__" : Str)) = false := by decide)
    (hs : starEach [a] X.env = (false, eval a X.env) :: starEach [] X.env := by rfl) (hpl : (backTo pos (starEach [] X.env)).any (·.1) = false := by rfl) : XE X (.Call (.Name x p) [a] [] pos) (eU f ea) := pe_by fun σ H Q h => by
  obtain ⟨F0, H0, F, rho, s, d, R, he1, q⟩ := h
  obtain ⟨y, hy, h1⟩ := oB_some he1
  obtain ⟨r, hr, k⟩ := hk F0 H0 F rho s σ H y d Q R h1 q
  exact ⟨_, pe_callB hr hg hm hv (pa1 ha hs) hn hdb hs hpl, tE1 R hy k⟩
theorem x_ct {f : S → D → Option D} {x : Str} {T : String} (hk : CalK X (.type T) f) (ha : XE X a ea) (hg : Gl X x) (hm : X.mg x = none) (hv : bootBuiltins x = some (.type T)) (hn : x ≠ "__name__" := by decide) (hdb : (x == ("__debug__" : Str)) = false := by decide)
    (hs : starEach [a] X.env = (false, eval a X.env) :: starEach [] X.env := by rfl) (hpl : (backTo pos (starEach [] X.env)).any (·.1) = false := by rfl) : XE X (.Call (.Name x p) [a] [] pos) (eU f ea) := pe_by fun σ H Q h => by
  obtain ⟨F0, H0, F, rho, s, d, R, he1, q⟩ := h
  obtain ⟨y, hy, h1⟩ := oB_some he1
  obtain ⟨r, hr, k⟩ := hk F0 H0 F rho s σ H y d Q R h1 q
  exact ⟨_, pe_callTy hr hg hm hv (pa1 ha hs) hn hdb hs hpl, tE1 R hy k⟩
/-- a new list -/
def CalL (X : Cx) (fv : Value) (f : S → D → Option (List D)) : Prop :=
  ∀ (F0 H0 F : Hp) (rho : Nat → Addr) (s : S) (σ : L2.St) (H : Hp) (x : D) (ds : List D) (Q : VK), Rel X.prog X.w F0 H0 F rho s σ H → f s x = some ds →
    (∀ F' H' p vs, Step F H F' H' → H p = none → F' p = none → H' p = some (.lst vs) → IsAll F' ds vs → Q (.ref p) H') → ∃ r, CallR X fv r ∧ ∀ F' H' v, Step F H F' H' → IsV F' rho s.nx x v → r [v] H' Q
theorem xl_cb {f : S → D → Option (List D)} {x : Str} {id : String} (hk : CalL X (.builtin id) f) (ha : XE X a ea) (hg : Gl X x) (hm : X.mg x = none) (hv : bootBuiltins x = some (.builtin id)) (hn : x ≠ "__name__" := by decide) (hdb : (x == ("__debug__" : Str)) = false := by decide)
    (hs : starEach [a] X.env = (false, eval a X.env) :: starEach [] X.env := by rfl) (hpl : (backTo pos (starEach [] X.env)).any (·.1) = false := by rfl) : XL X (.Call (.Name x p) [a] [] pos) (lU f ea) := pe_by fun σ H Q h => by
  obtain ⟨F0, H0, F, rho, s, ds, R, he1, q⟩ := h
  obtain ⟨y, hy, h1⟩ := oB_some he1
  obtain ⟨r, hr, k⟩ := hk F0 H0 F rho s σ H y ds Q R h1 q
  exact ⟨_, pe_callB hr hg hm hv (pa1 ha hs) hn hdb hs hpl, tE1 R hy k⟩
theorem xl_ct {f : S → D → Option (List D)} {x : Str} {T : String} (hk : CalL X (.type T) f) (ha : XE X a ea) (hg : Gl X x) (hm : X.mg x = none) (hv : bootBuiltins x = some (.type T)) (hn : x ≠ "__name__" := by decide) (hdb : (x == ("__debug__" : Str)) = false := by decide)
    (hs : starEach [a] X.env = (false, eval a X.env) :: starEach [] X.env := by rfl) (hpl : (backTo pos (starEach [] X.env)).any (·.1) = false := by rfl) : XL X (.Call (.Name x p) [a] [] pos) (lU f ea) := pe_by fun σ H Q h => by
  obtain ⟨F0, H0, F, rho, s, ds, R, he1, q⟩ := h
  obtain ⟨y, hy, h1⟩ := oB_some he1
  obtain ⟨r, hr, k⟩ := hk F0 H0 F rho s σ H y ds Q R h1 q
  exact ⟨_, pe_callTy hr hg hm hv (pa1 ha hs) hn hdb hs hpl, tE1 R hy k⟩
/-- a new list, frozen -/
theorem x_frz {l : Lx} (h : XL X e l) : XE X e (eFrz l) := pe_by fun σ H Q h' => by
  obtain ⟨F0, H0, F, rho, s, d, R, he, q⟩ := h'
  obtain ⟨ds, h1, h2⟩ := oB_some he
  cases h2
  refine ⟨_, h, F0, H0, F, rho, s, ds, R, h1, fun F' H' pa vs st np nf hp ia => ?_⟩
  refine q (L2.upd F' pa (.lst vs)) H' _ ⟨st.f.trans (same_new nf), fun b o e1 => ?_, st.h, fun b o e1 => ?_⟩ (IsV.of (.lst L2.upd_same (ia.mono (same_new nf))))
  · by_cases hb : b = pa
    · subst hb; rw [L2.upd_same] at e1; rw [hp]; exact e1
    · rw [L2.upd_ne hb] at e1; exact st.s b o e1
  · by_cases hb : b = pa
    · subst hb; exact .inr np
    · rw [L2.upd_ne hb] at e1; exact st.n b o e1
theorem len_int {α : Type} (xs : List α) : (Int.ofNat (len xs)) = (xs.length : Int) := by rw [len_eq]; rfl
theorem cal_len : CalK X (.builtin "len") fLen := fun F0 H0 F rho s σ H x d Q R h q => by
  obtain ⟨xs, h1, h2⟩ := oB_some h
  cases h2
  refine ⟨_, call_len_seq, fun F' H' v st iv => ?_⟩
  obtain ⟨a, vs, rfl, k1, k2⟩ := items_at (R.step st) iv h1
  refine ⟨a, vs, rfl, k1.imp SqL.of TupAt.sq, ?_⟩
  rw [← Paired.length k2, ← len_int]
  exact q F' H' _ st (IsV.of (.int _))
theorem cal_tuple : CalK X (.type "tuple") fTuple := fun F0 H0 F rho s σ H x d Q R h q => by
  obtain ⟨xs, h1, h2⟩ := oB_some h
  cases h2
  refine ⟨_, call_tuple_of, fun F' H' v st iv => ?_⟩
  cases x with
  | tup ys =>
    cases h1
    obtain ⟨a, vs, rfl, k1, k2⟩ := Is.tup_eq iv
    exact ⟨a, vs, rfl, .inr ⟨(k1.mono st.s).sq, q F' H' _ st iv⟩⟩
  | ptup ys =>
    cases h1
    obtain ⟨a, vs, o, rfl, k1, _, _, k2⟩ := Is.ptup_eq iv
    have k3 : TupAt F' a vs := .inr ⟨o, k1⟩
    exact ⟨a, vs, rfl, .inr ⟨(k3.mono st.s).sq, q F' H' _ st (IsV.of (.tup k3 k2))⟩⟩
  | _ =>
    first
      | (cases h1; done)
      | (obtain ⟨a, vs, rfl, k1, k2⟩ := itemsC_at (R.step st) iv h1
         rcases k1 with k1 | k1
         · exact ⟨a, vs, rfl, .inl ⟨SqL.of k1, fun l nl => q _ _ _ (st.trans (Step.lay st.s nl)) (IsV.of (.tup (.inl L2.upd_same) (k2.mono (same_new (st.s.free nl)))))⟩⟩
         · first
            | (obtain ⟨b, us, e2, e3, _⟩ := Is.lst_eq iv
               cases e2
               rcases k1 with k1 | ⟨o, k1⟩
               all_goals (rw [st.s _ _ e3] at k1; cases k1))
            | (obtain ⟨ys, g1, _⟩ := lst_of h1
               obtain ⟨_, _, _, us, g2, _⟩ := (R.step st).ob _ _ g1
               have e4 : V.ref a = V.ref (rho _) := iv.2
               cases e4
               rcases k1 with k1 | ⟨o, k1⟩
               all_goals (rw [g2] at k1; cases k1)))
theorem cal_list : CalL X (.type "list") itemsC := fun F0 H0 F rho s σ H x ds Q R h q => by
  refine ⟨_, call_list_of, fun F' H' v st iv => ?_⟩
  obtain ⟨a, vs, rfl, k1, k2⟩ := itemsC_at (R.step st) iv h
  exact ⟨a, vs, rfl, k1.imp SqL.of TupAt.sq, fun l nl => q F' _ l vs (st.trans (Step.own st.s nl)) (st.h.free nl) (st.s.free nl) L2.upd_same k2⟩
theorem cal_int : CalK X (.type "int") fInt := fun F0 H0 F rho s σ H x d Q R h q => by
  obtain ⟨i, rfl, h1⟩ := gI_some h
  cases h1
  refine ⟨_, call_int1, fun F' H' v st iv => ?_⟩
  rw [v_int iv]
  exact .inl ⟨i, rfl, q F' H' _ st (IsV.of (.int _))⟩
theorem sumI_eq : ∀ ns : List Int, sumI ns = ns.sum
  | [] => rfl
  | i :: r => by
    show addI i (sumI r) = _
    rw [addI_eq, sumI_eq r, List.sum_cons]
theorem cal_sum (hc : X.calm = true) : CalK X (.builtin "sum") fSum := fun F0 H0 F rho s σ H x d Q R h q => by
  obtain ⟨xs, h1, h2⟩ := oB_some h
  obtain ⟨ns, h3, h4⟩ := oB_some h2
  cases h4
  refine ⟨_, cr_sum hc, fun F' H' v st iv => ?_⟩
  obtain ⟨a, vs, rfl, k1, k2⟩ := listC_at (R.step st) iv h1
  obtain rfl := ints_at (rho := rho) (nx := 0) k2.vs h3
  refine ⟨a, ns, rfl, SqL.of k1, ?_⟩
  rw [← sumI_eq]
  exact q F' H' _ st (IsV.of (.int _))
theorem minI_spec : ∀ (r : List Int) (i : Int), minI i r ∈ i :: r ∧ ∀ y ∈ i :: r, minI i r ≤ y
  | [], i => ⟨List.mem_singleton.mpr rfl, fun y hy => by rw [List.mem_singleton.mp hy]; exact Int.le_refl _⟩
  | j :: r, i => by
    have e : minI i (j :: r) = minI (@Bool.rec (fun _ => Int) i j (ltI j i)) r := rfl
    rw [e, ltI_eq]
    by_cases h : j < i
    · rw [decide_eq_true h]
      show minI j r ∈ i :: j :: r ∧ ∀ y ∈ i :: j :: r, minI j r ≤ y
      obtain ⟨h1, h2⟩ := minI_spec r j
      refine ⟨List.mem_cons_of_mem _ h1, fun y hy => ?_⟩
      rcases List.mem_cons.mp hy with e | hy
      · have := h2 j List.mem_cons_self
        rw [e]; exact Int.le_trans this (Int.le_of_lt h)
      · exact h2 y hy
    · rw [decide_eq_false h]
      show minI i r ∈ i :: j :: r ∧ ∀ y ∈ i :: j :: r, minI i r ≤ y
      obtain ⟨h1, h2⟩ := minI_spec r i
      refine ⟨?_, fun y hy => ?_⟩
      · rcases List.mem_cons.mp h1 with e | h1
        · rw [e]; exact List.mem_cons_self
        · exact List.mem_cons_of_mem _ (List.mem_cons_of_mem _ h1)
      · rcases List.mem_cons.mp hy with e | hy
        · rw [e]; exact h2 i List.mem_cons_self
        · rcases List.mem_cons.mp hy with e | hy
          · have := h2 i List.mem_cons_self
            rw [e]; omega
          · exact h2 y (List.mem_cons_of_mem _ hy)
theorem cal_min (hc : X.calm = true) : CalK X (.builtin "min") fMinL := fun F0 H0 F rho s σ H x d Q R h q => by
  obtain ⟨xs, h1, h2⟩ := oB_some h
  obtain ⟨ns, h3, h4⟩ := oB_some h2
  cases ns with
  | nil => cases h4
  | cons i r =>
    cases h4
    refine ⟨_, cr_min hc, fun F' H' v st iv => ?_⟩
    obtain ⟨a, vs, rfl, k1, k2⟩ := listC_at (R.step st) iv h1
    obtain rfl := ints_at (rho := rho) (nx := 0) k2.vs h3
    refine ⟨a, i :: r, rfl, SqL.of k1, Nat.succ_pos _, fun m hm hle => ?_⟩
    obtain ⟨g1, g2⟩ := minI_spec r i
    have e : m = minI i r := Int.le_antisymm (hle _ g1) (g2 _ hm)
    rw [e]
    exact q F' H' _ st (IsV.of (.int _))
theorem x_min2 (hc : X.calm = true) (ha : XE X a ea) (hb : XE X b eb) (hg : Gl X "min") (hm : X.mg "min" = none) (hs : starEach [a, b] X.env = (false, eval a X.env) :: starEach [b] X.env := by rfl) (hs2 : starEach [b] X.env = (false, eval b X.env) :: starEach [] X.env := by rfl)
    (hpl : (backTo pos (starEach [b] X.env)).any (·.1) = false := by rfl) : XE X (.Call (.Name "min" p) [a, b] [] pos) (eMin2 ea eb) := pe_by fun σ H Q h => by
  obtain ⟨F0, H0, F, rho, s, d, R, he1, q⟩ := h
  obtain ⟨x, hx, h1⟩ := oB_some he1
  obtain ⟨y, hy, h2⟩ := oB_some h1
  obtain ⟨i, rfl, h3⟩ := gI_some h2
  obtain ⟨j, rfl, h4⟩ := gI_some h3
  cases h4
  refine ⟨_, pe_callB (call_min2 hc) hg hm boot_min (pa_cons ha (pa_cons hb pa_nil hs2) hs) (by decide) (by decide) hs hpl, tE2 R hx hy fun F' H' v u st iv iu => ?_⟩
  rw [v_int iv, v_int iu]
  refine ⟨i, j, rfl, ?_⟩
  have e : (if j < i then j else i) = @Bool.rec (fun _ => Int) i j (ltI j i) := by
    rw [ltI_eq]
    by_cases hh : j < i
    · rw [if_pos hh, decide_eq_true hh]
    · rw [if_neg hh, decide_eq_false hh]
  rw [e]
  exact q F' H' _ st (IsV.of (.int _))

/-! ### subscripts -/
theorem atD_at {xs : List D} {i : Int} {d : D} (h : atD xs i = some d) : ∃ j, ixN xs.length i = some j ∧ xs[j]? = some d := by
  cases i with
  | ofNat n =>
    have h1 : nth xs n = some d := h
    rw [nth_eq] at h1
    have hl : n < xs.length := (List.getElem?_eq_some_iff.mp h1).1
    refine ⟨n, ?_, h1⟩
    show ixN xs.length (n : Int) = some n
    unfold ixN
    rw [if_pos (by omega), if_pos (by omega)]
    rfl
  | negSucc n =>
    obtain ⟨h1, h2⟩ := ck_some (show ck (Nat.blt n (len xs)) (nth xs (Nat.sub (len xs) (Nat.succ n))) = some d from h)
    rw [len_eq] at h1 h2
    rw [nth_eq] at h2
    have hl : n < xs.length := by simpa [Nat.blt_eq] using h1
    refine ⟨xs.length - (n + 1), ?_, h2⟩
    have e : Int.negSucc n = -((n : Int) + 1) := Int.negSucc_eq n
    unfold ixN
    rw [e, if_neg (by omega), if_pos (by omega)]
    congr 1
    omega
theorem at_vs {F : Hp} {rho : Nat → Addr} {nx : Nat} {xs : List D} {vs : List V} {i : Int} {d : D} (hv : IsVs F rho nx xs vs) (h : atD xs i = some d) : ∃ v, atI vs i = some v ∧ IsV F rho nx d v := by
  obtain ⟨j, h1, h2⟩ := atD_at h
  obtain ⟨v, h3, h4⟩ := Paired.at hv h2
  refine ⟨v, ?_, h4⟩
  unfold atI
  rw [← Paired.length hv, h1]
  exact h3
theorem lookD_at {F : Hp} {k : Int} : ∀ {xs : List (Int × D)} {vs : List (Key × V)} {d : D}, IsKv F xs vs → lookD k xs = some d → ∃ v, valV vs (Sum.inl k) = some v ∧ Is F d v
  | _, _, _, .nil, h => by cases h
  | _, _, d, .cons (k := j) (v := v) (vs := vs) (ds := ds) (d := d0) iv t, h => by
    have h1 : @Bool.rec (fun _ => Option D) (lookD k ds) (some d0) (eqI j k) = some d := h
    rw [eqI_eq] at h1
    by_cases e : j = k
    · rw [decide_eq_true e] at h1
      cases h1
      subst e
      exact ⟨v, by simp [valV], iv⟩
    · rw [decide_eq_false e] at h1
      obtain ⟨u, g1, g2⟩ := lookD_at t h1
      refine ⟨u, ?_, g2⟩
      have e2 : ¬ ((Sum.inl j : Key) = Sum.inl k) := fun q => e (Sum.inl.inj q)
      simp only [valV] at g1 ⊢
      simpa [e2] using g1
theorem lst_mk {s : S} {n : Nat} {xs : List D} {β : Type} {f : List D → Option β} (h : getO s.h n = some (.lst xs)) : lstO s n f = f xs := by
  unfold lstO
  rw [h]
  rfl
theorem x_ix (hu : X.A.units + 1 < cLine) (ha : XE X a ea) (hb : XE X b eb) (hs : PlainIx b) (hs2 : NoSl b) : XE X (.Subscript a b pos) (eIx ea eb) := pe_by fun σ H Q h => by
  obtain ⟨F0, H0, F, rho, s, d, R, he, q⟩ := h
  obtain ⟨x, hx, h1⟩ := oB_some he
  obtain ⟨y, hy, h2⟩ := oB_some h1
  obtain ⟨i, rfl, h3⟩ := gI_some h2
  have seq : ∀ xs, items s x = some xs → atD xs i = some d → ∃ t', PE X (.Subscript a b pos) t' ∧ t' σ H Q := fun xs g1 g2 => by
    have go : ∀ F' H' v u, Step F H F' H' → IsV F' rho s.nx x v → IsV F' rho s.nx (.int i) u → (rIxL X.K v u H' Q ∨ rIxT X.K v u H' Q ∨ rIxS v u H' Q) := fun F' H' v u st iv iu => by
      obtain ⟨p0, vs, rfl, k1, k2⟩ := items_at (R.step st) iv g1
      obtain ⟨w0, k3, k4⟩ := at_vs k2 g2
      rw [v_int iu]
      rcases k1 with k1 | k1
      · exact .inl ⟨p0, vs, i, w0, rfl, rfl, SqL.of k1, k3, q F' H' _ st k4⟩
      · exact .inr (.inl ⟨p0, vs, i, w0, rfl, rfl, k1.sq, k3, q F' H' _ st k4⟩)
    exact ⟨_, pe_ix ix_seq ha hb hs, tE2 R hx hy go⟩
  cases x with
  | tup ys => exact seq ys rfl h3
  | ptup ys => exact seq ys rfl h3
  | lst ys => exact seq ys rfl h3
  | ref n =>
    obtain ⟨ys, g1, g2⟩ := lst_of h3
    exact seq ys (show lstO s n some = some ys from lst_mk g1) g2
  | idict kvs =>
    refine ⟨_, pe_dget hu ha hb hs2, tE2 R hx hy fun F' H' v u st iv iu => ?_⟩
    obtain ⟨p0, vs, rfl, k1, k2⟩ := Is.idict_eq iv
    obtain ⟨w0, k3, k4⟩ := lookD_at k2 h3
    refine ⟨p0, w0, rfl, ?_, q F' H' _ st (IsV.of k4)⟩
    rw [v_int iu, ← k3]
    exact DGet.k (k := Sum.inl i) (st.s _ _ k1)
  | _ => cases h3

/-! ### slices -/
def tO (P : Program) (w : World) (e : Option Ex) : TO := fun σ H Q => ∃ F0 H0 F rho s o, Rel P w F0 H0 F rho s σ H ∧ part e s = some o ∧ ∀ F' H', Step F H F' H' → Q o H'
abbrev XO (X : Cx) (e : Option Expr) (f : Option Ex) : Prop := PO X e (tO X.prog X.w f)
theorem xo_none : XO X none none := ⟨fun pins st σ H Q I h => by
  obtain ⟨F0, H0, F, rho, s, o, R, he, q⟩ := h
  cases he
  exact po_none.run pins st σ H Q I (q F H (Step.refl R.sub))⟩
theorem xo_some (ha : XE X a ea) : XO X (some a) (some ea) := ⟨fun pins st σ H Q I h => by
  obtain ⟨F0, H0, F, rho, s, o, R, he, q⟩ := h
  obtain ⟨x, hx, h1⟩ := oB_some (show (oB (ea s) fun x => gI x fun i => some (some i)) = some o from he)
  obtain ⟨i, rfl, h2⟩ := gI_some h1
  cases h2
  exact (po_some ha).run pins st σ H Q I (tE1 R hx fun F' H' v st iv => ⟨i, v_int iv, q F' H' st⟩)⟩
theorem sIx_eq (n d : Nat) (o : Option Int) : sIx n d o = HT.sIx n d o := by
  cases o with
  | none => rfl
  | some i =>
    cases i with
    | ofNat a =>
      show @Bool.rec (fun _ => Nat) n a (Nat.ble a n) = if (a : Int) < 0 then ((a : Int) + n).toNat else min (a : Int).toNat n
      rw [if_neg (by omega)]
      by_cases h : a ≤ n
      · rw [Nat.ble_eq_true_of_le h]
        show a = min a n
        omega
      · have e : Nat.ble a n = false := by
          cases q : Nat.ble a n with
          | false => rfl
          | true => exact (h (Nat.le_of_ble_eq_true q)).elim
        rw [e]
        show n = min a n
        omega
    | negSucc a =>
      show n - (a + 1) = if Int.negSucc a < 0 then (Int.negSucc a + n).toNat else min (Int.negSucc a).toNat n
      have e : Int.negSucc a = -((a : Int) + 1) := Int.negSucc_eq a
      rw [e, if_pos (by omega)]
      omega
theorem cut_is {F : Hp} {xs : List D} {vs : List V} (h : IsAll F xs vs) (lo hi : Option Int) : IsAll F (cut xs lo hi) (cutV vs lo hi) := by
  unfold cut cutV
  rw [tak_eq, drp_eq, len_eq, sIx_eq, sIx_eq, ← h.length]
  exact (h.drop _).take _
theorem cut_whole {xs : List D} {lo hi : Option Int} (h1 : HT.sIx xs.length 0 lo = 0) (h2 : HT.sIx xs.length xs.length hi = xs.length) : cut xs lo hi = xs := by
  unfold cut
  rw [tak_eq, drp_eq, len_eq, sIx_eq, sIx_eq, h1, h2]
  show List.take (xs.length - 0) xs = xs
  rw [Nat.sub_zero]
  exact List.take_length
theorem x_sl {lo hi : Option Expr} {elo ehi : Option Ex} (ha : XE X a ea) (hl : XO X lo elo) (hh : XO X hi ehi) : XE X (.Subscript a (.Slice lo hi none p2) pos) (eSl ea elo ehi) := pe_by fun σ H Q h => by
  obtain ⟨F0, H0, F, rho, s, d, R, he, q⟩ := h
  obtain ⟨x, hx, h1⟩ := oB_some he
  obtain ⟨l, gl, h2⟩ := oB_some h1
  obtain ⟨u, gu, h3⟩ := oB_some h2
  have lists : ∀ xs, listC s x = some xs → d = .lst (cut xs l u) → ∃ t', PE X (.Subscript a (.Slice lo hi none p2) pos) t' ∧ t' σ H Q := fun xs g1 e => by
    subst e
    refine ⟨_, pe_slice sl_list ha hl hh, tE1 R hx fun F' H' v st iv => ⟨F0, H0, F', rho, s, l, R.step st, gl, fun F2 H2 st2 => ⟨F0, H0, F2, rho, s, u, (R.step st).step st2, gu, fun F3 H3 st3 => ?_⟩⟩⟩
    have st' := (st.trans st2).trans st3
    obtain ⟨p0, vs, rfl, k1, k2⟩ := listC_at (R.step st') (iv.step (st2.trans st3).f) g1
    refine ⟨p0, vs, rfl, SqL.of k1, fun pa np => q _ _ _ (st'.trans (Step.lay st'.s np)) (IsV.of (.lst L2.upd_same ((cut_is k2 l u).mono (same_new (st'.s.free np)))))⟩
  cases x with
  | tup xs =>
    cases h3
    refine ⟨_, pe_slice sl_tupA ha hl hh, tE1 R hx fun F' H' v st iv => ⟨F0, H0, F', rho, s, l, R.step st, gl, fun F2 H2 st2 => ⟨F0, H0, F2, rho, s, u, (R.step st).step st2, gu, fun F3 H3 st3 => ?_⟩⟩⟩
    have st' := (st.trans st2).trans st3
    obtain ⟨p0, vs, rfl, k1, k2⟩ := Is.tup_eq (iv.step (st2.trans st3).f)
    have ln := k2.length
    refine ⟨p0, vs, rfl, (k1.mono st'.s).sq, fun e => ?_, fun _ pa np => q _ _ _ (st'.trans (Step.lay st'.s np)) (IsV.of (.tup (.inl L2.upd_same) ((cut_is k2 l u).mono (same_new (st'.s.free np)))))⟩
    rw [← ln] at e
    rw [cut_whole e.1 e.2] at q
    exact q _ _ _ st' (IsV.of (.tup k1 k2))
  | ptup xs =>
    cases h3
    refine ⟨_, pe_slice sl_tupA ha hl hh, tE1 R hx fun F' H' v st iv => ⟨F0, H0, F', rho, s, l, R.step st, gl, fun F2 H2 st2 => ⟨F0, H0, F2, rho, s, u, (R.step st).step st2, gu, fun F3 H3 st3 => ?_⟩⟩⟩
    have st' := (st.trans st2).trans st3
    obtain ⟨p0, vs, o, rfl, k1, _, _, k2⟩ := Is.ptup_eq (iv.step (st2.trans st3).f)
    have ln := k2.length
    have k3 : TupAt F3 p0 vs := .inr ⟨o, k1⟩
    refine ⟨p0, vs, rfl, (k3.mono st'.s).sq, fun e => ?_, fun _ pa np => q _ _ _ (st'.trans (Step.lay st'.s np)) (IsV.of (.tup (.inl L2.upd_same) ((cut_is k2 l u).mono (same_new (st'.s.free np)))))⟩
    rw [← ln] at e
    rw [cut_whole e.1 e.2] at q
    exact q _ _ _ st' (IsV.of (.tup k3 k2))
  | lst xs => cases h3; exact lists xs rfl rfl
  | ref n =>
    obtain ⟨xs, g1, g2⟩ := oB_some h3
    cases g2
    exact lists xs g1 rfl
  | _ => cases h3

/-! ### displays -/
theorem x_tup {es : List Expr} {ees : List Ex} {x1} (ha : XX X es ees) : XE X (.Tuple es x1 pos) (eTup ees) := pe_by fun σ H Q h => by
  obtain ⟨F0, H0, F, rho, s, d, R, he, q⟩ := h
  obtain ⟨xs, h1, h2⟩ := oB_some he
  obtain ⟨h3, h4⟩ := ck_some h2
  obtain ⟨h5, h6⟩ := ck_some h4
  cases h6
  refine ⟨_, pe_tup ha, F0, H0, F, rho, s, xs, R, h1, fun F' H' vs st ivs => ?_⟩
  have z := sz_short h5
  have l := Paired.length ivs
  exact ⟨line_ge (by omega), fun pa np => q _ _ _ (st.trans (Step.lay st.s np)) (IsV.of (.tup (.inl L2.upd_same) ((ivs.closed h3).mono (same_new (st.s.free np)))))⟩
theorem xl_lst {es : List Expr} {ees : List Ex} (ha : XX X es ees) : XL X (.List es pos) (lLst ees) := pe_by fun σ H Q h => by
  obtain ⟨F0, H0, F, rho, s, ds, R, he, q⟩ := h
  obtain ⟨xs, h1, h2⟩ := oB_some he
  obtain ⟨h3, h4⟩ := ck_some h2
  obtain ⟨h5, h6⟩ := ck_some h4
  cases h6
  refine ⟨_, pe_lst ha, F0, H0, F, rho, s, ds, R, h1, fun F' H' vs st ivs => ?_⟩
  have z := sz_short h5
  have l := Paired.length ivs
  exact ⟨line_ge (by omega), fun pa np => q F' _ pa vs (st.trans (Step.own st.s np)) (st.h.free np) (st.s.free np) L2.upd_same (ivs.closed h3)⟩
theorem rep_all {F : Hp} {d : D} {v : V} (h : Is F d v) : ∀ n : Nat, IsAll F (repL d n) (List.replicate n [v]).flatten
  | 0 => .nil
  | n + 1 => .cons h (rep_all h n)
theorem rep_len (d : D) : ∀ n : Nat, (repL d n).length = n
  | 0 => rfl
  | n + 1 => congrArg Nat.succ (rep_len d n)
theorem toN_eq (i : Int) : toN i = i.toNat := by cases i <;> rfl
/-- [x] * n -/
theorem xl_rep {p3} (ha : XE X a ea) (hb : XE X b eb) (hs : starEach [a] X.env = (false, eval a X.env) :: starEach [] X.env := by rfl) : XL X (.BinOp (.List [a] p3) .Mult b pos) (lRep ea eb) := pe_by fun σ H Q h => by
  obtain ⟨F0, H0, F, rho, s, ds, R, he, q⟩ := h
  obtain ⟨x, hx, h1⟩ := oB_some he
  obtain ⟨y, hy, h2⟩ := oB_some h1
  obtain ⟨n, rfl, h3⟩ := gI_some h2
  obtain ⟨h4, h5⟩ := ck_some h3
  obtain ⟨h6, h7⟩ := ck_some h5
  cases h7
  have bn := okI_lt h4
  refine ⟨_, pe_op op_rep (pe_lst (pa1 ha hs)) hb, tE1 R hx fun F' H' v st iv => ⟨by show 1 ≤ sizeLine; decide, fun pa np => ?_⟩⟩
  have st1 : Step F H F' (L2.upd H' pa (.lst [v])) := st.trans (Step.own st.s np)
  refine tE1 (R.step st1) hy fun F2 H2 u st2 iu => ?_
  have hp : H2 pa = some (.lst [v]) := st2.h _ _ L2.upd_same
  rw [v_int iu]
  refine ⟨pa, n, [v], rfl, rfl, hp, by omega, by omega, ?_, fun pb nb => ?_⟩
  · show 1 * n.toNat ≤ 16777216
    omega
  · rw [toN_eq] at q
    have st' := st1.trans st2
    exact q F2 _ pb _ (st'.trans (Step.own st'.s nb)) (st'.h.free nb) (st'.s.free nb) L2.upd_same (rep_all ((iv.closed h6).mono st2.f) _)
end
end Kx

/-! KxI: what is walked, targets, comprehensions. -/
namespace Kx
open PySem L2 PyProof.Rows

/-! ### steps, a bit more -/
theorem Step.keep {F H F' H' : Hp} (t : Step F H F' H') {a : Addr} {o : HO} (h1 : F a = none) (h2 : H a = some o) : F' a = none := by
  cases e : F' a with
  | none => rfl
  | some u =>
    rcases t.n a u e with q | q
    · exact (q h1).elim
    · rw [h2] at q; cases q
theorem Step.mut {F H F' H' : Hp} (t : Step F H F' H') {a : Addr} {o : HO} (h1 : F' a = none) (h2 : H a = none) : Step F H F' (L2.upd H' a o) :=
  ⟨t.f, fun b u e => by
    rw [L2.upd_ne (fun q => by subst q; rw [h1] at e; cases e)]
    exact t.s b u e, fun b u e => by
    rw [L2.upd_ne (fun q => by subst q; rw [h2] at e; cases e)]
    exact t.h b u e, t.n⟩

/-! ### walks -/
def WalkF (J : It) (F1 : Hp) (xs : List D) : Prop := ∀ F2 H2, Same F1 F2 → Same F2 H2 →
  (∀ (i : Nat) x, xs[i]? = some x → J.go i H2 ∧ ∀ v H3, J.yld i H2 v H3 → ∃ F3, Step F2 H2 F3 H3 ∧ Is F3 x v) ∧ ∀ i, xs.length ≤ i → J.stop i H2
def WalkH (J : It) (F1 H1 : Hp) (rho : Nat → Addr) (nx : Nat) (xs : List D) : Prop := ∀ F2 H2, Same F1 F2 → Same F2 H2 → Same H1 H2 →
  (∀ (i : Nat) x, xs[i]? = some x → J.go i H2 ∧ ∀ v H3, J.yld i H2 v H3 → ∃ F3, Step F2 H2 F3 H3 ∧ IsV F3 rho nx x v) ∧ ∀ i, xs.length ≤ i → J.stop i H2
theorem WalkF.toH {J : It} {F1 H1 : Hp} {rho : Nat → Addr} {nx : Nat} {xs : List D} (h : WalkF J F1 xs) : WalkH J F1 H1 rho nx xs := fun F2 H2 a b _ =>
  ⟨fun i x e => ⟨((h F2 H2 a b).1 i x e).1, fun v H3 y => let ⟨F3, t, q⟩ := ((h F2 H2 a b).1 i x e).2 v H3 y; ⟨F3, t, IsV.of q⟩⟩, (h F2 H2 a b).2⟩
section
variable (P : Program) (w : World)
def tI (it : Lx) : TI := fun σ H R => ∃ F0 H0 F rho s xs, Rel P w F0 H0 F rho s σ H ∧ it s = some xs ∧ ∀ J F' H', Step F H F' H' → WalkH J F' H' rho s.nx xs → R J H'
def tIF (it : Lx) : TI := fun σ H R => ∃ F0 H0 F rho s xs, Rel P w F0 H0 F rho s σ H ∧ it s = some xs ∧ ∀ J F' H', Step F H F' H' → WalkF J F' xs → R J H'
end
abbrev XI (X : Cx) (tg e : Expr) (it : Lx) : Prop := PI X tg e (tI X.prog X.w it)
abbrev XF (X : Cx) (tg e : Expr) (it : Lx) : Prop := PI X tg e (tIF X.prog X.w it)
section
variable {X : Cx} {a b c e tg : Expr} {ea eb ec : Ex} {pos p p2 : Pos}
theorem XF.xi {it : Lx} (h : XF X tg e it) : XI X tg e it := pi_by fun σ H R q => by
  obtain ⟨F0, H0, F, rho, s, xs, rl, h1, k⟩ := q
  exact ⟨_, h, F0, H0, F, rho, s, xs, rl, h1, fun J F' H' st wk => k J F' H' st wk.toH⟩
theorem rg_get : ∀ (n : Nat) (lo : Int) (i : Nat) (x : D), (rg n lo)[i]? = some x → i < n ∧ x = .int (lo + (i : Int))
  | 0, _, _, _, h => by cases h
  | n + 1, lo, 0, x, h => by
    have e : D.int lo = x := Option.some.inj h
    exact ⟨Nat.succ_pos _, by rw [← e]; simp⟩
  | n + 1, lo, i + 1, x, h => by
    obtain ⟨h1, h2⟩ := rg_get n (addI lo 1) i x h
    refine ⟨Nat.succ_lt_succ h1, ?_⟩
    rw [h2, addI_eq]
    congr 1
    omega
theorem rg_len : ∀ (n : Nat) (lo : Int), (rg n lo).length = n
  | 0, _ => rfl
  | n + 1, lo => congrArg Nat.succ (rg_len n (addI lo 1))
theorem walk_rg {F : Hp} {lo : Int} {n : Nat} : WalkF (Itr lo n) F (rg n lo) := fun F2 H2 _ hs => ⟨fun i x e => by
  obtain ⟨h1, h2⟩ := rg_get n lo i x e
  refine ⟨h1, fun v H3 y => ?_⟩
  obtain ⟨rfl, rfl⟩ := y
  exact ⟨F2, Step.refl hs, by rw [h2]; exact .int _⟩, fun i hi => by rw [rg_len] at hi; exact hi⟩
theorem xf_range1 (hg : Gl X "range") (hm : X.mg "range" = none) (ha : XE X a ea) (hs : starEach [a] X.env = [(false, eval a X.env)] := by rfl) (hs2 : starEach [a] X.env = (false, eval a X.env) :: starEach [] X.env := by rfl) :
    XF X tg (.Call (.Name "range" p) [a] [] pos) (iRange1 ea) := pi_by fun σ H R q => by
  obtain ⟨F0, H0, F, rho, s, xs, rl, h, k⟩ := q
  obtain ⟨x, hx, h1⟩ := oB_some h
  obtain ⟨n, rfl, h2⟩ := gI_some h1
  obtain ⟨h3, h4⟩ := ck_some h2
  cases h4
  have bn := okI_lt h3
  refine ⟨_, pi_range1 hg hm (pa1 ha hs2) hs, tE1 rl hx fun F' H' v st iv => ⟨n, by rw [v_int iv], by omega, by omega, ?_⟩⟩
  rw [toN_eq] at k
  exact k _ F' H' st walk_rg
theorem xf_range2 (hg : Gl X "range") (hm : X.mg "range" = none) (ha : XE X a ea) (hb : XE X b eb) (hs : starEach [a, b] X.env = [(false, eval a X.env), (false, eval b X.env)] := by rfl) (hs2 : starEach [b] X.env = [(false, eval b X.env)] := by rfl)
    (hs3 : starEach [a, b] X.env = (false, eval a X.env) :: starEach [b] X.env := by rfl) (hs4 : starEach [b] X.env = (false, eval b X.env) :: starEach [] X.env := by rfl) :
    XF X tg (.Call (.Name "range" p) [a, b] [] pos) (iRange2 ea eb) := pi_by fun σ H R q => by
  obtain ⟨F0, H0, F, rho, s, xs, rl, h, k⟩ := q
  obtain ⟨x, hx, h1⟩ := oB_some h
  obtain ⟨i, rfl, h2⟩ := gI_some h1
  obtain ⟨y, hy, h3⟩ := oB_some h2
  obtain ⟨j, rfl, h4⟩ := gI_some h3
  obtain ⟨h5, h6⟩ := ck_some h4
  obtain ⟨h7, h8⟩ := ck_some h6
  cases h8
  have bi := okI_lt h5
  have bj := okI_lt h7
  refine ⟨_, pi_range2 hg hm (pa_cons ha (pa1 hb hs4) hs3) hs hs2, tE2 rl hx hy fun F' H' v u st iv iu => ⟨i, j, by rw [v_int iv, v_int iu], ⟨by omega, by omega, by omega, by omega⟩, ?_⟩⟩
  rw [toN_eq, subI_eq] at k
  exact k _ F' H' st walk_rg
theorem walk_lst {K : PySem.W.Frag} {F : Hp} {l : Addr} {xs : List D} {vs : List V} (h1 : F l = some (.lst vs)) (h2 : IsAll F xs vs) : WalkF (Itl K l) F xs := fun F2 H2 e hs => by
  have hl : SqL K H2 l vs := SqL.of (hs _ _ (e _ _ h1))
  refine ⟨fun i x ex => ?_, fun i hi => ⟨vs, hl, by rw [← h2.length]; exact hi⟩⟩
  obtain ⟨v, g1, g2⟩ := h2.get ex
  refine ⟨⟨vs, v, hl, g1⟩, fun u H3 y => ?_⟩
  obtain ⟨rfl, g3⟩ := y
  have e2 := (g3 vs hl).symm.trans g1
  cases e2
  exact ⟨F2, Step.refl hs, g2.mono e⟩
theorem walk_tup {K : PySem.W.Frag} {F : Hp} {l : Addr} {xs : List D} {vs : List V} (h1 : TupAt F l vs) (h2 : IsAll F xs vs) : WalkF (Itt K l) F xs := fun F2 H2 e hs => by
  have hl : SqT K H2 l vs := ((h1.mono e).mono hs).sq
  refine ⟨fun i x ex => ?_, fun i hi => ⟨vs, hl, by rw [← h2.length]; exact hi⟩⟩
  obtain ⟨v, g1, g2⟩ := h2.get ex
  refine ⟨⟨vs, v, hl, g1⟩, fun u H3 y => ?_⟩
  obtain ⟨rfl, g3⟩ := y
  have e2 := (g3 vs hl).symm.trans g1
  cases e2
  exact ⟨F2, Step.refl hs, g2.mono e⟩
/-- a list that is not frozen, while only new things are made -/
theorem walk_own {K : PySem.W.Frag} {F H : Hp} {rho : Nat → Addr} {nx : Nat} {l : Addr} {xs : List D} {vs : List V} (h1 : H l = some (.lst vs)) (h2 : IsVs F rho nx xs vs) : WalkH (Itl K l) F H rho nx xs := fun F2 H2 e hs hh => by
  have hl : SqL K H2 l vs := SqL.of (hh _ _ h1)
  refine ⟨fun i x ex => ?_, fun i hi => ⟨vs, hl, by rw [← Paired.length h2]; exact hi⟩⟩
  obtain ⟨v, g1, g2⟩ := Paired.at h2 ex
  refine ⟨⟨vs, v, hl, g1⟩, fun u H3 y => ?_⟩
  obtain ⟨rfl, g3⟩ := y
  have e2 := (g3 vs hl).symm.trans g1
  cases e2
  exact ⟨F2, Step.refl hs, g2.step e⟩
theorem xf_seq (ha : XE X a ea) : XF X tg a (iSeq ea) := pi_by fun σ H R q => by
  obtain ⟨F0, H0, F, rho, s, xs, rl, h, k⟩ := q
  obtain ⟨x, hx, h1⟩ := oB_some h
  cases x with
  | tup ys =>
    cases h1
    refine ⟨_, pi_tup ha, tE1 rl hx fun F' H' v st iv => ?_⟩
    obtain ⟨l, vs, rfl, g1, g2⟩ := Is.tup_eq iv
    exact ⟨l, rfl, ⟨vs, (g1.mono st.s).sq⟩, k _ F' H' st (walk_tup g1 g2)⟩
  | lst ys =>
    cases h1
    refine ⟨_, pi_list ha, tE1 rl hx fun F' H' v st iv => ?_⟩
    obtain ⟨l, vs, rfl, g1, g2⟩ := Is.lst_eq iv
    exact ⟨l, rfl, ⟨vs, SqL.of (st.s _ _ g1)⟩, k _ F' H' st (walk_lst g1 g2)⟩
  | _ => cases h1
theorem xi_seq (ha : XE X a ea) : XI X tg a (iSeqR ea) := pi_by fun σ H R q => by
  obtain ⟨F0, H0, F, rho, s, xs, rl, h, k⟩ := q
  obtain ⟨x, hx, h1⟩ := oB_some h
  cases x with
  | tup ys =>
    cases h1
    refine ⟨_, pi_tup ha, tE1 rl hx fun F' H' v st iv => ?_⟩
    obtain ⟨l, vs, rfl, g1, g2⟩ := Is.tup_eq iv
    exact ⟨l, rfl, ⟨vs, (g1.mono st.s).sq⟩, k _ F' H' st (walk_tup g1 g2).toH⟩
  | ptup ys =>
    cases h1
    refine ⟨_, pi_tup ha, tE1 rl hx fun F' H' v st iv => ?_⟩
    obtain ⟨l, vs, o, rfl, g1, _, _, g2⟩ := Is.ptup_eq iv
    have g3 : TupAt F' l vs := .inr ⟨o, g1⟩
    exact ⟨l, rfl, ⟨vs, (g3.mono st.s).sq⟩, k _ F' H' st (walk_tup g3 g2).toH⟩
  | lst ys =>
    cases h1
    refine ⟨_, pi_list ha, tE1 rl hx fun F' H' v st iv => ?_⟩
    obtain ⟨l, vs, rfl, g1, g2⟩ := Is.lst_eq iv
    exact ⟨l, rfl, ⟨vs, SqL.of (st.s _ _ g1)⟩, k _ F' H' st (walk_lst g1 g2).toH⟩
  | ref n =>
    obtain ⟨ys, g1, g2⟩ := lst_of h1
    cases g2
    refine ⟨_, pi_list ha, tE1 rl hx fun F' H' v st iv => ?_⟩
    obtain ⟨_, _, _, vs, k1, k2⟩ := (rl.step st).ob n _ g1
    exact ⟨rho n, iv.2, ⟨vs, SqL.of k1⟩, k _ F' H' st (walk_own k1 k2)⟩
  | _ => cases h1
/-- a new pair of two things that are there -/
theorem pair_new {F H : Hp} {T : Addr} {x y : D} {v u : V} (hs : Same F H) (nT : H T = none) (h1 : Is F x v) (h2 : Is F y u) :
    Step F H (L2.upd F T (.tup [v, u])) (L2.upd H T (.tup [v, u])) ∧ Is (L2.upd F T (.tup [v, u])) (.tup [x, y]) (.ref T) :=
  ⟨Step.lay hs nT, .tup (.inl L2.upd_same) (.cons (h1.mono (same_new (hs.free nT))) (.cons (h2.mono (same_new (hs.free nT))) .nil))⟩
theorem enum_go : ∀ (xs : List D) (n i : Nat) (x : D), (@List.rec D (fun _ => Nat → List D) (fun _ => []) (fun x _ ih n => .tup [.int (.ofNat n), x] :: ih (Nat.succ n)) xs n)[i]? = some x → ∃ y, xs[i]? = some y ∧ x = .tup [.int ((n + i : Nat) : Int), y]
  | [], _, _, _, h => by cases h
  | y :: r, n, 0, x, h => by
    have e : D.tup [.int (.ofNat n), y] = x := Option.some.inj h
    exact ⟨y, rfl, e.symm⟩
  | y :: r, n, i + 1, x, h => by
    obtain ⟨z, h1, h2⟩ := enum_go r (Nat.succ n) i x h
    refine ⟨z, h1, ?_⟩
    rw [h2]
    have e : n.succ + i = n + (i + 1) := by omega
    rw [e]
theorem enum_len : ∀ (xs : List D) (n : Nat), (@List.rec D (fun _ => Nat → List D) (fun _ => []) (fun x _ ih n => .tup [.int (.ofNat n), x] :: ih (Nat.succ n)) xs n).length = xs.length
  | [], _ => rfl
  | _ :: r, n => congrArg Nat.succ (enum_len r (Nat.succ n))
theorem enumD_get {xs : List D} {i : Nat} {x : D} (h : (enumD xs)[i]? = some x) : ∃ y, xs[i]? = some y ∧ x = .tup [.int (i : Int), y] := by
  obtain ⟨y, h1, h2⟩ := enum_go xs 0 i x h
  exact ⟨y, h1, by rw [h2, Nat.zero_add]⟩
theorem enumD_len (xs : List D) : (enumD xs).length = xs.length := enum_len xs 0
theorem walk_enum {K : PySem.W.Frag} {F : Hp} {l : Addr} {xs : List D} {vs : List V} (h1 : F l = some (.lst vs)) (h2 : IsAll F xs vs) : WalkF (Ite K l) F (enumD xs) := fun F2 H2 e hs => by
  have hl : SqL K H2 l vs := SqL.of (hs _ _ (e _ _ h1))
  refine ⟨fun i x ex => ?_, fun i hi => ⟨vs, hl, by rw [← h2.length, ← enumD_len]; exact hi⟩⟩
  obtain ⟨y, ey, rfl⟩ := enumD_get ex
  obtain ⟨v, g1, g2⟩ := h2.get ey
  refine ⟨⟨vs, v, hl, g1⟩, fun u H3 yl => ?_⟩
  obtain ⟨T, z, rfl, nT, rfl, g3⟩ := yl
  have e2 := (g3 vs hl).symm.trans g1
  cases e2
  exact ⟨_, pair_new hs nT (.int _) (g2.mono e)⟩
theorem xf_enumL {elts : List Expr} {kk : Nat} {tpos : Pos} (hg : Gl X "enumerate") (hm : X.mg "enumerate" = none) (ha : XE X a ea) {σ : L2.St} {H : Hp} {R : It → Hp → Prop} {F0 H0 F : Hp} {rho : Nat → Addr} {s : S} {ys : List D}
    (rl : Rel X.prog X.w F0 H0 F rho s σ H) (hx : ea s = some (.lst ys)) (k : ∀ J F' H', Step F H F' H' → WalkF J F' (enumD ys) → R J H')
    (hs : starEach [a] X.env = [(false, eval a X.env)] := by rfl) (hs2 : starEach [a] X.env = (false, eval a X.env) :: starEach [] X.env := by rfl) :
    ∃ t', PI X (.Tuple elts kk tpos) (.Call (.Name "enumerate" p) [a] [] pos) t' ∧ t' σ H R := by
  refine ⟨_, pi_enum hg hm (pa1 ha hs2) hs, tE1 rl hx fun F' H' v st iv => ?_⟩
  obtain ⟨l, vs, rfl, g1, g2⟩ := Is.lst_eq iv
  exact ⟨l, vs, rfl, SqL.of (st.s _ _ g1), k _ F' H' st (walk_enum g1 g2)⟩
theorem zipD_get : ∀ (xs ys : List D) (i : Nat) (z : D), (zipD xs ys)[i]? = some z → ∃ x y, xs[i]? = some x ∧ ys[i]? = some y ∧ z = .tup [x, y]
  | [], _, _, _, h => by cases h
  | _ :: _, [], _, _, h => by cases h
  | x :: xs, y :: ys, 0, z, h => by
    have e : D.tup [x, y] = z := Option.some.inj h
    exact ⟨x, y, rfl, rfl, e.symm⟩
  | x :: xs, y :: ys, i + 1, z, h => zipD_get xs ys i z h
theorem zipD_len : ∀ xs ys : List D, (zipD xs ys).length = min xs.length ys.length
  | [], _ => (Nat.zero_min _).symm
  | _ :: _, [] => rfl
  | _ :: xs, _ :: ys => by
    show (zipD xs ys).length + 1 = min (xs.length + 1) (ys.length + 1)
    rw [zipD_len xs ys]
    omega
theorem walk_zip {K : PySem.W.Frag} {F : Hp} {l m : Addr} {xs ys : List D} {vs us : List V} (h1 : TupAt F l vs) (h2 : IsAll F xs vs) (h3 : TupAt F m us) (h4 : IsAll F ys us) : WalkF (RZ.ItzT K l m) F (zipD xs ys) := fun F2 H2 e hs => by
  have hl : SqT K H2 l vs := ((h1.mono e).mono hs).sq
  have hr : SqT K H2 m us := ((h3.mono e).mono hs).sq
  have l1 := h2.length
  have l2 := h4.length
  refine ⟨fun i z ez => ?_, fun i hi => ⟨vs, us, hl, hr, by rw [zipD_len] at hi; omega⟩⟩
  obtain ⟨x, y, ex, ey, rfl⟩ := zipD_get xs ys i z ez
  obtain ⟨v, g1, g2⟩ := h2.get ex
  obtain ⟨u, g3, g4⟩ := h4.get ey
  refine ⟨⟨vs, us, v, u, hl, hr, g1, g3⟩, fun v' H3 yl => ?_⟩
  obtain ⟨T, v2, u2, rfl, nT, rfl, k1, k2⟩ := yl
  have e1 := (k1 vs hl).symm.trans g1
  cases e1
  have e2 := (k2 us hr).symm.trans g3
  cases e2
  exact ⟨_, pair_new hs nT (g2.mono e) (g4.mono e)⟩
theorem xf_zip {elts : List Expr} {kk : Nat} {tpos : Pos} (hg : Gl X "zip") (hm : X.mg "zip" = none) (ha : XE X a ea) (hb : XE X b eb) (hs : starEach [a, b] X.env = (false, eval a X.env) :: starEach [b] X.env := by rfl)
    (hs2 : starEach [b] X.env = (false, eval b X.env) :: starEach [] X.env := by rfl) (hpl : (backTo pos (starEach [b] X.env)).any (·.1) = false := by rfl) :
    XF X (.Tuple elts kk tpos) (.Call (.Name "zip" p) [a, b] [] pos) (iZip ea eb) := pi_by fun σ H R q => by
  obtain ⟨F0, H0, F, rho, s, xs, rl, h, k⟩ := q
  obtain ⟨x, hx, h1⟩ := oB_some h
  obtain ⟨as, rfl, h2⟩ := gT_some h1
  obtain ⟨y, hy, h3⟩ := oB_some h2
  obtain ⟨bs, rfl, h4⟩ := gT_some h3
  obtain ⟨h5, h6⟩ := ck_some h4
  cases h6
  refine ⟨_, RZ.pi_zipA hg hm (pa_cons ha (pa1 hb hs2) hs) hs hpl, tE2 rl hx hy fun F' H' v u st iv iu => ?_⟩
  obtain ⟨l, vs, rfl, g1, g2⟩ := Is.tup_eq iv
  obtain ⟨m, us, rfl, g3, g4⟩ := Is.tup_eq iu
  exact ⟨l, m, vs, us, rfl, .inr ⟨(g1.mono st.s).sq, (g3.mono st.s).sq, k _ F' H' st (walk_zip g1 g2 g3 g4)⟩⟩
end

/-! ### targets -/
theorem getS_stl : ∀ (l : List (Option D)) (i j : Nat) (d : Option D), getS (stl l i d) j = if i = j ∧ i < l.length then d else getS l j
  | [], i, j, d => by rw [if_neg (by simp)]; rfl
  | x :: r, 0, 0, d => by rw [if_pos ⟨rfl, Nat.succ_pos _⟩]; rfl
  | x :: r, 0, j + 1, d => by rw [if_neg (by simp)]; rfl
  | x :: r, i + 1, 0, d => by rw [if_neg (by simp)]; rfl
  | x :: r, i + 1, j + 1, d => by
    show getS (stl r i d) j = _
    rw [getS_stl r i j d]
    by_cases h : i = j ∧ i < r.length
    · rw [if_pos h, if_pos ⟨by omega, by simpa using h.2⟩]
    · rw [if_neg h, if_neg (fun q => h ⟨by omega, by simpa using q.2⟩)]
      rfl
section
variable {P : Program} {w : World} {F0 H0 F F' : Hp} {rho : Nat → Addr} {s : S} {σ : L2.St} {H H' : Hp}
theorem Rel.put (R : Rel P w F0 H0 F rho s σ H) {i : Nat} {d : D} {v : V} (iv : IsV F rho s.nx d v) : Rel P w F0 H0 F rho (s.put i d) (σ.set i (some v)) H where
  sub := R.sub
  sub0 := R.sub0
  old := R.old
  fre := R.fre
  sl := fun j d' e => by
    have e1 : getS (stl s.sl i (some d)) j = some d' := e
    rw [getS_stl] at e1
    by_cases h : i = j ∧ i < s.sl.length
    · rw [if_pos h] at e1
      cases e1
      obtain ⟨rfl, hl⟩ := h
      refine ⟨v, ?_, iv⟩
      rw [List.getElem?_set_self (by rw [← R.ln]; exact hl)]
    · rw [if_neg h] at e1
      obtain ⟨u, g1, g2⟩ := R.sl j d' e1
      refine ⟨u, ?_, g2⟩
      by_cases hij : i = j
      · subst hij
        have hlt : i < σ.length := (List.getElem?_eq_some_iff.mp g1).1
        exact (h ⟨rfl, by rw [R.ln]; exact hlt⟩).elim
      · rw [List.getElem?_set_ne hij]; exact g1
  ln := by
    show (stl s.sl i (some d)).length = _
    rw [stl_eq, List.length_set, List.length_set]
    exact R.ln
  ob := R.ob
  inj := R.inj
end
def GOk (P : Program) (w : World) (g : TG) (tg : Tg) (vs : List Nat) : Prop := ∀ F0 H0 F rho s σ H x v s1 (Q : L2.St → Hp → Prop), Rel P w F0 H0 F rho s σ H → IsV F rho s.nx x v → tg s x = some s1 →
  (∀ σ2, Rel P w F0 H0 F rho s1 σ2 H → s1.nx = s.nx → s1.h = s.h → wipe σ2 vs = wipe σ vs → Q σ2 H) → g v (wipe σ vs) H Q
theorem wipe1 (σ : L2.St) (j : Nat) (v : Option V) : (wipe σ [j]).set j v = σ.set j v := by
  show (σ.set j none).set j v = σ.set j v
  rw [List.set_set]
theorem gok1 {P : Program} {w : World} (j : Nat) : GOk P w (gName j) (tgt1 j) [j] := fun F0 H0 F rho s σ H x v s1 Q R iv h k => by
  cases h
  show Q ((wipe σ [j]).set j (some v)) H
  rw [wipe1]
  refine k _ (R.put iv) rfl rfl ?_
  show (σ.set j (some v)).set j none = σ.set j none
  rw [List.set_set]
/-- in a for loop -/
def GFor (P : Program) (w : World) (g : TG) (tg : Tg) : Prop := ∀ F0 H0 F rho s σ H x v s1 (Q : L2.St → Hp → Prop), Rel P w F0 H0 F rho s σ H → IsV F rho s.nx x v → tg s x = some s1 →
  (∀ σ2, Rel P w F0 H0 F rho s1 σ2 H → Q σ2 H) → g v σ H Q
theorem gfor1 {P : Program} {w : World} (j : Nat) : GFor P w (gName j) (tgt1 j) := fun F0 H0 F rho s σ H x v s1 Q R iv h k => by
  cases h
  exact k (σ.set j (some v)) (R.put iv)
theorem two_some {β : Type} {l : List D} {f : D → D → Option β} {r : β} (h : two l f = some r) : ∃ a b, l = [a, b] ∧ f a b = some r := by
  match l, h with
  | [], h => cases h
  | [_], h => cases h
  | [a, b], h => exact ⟨a, b, rfl, h⟩
  | _ :: _ :: _ :: _, h => cases h
theorem isAll2 {F : Hp} {x y : D} {vs : List V} (h : IsAll F [x, y] vs) : ∃ v u, vs = [v, u] ∧ Is F x v ∧ Is F y u := by
  cases h with
  | cons h1 h2 =>
    cases h2 with
    | cons h3 h4 =>
      cases h4
      exact ⟨_, _, rfl, h1, h3⟩
theorem gfor2 {P : Program} {w : World} {K : PySem.W.Frag} (i j : Nat) : GFor P w (gTup K 2 (gCons (gName i) (gCons (gName j) gNil))) (tgt2 i j) := fun F0 H0 F rho s σ H x v s1 Q R iv h k => by
  obtain ⟨xs, rfl, h1⟩ := gT_some h
  obtain ⟨x1, x2, rfl, h2⟩ := two_some h1
  cases h2
  obtain ⟨l, vs, rfl, g1, g2⟩ := Is.tup_eq iv
  obtain ⟨v1, v2, rfl, g3, g4⟩ := isAll2 g2
  refine ⟨l, [v1, v2], rfl, (g1.mono R.sub).sq, rfl, v1, [v2], rfl, v2, [], rfl, rfl, ?_⟩
  exact k _ ((R.put (IsV.of g3)).put (IsV.of g4))
theorem wipe2 (σ : L2.St) {i j : Nat} (hij : i ≠ j) (v u : Option V) : ((wipe σ [i, j]).set i v).set j u = (σ.set i v).set j u := by
  show ((((σ.set j none).set i none).set i v).set j u) = _
  rw [List.set_set, List.set_comm _ _ hij.symm, List.set_set]
theorem wipe2b (σ : L2.St) {i j : Nat} (hij : i ≠ j) (v u : Option V) : wipe ((σ.set i v).set j u) [i, j] = wipe σ [i, j] := by
  show (((σ.set i v).set j u).set j none).set i none = (σ.set j none).set i none
  rw [List.set_set, List.set_comm _ _ hij, List.set_set]
theorem gok2 {P : Program} {w : World} {K : PySem.W.Frag} {i j : Nat} (hij : i ≠ j) : GOk P w (gTup K 2 (gCons (gName i) (gCons (gName j) gNil))) (tgt2 i j) [i, j] := fun F0 H0 F rho s σ H x v s1 Q R iv h k => by
  obtain ⟨xs, rfl, h1⟩ := gT_some h
  obtain ⟨x1, x2, rfl, h2⟩ := two_some h1
  cases h2
  obtain ⟨l, vs, rfl, g1, g2⟩ := Is.tup_eq iv
  obtain ⟨v1, v2, rfl, g3, g4⟩ := isAll2 g2
  refine ⟨l, [v1, v2], rfl, (g1.mono R.sub).sq, rfl, v1, [v2], rfl, v2, [], rfl, rfl, ?_⟩
  show Q (((wipe σ [i, j]).set i (some v1)).set j (some v2)) H
  rw [wipe2 σ hij]
  exact k _ ((R.put (IsV.of g3)).put (IsV.of g4)) rfl rfl (wipe2b σ hij _ _)

/-! ### list comprehensions -/
theorem compGo_cons {tg : Tg} {t : Tx} {e : Ex} {s : S} {x : D} {r : List D} {ds : List D} (h : compGo tg t e s (x :: r) = some ds) :
    ∃ s1 b, tg s x = some s1 ∧ t s1 = some b ∧ ((b = false ∧ compGo tg t e s r = some ds) ∨ (b = true ∧ ∃ d ds', e s1 = some d ∧ cl d = true ∧ compGo tg t e s r = some ds' ∧ ds = d :: ds')) := by
  obtain ⟨s1, h1, h2⟩ := oB_some h
  obtain ⟨b, h3, h4⟩ := oB_some h2
  refine ⟨s1, b, h1, h3, ?_⟩
  cases b with
  | false => exact .inl ⟨rfl, h4⟩
  | true =>
    obtain ⟨d, h5, h6⟩ := oB_some h4
    obtain ⟨h7, h8⟩ := ck_some h6
    obtain ⟨ds', h9, h10⟩ := oB_some h8
    cases h10
    exact .inr ⟨rfl, d, ds', h5, h7, h9, rfl⟩
theorem drop_at {α : Type} {xs : List α} {i : Nat} (h : i < xs.length) : xs.drop i = xs[i] :: xs.drop (i + 1) := by rw [List.drop_eq_getElem_cons h]
section
variable {P : Program} {w : World}
theorem lc_reads {it : Lx} {g : TG} {tg : Tg} {tt : Tx} {ee : Ex} {vs : List Nat} (gk : GOk P w g tg vs) {σ : L2.St} {H : Hp} {Q : VK} (h : tL P w (lComp tg it tt ee) σ H Q) :
    tLc (tI P w it) g (tT P w tt) (tE P w ee) vs σ H Q := by
  obtain ⟨F0, H0, F, rho, s, ds, R, he, q⟩ := h
  obtain ⟨xs, hit, h1⟩ := oB_some he
  obtain ⟨hz, hgo⟩ := ck_some h1
  have z := sz_short hz
  refine ⟨F0, H0, F, rho, s, xs, R, hit, fun J F1 H1 st1 wk Dl nD => ?_⟩
  have R1 := R.step st1
  refine ⟨fun i m H' => m = xs.length - i ∧ i ≤ xs.length ∧ ∃ F' acc d1 d2, Step F1 H1 F' H' ∧ F' Dl = none ∧ H' Dl = some (.lst acc) ∧ IsAll F' d1 acc ∧ compGo tg tt ee s (xs.drop i) = some d2 ∧ ds = d1 ++ d2 ∧ acc.length ≤ i,
    ⟨xs.length, rfl, Nat.zero_le _, F1, [], [], ds, Step.own st1.s nD, st1.s.free nD, L2.upd_same, .nil, hgo, rfl, Nat.le_refl _⟩, fun i m H' hW => ?_⟩
  obtain ⟨hm, hi, F', acc, d1, d2, st, fD, hD, ia, hc, hds, hl⟩ := hW
  have wk' := wk F' H' st.f st.s st.h
  by_cases hlt : i < xs.length
  · refine .inr ?_
    have hx : xs[i]? = some xs[i] := List.getElem?_eq_getElem hlt
    obtain ⟨go, yl⟩ := wk'.1 i _ hx
    refine ⟨go, fun H2 => (∃ F2 acc d1 d2, Step F1 H1 F2 H2 ∧ F2 Dl = none ∧ H2 Dl = some (.lst acc) ∧ IsAll F2 d1 acc ∧ compGo tg tt ee s (xs.drop (i + 1)) = some d2 ∧ ds = d1 ++ d2 ∧ acc.length ≤ i + 1),
      fun H2 hN => ⟨m - 1, by omega, by omega, hlt, hN⟩, fun v H3 hy => ?_⟩
    obtain ⟨F3, st3, iv⟩ := yl v H3 hy
    rw [drop_at hlt] at hc
    obtain ⟨s1, b, k1, k2, k3⟩ := compGo_cons hc
    have st13 := st.trans st3
    have fD3 := st3.keep fD hD
    have hD3 := st3.h _ _ hD
    refine gk F0 H0 F3 rho s σ H3 _ v s1 _ (R1.step st13) iv k1 fun σ2 R2 en eh ew => ⟨ew, F0, H0, F3, rho, s1, b, R2, k2, fun F4 H4 st4 => ?_⟩
    have st14 := st13.trans st4
    have fD4 := st4.keep fD3 hD3
    have hD4 := st4.h _ _ hD3
    rcases k3 with ⟨rfl, k4⟩ | ⟨rfl, d, ds', k4, k5, k6, rfl⟩
    · exact iteF ⟨F4, acc, d1, d2, st14, fD4, hD4, ia.mono (st3.f.trans st4.f), k4, hds, Nat.le_succ_of_le hl⟩
    · refine iteT (tE1 (R2.step st4) k4 fun F5 H5 y st5 iy => ?_)
      have st15 := st14.trans st5
      have fD5 := st5.keep fD4 hD4
      have hD5 := st5.h _ _ hD4
      refine ⟨acc, hD5, line_gt (by omega), F5, acc ++ [y], d1 ++ [d], ds', st15.mut fD5 nD, fD5, L2.upd_same, (ia.mono ((st3.f.trans st4.f).trans st5.f)).append (.cons (iy.closed k5) .nil), k6, by rw [hds, List.append_assoc]; rfl, ?_⟩
      rw [List.length_append]
      show acc.length + 1 ≤ i + 1
      omega
  · have hie : i = xs.length := by omega
    subst hie
    rw [List.drop_length] at hc
    cases hc
    rw [List.append_nil] at hds
    subst hds
    exact .inl ⟨wk'.2 _ (Nat.le_refl _), q F' H' Dl acc (st1.trans st) (st1.h.free nD) fD hD ia⟩
end
theorem pts_yes {X : Cx} : PTs X [] (tT X.prog X.w tYes) := ⟨fun pins st σ H Q I h => by
  obtain ⟨F0, H0, F, rho, s, b, R, he, q⟩ := h
  cases he
  exact pts_nil.run pins st σ H Q I (q F H (Step.refl R.sub))⟩
theorem pts_if {X : Cx} {c : Expr} {t : Tx} (h : XT X c t) : PTs X [c] (tT X.prog X.w t) := pts_one h
section
variable {X : Cx} {elt tgE iter : Expr} {ifs : List Expr} {scope : Scope} {own : List (Str × Nat)} {pos : Pos} {it : Lx} {g : TG} {tg : Tg} {tt : Tx} {ee : Ex}
theorem xl_comp (hc : X.calm = true) (hN : X.N.Nodup) (hi : XI X tgE iter it) (ok : BlkOk X.N X.env.scope scope own) (gk : GOk X.prog X.w g tg (own.map (·.2)))
    (hg : ∀ (s : Shared) (H : Hp) (C : Addr) (cl : List (Str × Addr)) (fp : List Addr), PG (X.blk s H scope (compEnvC scope cl C X.env) fp) tgE g) (ht : ∀ (s : Shared) (H : Hp) (C : Addr) (cl : List (Str × Addr)) (fp : List Addr), PTs (X.blk s H scope (compEnvC scope cl C X.env) fp) ifs (tT X.prog X.w tt))
    (he : ∀ (s : Shared) (H : Hp) (C : Addr) (cl : List (Str × Addr)) (fp : List Addr), PE (X.blk s H scope (compEnvC scope cl C X.env) fp) elt (tE X.prog X.w ee)) (hs : ∀ x, foldedSetIterable iter X.env x = pure x := by intro _; rfl) :
    XL X (.ListComp elt [⟨tgE, iter, ifs, 0⟩] scope pos) (lComp tg it tt ee) := pe_by fun σ H Q h => ⟨_, pe_lc hc hN hi ok hg ht he hs, lc_reads gk h⟩
end

/-! ### dict comprehensions -/
theorem dictGo_cons {tg : Tg} {k e : Ex} {s : S} {x : D} {r : List D} {acc kvs : List (Int × D)} (h : dictGo tg k e s (x :: r) acc = some kvs) :
    ∃ s1 i d, tg s x = some s1 ∧ k s1 = some (.int i) ∧ e s1 = some d ∧ cl d = true ∧ dictGo tg k e s r (putD i d acc) = some kvs := by
  obtain ⟨s1, h1, h2⟩ := oB_some h
  obtain ⟨y, h3, h4⟩ := oB_some h2
  obtain ⟨i, rfl, h5⟩ := gI_some h4
  obtain ⟨d, h6, h7⟩ := oB_some h5
  obtain ⟨h8, h9⟩ := ck_some h7
  exact ⟨s1, i, d, h1, h3, h6, h8, h9⟩
theorem hasD_is {F : Hp} {k : Int} : ∀ {xs : List (Int × D)} {vs : List (Key × V)}, IsKv F xs vs → (vs.any fun kv => decide (kv.1 = (Sum.inl k : Key))) = hasD k xs
  | _, _, .nil => rfl
  | _, _, .cons (k := j) (ds := ds) (vs := vs) _ t => by
    show (decide ((Sum.inl j : Key) = Sum.inl k) || vs.any fun kv => decide (kv.1 = (Sum.inl k : Key))) = @Bool.rec (fun _ => Bool) (hasD k ds) true (eqI j k)
    rw [hasD_is t, eqI_eq]
    by_cases e : j = k
    · subst e; simp
    · have e2 : ¬ ((Sum.inl j : Key) = Sum.inl k) := fun q => e (Sum.inl.inj q)
      rw [decide_eq_false e, decide_eq_false e2]
      rfl
theorem mapD_is {F : Hp} {k : Int} {d : D} {v : V} (iv : Is F d v) : ∀ {xs : List (Int × D)} {vs : List (Key × V)}, IsKv F xs vs → IsKv F (mapD k d xs) (vs.map fun kv => if kv.1 = (Sum.inl k : Key) then (kv.1, v) else kv)
  | _, _, .nil => .nil
  | _, _, .cons (k := j) (d := d0) (v := v0) (ds := ds) (vs := vs) h t => by
    have ih := mapD_is (k := k) iv t
    show IsKv F (@Bool.rec (fun _ => List (Int × D)) ((j, d0) :: mapD k d ds) ((j, d) :: mapD k d ds) (eqI j k)) ((if (Sum.inl j : Key) = Sum.inl k then (Sum.inl j, v) else (Sum.inl j, v0)) :: vs.map fun kv => if kv.1 = (Sum.inl k : Key) then (kv.1, v) else kv)
    rw [eqI_eq]
    by_cases e : j = k
    · subst e
      rw [decide_eq_true rfl, if_pos rfl]
      exact .cons iv ih
    · have e2 : ¬ ((Sum.inl j : Key) = Sum.inl k) := fun q => e (Sum.inl.inj q)
      rw [decide_eq_false e, if_neg e2]
      exact .cons h ih
theorem IsKv.snoc {F : Hp} {k : Int} {d : D} {v : V} (iv : Is F d v) : ∀ {xs : List (Int × D)} {vs : List (Key × V)}, IsKv F xs vs → IsKv F (xs ++ [(k, d)]) (vs ++ [(Sum.inl k, v)])
  | _, _, .nil => .cons iv .nil
  | _, _, .cons h t => .cons h (IsKv.snoc iv t)
theorem putD_is {F : Hp} {k : Int} {d : D} {v : V} (iv : Is F d v) {xs : List (Int × D)} {vs : List (Key × V)} (h : IsKv F xs vs) : IsKv F (putD k d xs) (putK vs (Sum.inl k) v) := by
  unfold putD putK
  rw [hasD_is h]
  cases e : hasD k xs with
  | true => exact mapD_is iv h
  | false =>
    show IsKv F (app xs [(k, d)]) (vs ++ [(Sum.inl k, v)])
    rw [app_eq]
    exact IsKv.snoc iv h
theorem putK_len (vs : List (Key × V)) (k : Key) (v : V) : (putK vs k v).length ≤ vs.length + 1 := by
  unfold putK
  split
  · rw [List.length_map]; omega
  · rw [List.length_append]; exact Nat.le_refl _
section
variable {P : Program} {w : World}
theorem dc_reads {it : Lx} {g : TG} {tg : Tg} {kk ee : Ex} {vs : List Nat} (gk : GOk P w g tg vs) {σ : L2.St} {H : Hp} {Q : VK} (h : tE P w (eDictC tg it kk ee) σ H Q) :
    tDc (tI P w it) g (tT P w tYes) (tE P w kk) (tE P w ee) vs σ H Q := by
  obtain ⟨F0, H0, F, rho, s, d, R, he, q⟩ := h
  obtain ⟨xs, hit, h1⟩ := oB_some he
  obtain ⟨hz, h2⟩ := ck_some h1
  obtain ⟨kvs, hgo, h3⟩ := oB_some h2
  cases h3
  have z := sz_short hz
  refine ⟨F0, H0, F, rho, s, xs, R, hit, fun J F1 H1 st1 wk Dl nD => ?_⟩
  have R1 := R.step st1
  refine ⟨fun i m H' => m = xs.length - i ∧ i ≤ xs.length ∧ ∃ F' ws acc, Step F1 H1 F' H' ∧ F' Dl = none ∧ H' Dl = some (.dK ws) ∧ IsKv F' acc ws ∧ dictGo tg kk ee s (xs.drop i) acc = some kvs ∧ ws.length ≤ i,
    ⟨xs.length, rfl, Nat.zero_le _, F1, [], [], Step.own st1.s nD, st1.s.free nD, L2.upd_same, .nil, hgo, Nat.le_refl _⟩, fun i m H' hW => ?_⟩
  obtain ⟨hm, hi, F', ws, acc, st, fD, hD, ia, hc, hl⟩ := hW
  have wk' := wk F' H' st.f st.s st.h
  by_cases hlt : i < xs.length
  · refine .inr ?_
    have hx : xs[i]? = some xs[i] := List.getElem?_eq_getElem hlt
    obtain ⟨go, yl⟩ := wk'.1 i _ hx
    refine ⟨go, fun H2 => (∃ F2 ws acc, Step F1 H1 F2 H2 ∧ F2 Dl = none ∧ H2 Dl = some (.dK ws) ∧ IsKv F2 acc ws ∧ dictGo tg kk ee s (xs.drop (i + 1)) acc = some kvs ∧ ws.length ≤ i + 1),
      fun H2 hN => ⟨m - 1, by omega, by omega, hlt, hN⟩, fun v H3 hy => ?_⟩
    obtain ⟨F3, st3, iv⟩ := yl v H3 hy
    rw [drop_at hlt] at hc
    obtain ⟨s1, j, d, k1, k2, k3, k4, k5⟩ := dictGo_cons hc
    have st13 := st.trans st3
    have fD3 := st3.keep fD hD
    have hD3 := st3.h _ _ hD
    refine gk F0 H0 F3 rho s σ H3 _ v s1 _ (R1.step st13) iv k1 fun σ2 R2 en eh ew => ⟨ew, F0, H0, F3, rho, s1, true, R2, rfl, fun F4 H4 st4 => iteT (tE2 (R2.step st4) k2 k3 fun F5 H5 y u st5 iy iu => ?_)⟩
    have st15 := (st13.trans st4).trans st5
    have fD5 := st5.keep (st4.keep fD3 hD3) (st4.h _ _ hD3)
    have hD5 := st5.h _ _ (st4.h _ _ hD3)
    have pl := putK_len ws (Sum.inl j) u
    exact ⟨ws, Sum.inl j, v_int iy, hD5, line_gt (by omega), F5, _, putD j d acc, st15.mut fD5 nD, fD5, L2.upd_same, putD_is (iu.closed k4) (ia.mono ((st3.f.trans st4.f).trans st5.f)), k5, by omega⟩
  · have hie : i = xs.length := by omega
    subst hie
    rw [List.drop_length] at hc
    cases hc
    refine .inl ⟨wk'.2 _ (Nat.le_refl _), ?_⟩
    have fn := (st1.trans st)
    refine q (L2.upd F' Dl (.dK ws)) H' _ ⟨fn.f.trans (same_new fD), fun b o e => ?_, fn.h, fun b o e => ?_⟩ (IsV.of (.idict L2.upd_same (ia.mono (same_new fD))))
    · by_cases hb : b = Dl
      · subst hb; rw [L2.upd_same] at e; rw [hD]; exact e
      · rw [L2.upd_ne hb] at e; exact fn.s b o e
    · by_cases hb : b = Dl
      · subst hb; exact .inr (st1.h.free nD)
      · rw [L2.upd_ne hb] at e; exact fn.n b o e
end
section
variable {X : Cx} {kx vx tgE iter : Expr} {scope : Scope} {own : List (Str × Nat)} {pos : Pos} {it : Lx} {g : TG} {tg : Tg} {kk ee : Ex}
theorem x_dc (hc : X.calm = true) (hN : X.N.Nodup) (hi : XI X tgE iter it) (ok : BlkOk X.N X.env.scope scope own) (gk : GOk X.prog X.w g tg (own.map (·.2)))
    (hg : ∀ (s : Shared) (H : Hp) (C : Addr) (cl : List (Str × Addr)) (fp : List Addr), PG (X.blk s H scope (compEnvC scope cl C X.env) fp) tgE g)
    (hk : ∀ (s : Shared) (H : Hp) (C : Addr) (cl : List (Str × Addr)) (fp : List Addr), PE (X.blk s H scope (compEnvC scope cl C X.env) fp) kx (tE X.prog X.w kk))
    (he : ∀ (s : Shared) (H : Hp) (C : Addr) (cl : List (Str × Addr)) (fp : List Addr), PE (X.blk s H scope (compEnvC scope cl C X.env) fp) vx (tE X.prog X.w ee)) (hs : ∀ x, foldedSetIterable iter X.env x = pure x := by intro _; rfl) :
    XE X (.DictComp kx vx [⟨tgE, iter, [], 0⟩] scope pos) (eDictC tg it kk ee) := pe_by fun σ H Q h =>
  ⟨_, pe_dc hc hN hi ok hg (fun _ _ _ _ _ => pts_yes) hk he hs, dc_reads gk h⟩
end
end Kx

/-! KxS: objects of the state, statements. -/
namespace Kx
open PySem L2 PyProof.Rows

/-! ### objects: new, changed, dropped -/
theorem getO_put : ∀ (l : List (Nat × O)) (n m : Nat) (o : O), getO (putO l n o) m = if n = m then (getO l n).map (fun _ => o) else getO l m
  | [], n, m, o => by by_cases h : n = m <;> simp [h] <;> rfl
  | p :: r, n, m, o => by
    have ih := getO_put r n m o
    have e1 : putO (p :: r) n o = @Bool.rec (fun _ => List (Nat × O)) (p :: putO r n o) ((n, o) :: r) (Nat.beq p.1 n) := rfl
    have e2 : ∀ k, getO (p :: r) k = @Bool.rec (fun _ => Option O) (getO r k) (some p.2) (Nat.beq p.1 k) := fun k => rfl
    rw [e1]
    cases h : Nat.beq p.1 n with
    | true =>
      have hp : p.1 = n := Nat.eq_of_beq_eq_true h
      show getO ((n, o) :: r) m = _
      have e3 : getO ((n, o) :: r) m = @Bool.rec (fun _ => Option O) (getO r m) (some o) (Nat.beq n m) := rfl
      rw [e3, e2 n, h]
      by_cases q : n = m
      · subst q
        rw [if_pos rfl, Nat.beq_refl]
        rfl
      · rw [if_neg q]
        have : Nat.beq n m = false := by
          cases z : Nat.beq n m with
          | false => rfl
          | true => exact (q (Nat.eq_of_beq_eq_true z)).elim
        rw [this, e2 m, hp, this]
    | false =>
      show getO (p :: putO r n o) m = _
      have e3 : getO (p :: putO r n o) m = @Bool.rec (fun _ => Option O) (getO (putO r n o) m) (some p.2) (Nat.beq p.1 m) := rfl
      rw [e3, ih, e2 n, h, e2 m]
      by_cases q : n = m
      · subst q
        rw [if_pos rfl, if_pos rfl, h]
      · rw [if_neg q, if_neg q]
theorem getO_del : ∀ (l : List (Nat × O)) (n m : Nat), getO (delO l n) m = if n = m then none else getO l m
  | [], n, m => by by_cases h : n = m <;> simp [h] <;> rfl
  | p :: r, n, m => by
    have ih := getO_del r n m
    have e1 : delO (p :: r) n = @Bool.rec (fun _ => List (Nat × O)) (p :: delO r n) (delO r n) (Nat.beq p.1 n) := rfl
    have e2 : ∀ k, getO (p :: r) k = @Bool.rec (fun _ => Option O) (getO r k) (some p.2) (Nat.beq p.1 k) := fun k => rfl
    rw [e1]
    cases h : Nat.beq p.1 n with
    | true =>
      have hp : p.1 = n := Nat.eq_of_beq_eq_true h
      show getO (delO r n) m = _
      rw [ih]
      by_cases q : n = m
      · rw [if_pos q, if_pos q]
      · rw [if_neg q, if_neg q, e2 m, hp]
        have : Nat.beq n m = false := by
          cases z : Nat.beq n m with
          | false => rfl
          | true => exact (q (Nat.eq_of_beq_eq_true z)).elim
        rw [this]
    | false =>
      show getO (p :: delO r n) m = _
      have e3 : getO (p :: delO r n) m = @Bool.rec (fun _ => Option O) (getO (delO r n) m) (some p.2) (Nat.beq p.1 m) := rfl
      rw [e3, ih, e2 m]
      by_cases q : n = m
      · subst q
        rw [if_pos rfl, if_pos rfl, h]
      · rw [if_neg q, if_neg q]
theorem getO_new (s : S) (o : O) (m : Nat) : getO (s.new o).h m = if s.nx = m then some o else getO s.h m := by
  have e : getO (s.new o).h m = @Bool.rec (fun _ => Option O) (getO s.h m) (some o) (Nat.beq s.nx m) := rfl
  rw [e]
  by_cases q : s.nx = m
  · subst q
    rw [if_pos rfl, Nat.beq_refl]
  · rw [if_neg q]
    have : Nat.beq s.nx m = false := by
      cases z : Nat.beq s.nx m with
      | false => rfl
      | true => exact (q (Nat.eq_of_beq_eq_true z)).elim
    rw [this]
/-- the references, one more -/
def rhoP (rho : Nat → Addr) (n : Nat) (p : Addr) : Nat → Addr := fun m => if m = n then p else rho m
theorem rhoP_agr (rho : Nat → Addr) (n : Nat) (p : Addr) : Agr rho (rhoP rho n p) n := fun m h => by
  unfold rhoP
  rw [if_neg (Nat.ne_of_lt h)]
theorem rhoP_self (rho : Nat → Addr) (n : Nat) (p : Addr) : rhoP rho n p n = p := if_pos rfl
section
variable {P : Program} {w : World} {F0 H0 F F' : Hp} {rho : Nat → Addr} {s : S} {σ : L2.St} {H H' : Hp}
/-- a new object of the state, at p that was free -/
theorem Rel.new (R : Rel P w F0 H0 F rho s σ H) {p : Addr} {o : O} {ho : HO} (np : H p = none) (io : IsO P w F (rhoP rho s.nx p) (Nat.succ s.nx) (L2.upd H p ho) o p) :
    Rel P w F0 H0 F (rhoP rho s.nx p) (s.new o) σ (L2.upd H p ho) where
  sub := R.sub.trans (same_new np)
  sub0 := R.sub0
  old := R.old.trans (same_new np)
  fre := R.fre
  sl := fun i d e => by
    obtain ⟨v, h1, h2⟩ := R.sl i d e
    exact ⟨v, h1, h2.mono (Same.refl _) (rhoP_agr _ _ _) (Nat.le_succ _)⟩
  ln := R.ln
  ob := fun n o' e => by
    rw [getO_new] at e
    by_cases q : s.nx = n
    · rw [if_pos q] at e
      cases e
      subst q
      rw [rhoP_self]
      exact ⟨Nat.lt_succ_self _, R.old.free np, R.sub.free np, io⟩
    · rw [if_neg q] at e
      obtain ⟨h1, h2, h3, h4⟩ := R.ob n o' e
      have er : rhoP rho s.nx p n = rho n := rhoP_agr _ _ _ n h1
      rw [er]
      refine ⟨Nat.lt_succ_of_lt h1, h2, h3, h4.mono (Same.refl _) (fun u hu => ?_) (rhoP_agr _ _ _) (Nat.le_succ _)⟩
      rw [L2.upd_ne (ne_of_none hu np)]
      exact hu
  inj := fun n m o1 o2 e1 e2 he => by
    rw [getO_new] at e1 e2
    have far : ∀ k o', getO s.h k = some o' → rho k ≠ p := fun k o' ek z => by
      obtain ⟨_, _, _, h4⟩ := R.ob k o' ek
      rw [z] at h4
      exact h4.there np
    by_cases q1 : s.nx = n
    · by_cases q2 : s.nx = m
      · exact q1.symm.trans q2
      · rw [if_neg q2] at e2
        obtain ⟨h1, _⟩ := R.ob m o2 e2
        subst q1
        rw [rhoP_self, rhoP_agr _ _ _ m h1] at he
        exact (far m o2 e2 he.symm).elim
    · rw [if_neg q1] at e1
      obtain ⟨h1, _⟩ := R.ob n o1 e1
      by_cases q2 : s.nx = m
      · subst q2
        rw [rhoP_self, rhoP_agr _ _ _ n h1] at he
        exact (far n o1 e1 he).elim
      · rw [if_neg q2] at e2
        obtain ⟨h2, _⟩ := R.ob m o2 e2
        rw [rhoP_agr _ _ _ n h1, rhoP_agr _ _ _ m h2] at he
        exact R.inj n m o1 o2 e1 e2 he
/-- the n-th object changes -/
theorem Rel.sto (R : Rel P w F0 H0 F rho s σ H) {n : Nat} {o o0 : O} {ho : HO} (hn : getO s.h n = some o0) (io : IsO P w F rho s.nx (L2.upd H (rho n) ho) o (rho n)) :
    Rel P w F0 H0 F rho (s.sto n o) σ (L2.upd H (rho n) ho) := by
  obtain ⟨g1, g2, g3, g4⟩ := R.ob n o0 hn
  refine ⟨fun b u e => ?_, R.sub0, fun b u e => ?_, R.fre, R.sl, R.ln, fun m o' e => ?_, fun a b o1 o2 e1 e2 he => ?_⟩
  · rw [L2.upd_ne (fun q => by subst q; rw [g3] at e; cases e)]
    exact R.sub b u e
  · rw [L2.upd_ne (fun q => by subst q; rw [g2] at e; cases e)]
    exact R.old b u e
  · have e1 : getO (putO s.h n o) m = some o' := e
    rw [getO_put] at e1
    by_cases q : n = m
    · subst q
      rw [if_pos rfl, hn] at e1
      cases e1
      exact ⟨g1, g2, g3, io⟩
    · rw [if_neg q] at e1
      obtain ⟨h1, h2, h3, h4⟩ := R.ob m o' e1
      refine ⟨h1, h2, h3, h4.mono (Same.refl _) (fun u hu => ?_) (Agr.refl _ _) (Nat.le_refl _)⟩
      rw [L2.upd_ne (fun z => q (R.inj n m o0 o' hn e1 z.symm))]
      exact hu
  · have key : ∀ k o', getO (putO s.h n o) k = some o' → ∃ o'', getO s.h k = some o'' := fun k o' ek => by
      rw [getO_put] at ek
      by_cases q : n = k
      · subst q; exact ⟨o0, hn⟩
      · rw [if_neg q] at ek; exact ⟨o', ek⟩
    obtain ⟨o3, k1⟩ := key a o1 e1
    obtain ⟨o4, k2⟩ := key b o2 e2
    exact R.inj a b o3 o4 k1 k2 he
/-- the n-th object, a list of closed things, is kept as it is from here on -/
theorem Rel.move (R : Rel P w F0 H0 F rho s σ H) {n : Nat} {xs : List D} (hn : getO s.h n = some (.lst xs)) (hc : clAll xs = true) :
    ∃ vs, H (rho n) = some (.lst vs) ∧ Same F (L2.upd F (rho n) (.lst vs)) ∧ Rel P w F0 H0 (L2.upd F (rho n) (.lst vs)) rho (s.del n) σ H ∧ Is (L2.upd F (rho n) (.lst vs)) (.lst xs) (.ref (rho n)) := by
  obtain ⟨g1, g2, g3, vs, g4, g5⟩ := R.ob n _ hn
  have e := same_new (o := .lst vs) g3
  refine ⟨vs, g4, e, ⟨fun b u q => ?_, R.sub0.trans e, R.old, fun b u q => ?_, fun i d q => ?_, R.ln, fun m o' q => ?_, fun a b o1 o2 e1 e2 he => ?_⟩, .lst L2.upd_same ((g5.closed hc).mono e)⟩
  · by_cases hb : b = rho n
    · subst hb; rw [L2.upd_same] at q; rw [g4]; exact q
    · rw [L2.upd_ne hb] at q; exact R.sub b u q
  · by_cases hb : b = rho n
    · subst hb; exact .inr g2
    · rw [L2.upd_ne hb] at q; exact R.fre b u q
  · obtain ⟨v, h1, h2⟩ := R.sl i d q
    exact ⟨v, h1, h2.step e⟩
  · have q1 : getO (delO s.h n) m = some o' := q
    rw [getO_del] at q1
    by_cases hm : n = m
    · rw [if_pos hm] at q1; cases q1
    · rw [if_neg hm] at q1
      obtain ⟨h1, h2, h3, h4⟩ := R.ob m o' q1
      refine ⟨h1, h2, ?_, h4.mono e (fun _ q => q) (Agr.refl _ _) (Nat.le_refl _)⟩
      rw [L2.upd_ne (fun z => hm (R.inj n m _ o' hn q1 z.symm))]
      exact h3
  · have key : ∀ k o', getO (delO s.h n) k = some o' → getO s.h k = some o' := fun k o' ek => by
      rw [getO_del] at ek
      by_cases q : n = k
      · rw [if_pos q] at ek; cases ek
      · rw [if_neg q] at ek; exact ek
    exact R.inj a b o1 o2 (key a o1 e1) (key b o2 e2) he
end

/-! ### values that may be objects -/
section
variable {P : Program} {w : World}
theorem av_reads {e : Ex} {σ : L2.St} {H : Hp} {Q : VK} (h : tA P w (aV e) σ H Q) : tE P w e σ H Q := by
  obtain ⟨F0, H0, F, rho, s, d, s', R, he, q⟩ := h
  obtain ⟨d1, h1, h2⟩ := oB_some he
  cases h2
  exact tE1 R h1 fun F' H' v st iv => q F' rho H' v (R.step st) st.f (Agr.refl _ _) (Nat.le_refl _) iv
theorem own_reads {l : Lx} {σ : L2.St} {H : Hp} {Q : VK} (h : tA P w (aOwn l) σ H Q) : tL P w l σ H Q := by
  obtain ⟨F0, H0, F, rho, s, d, s', R, he, q⟩ := h
  obtain ⟨xs, h1, h2⟩ := oB_some he
  cases h2
  refine ⟨F0, H0, F, rho, s, xs, R, h1, fun F' H' p vs st np nf hp ia => ?_⟩
  have R1 := R.step st
  have R2 : Rel P w F0 H0 F' (rhoP rho s.nx p) (s.new (.lst xs)) σ H' := by
    refine ⟨R1.sub, R1.sub0, R1.old, R1.fre, fun i d e => ?_, R1.ln, fun n o' e => ?_, fun n m o1 o2 e1 e2 he2 => ?_⟩
    · obtain ⟨v, g1, g2⟩ := R1.sl i d e
      exact ⟨v, g1, g2.mono (Same.refl _) (rhoP_agr _ _ _) (Nat.le_succ _)⟩
    · rw [getO_new] at e
      by_cases z : s.nx = n
      · rw [if_pos z] at e
        cases e
        subst z
        rw [rhoP_self]
        exact ⟨Nat.lt_succ_self _, R.old.free np, nf, vs, hp, ia.vs⟩
      · rw [if_neg z] at e
        obtain ⟨g1, g2, g3, g4⟩ := R1.ob n o' e
        rw [rhoP_agr _ _ _ n g1]
        exact ⟨Nat.lt_succ_of_lt g1, g2, g3, g4.mono (Same.refl _) (fun _ q => q) (rhoP_agr _ _ _) (Nat.le_succ _)⟩
    · rw [getO_new] at e1 e2
      have far : ∀ k o', getO s.h k = some o' → rho k ≠ p := fun k o' ek z => by
        obtain ⟨_, _, _, g4⟩ := R.ob k o' ek
        rw [z] at g4
        exact g4.there np
      by_cases q1 : s.nx = n
      · by_cases q2 : s.nx = m
        · exact q1.symm.trans q2
        · rw [if_neg q2] at e2
          obtain ⟨g1, _⟩ := R.ob m o2 e2
          subst q1
          rw [rhoP_self, rhoP_agr _ _ _ m g1] at he2
          exact (far m o2 e2 he2.symm).elim
      · rw [if_neg q1] at e1
        obtain ⟨g1, _⟩ := R.ob n o1 e1
        by_cases q2 : s.nx = m
        · subst q2
          rw [rhoP_self, rhoP_agr _ _ _ n g1] at he2
          exact (far n o1 e1 he2).elim
        · rw [if_neg q2] at e2
          obtain ⟨g2, _⟩ := R.ob m o2 e2
          rw [rhoP_agr _ _ _ n g1, rhoP_agr _ _ _ m g2] at he2
          exact R.inj n m o1 o2 e1 e2 he2
  exact q F' _ H' _ R2 st.f (rhoP_agr _ _ _) (Nat.le_succ _) ⟨Nat.lt_succ_self _, by rw [rhoP_self]⟩
end
section
variable {X : Cx} {a b c e tg : Expr} {ea eb ec : Ex} {pos p p2 : Pos}
theorem xa_v (h : XE X e ea) : XA X e (aV ea) := pe_by fun σ H Q q => ⟨_, h, av_reads q⟩
theorem xa_own {l : Lx} (h : XL X e l) : XA X e (aOwn l) := pe_by fun σ H Q q => ⟨_, h, own_reads q⟩

/-! ### blocks -/
theorem After.mono {P : Program} {w : World} {F0 H0 F F' : Hp} {r : R} {D : Ends} (e : Same F F') (h : After P w F0 H0 F r D) : After P w F0 H0 F' r D := by
  cases r with
  | bad => exact h
  | nx s' => exact fun F2 rho' σ' H' R f => h F2 rho' σ' H' R (e.trans f)
  | rt d s' => exact fun F2 rho' σ' H' v R f iv => h F2 rho' σ' H' v R (e.trans f) iv
theorem xb_nil : XB X [] sNext := ⟨fun pins st σ H D I h => by
  obtain ⟨F0, H0, F, rho, s, R, q⟩ := h
  exact pss_nil.run pins st σ H D I (q F rho σ H R (Same.refl _))⟩
theorem xb_one {st : Stmt} {f : Sx} (h : XS X st f) : XB X [st] f := pss_one h
theorem xb_cons {st : Stmt} {rest : List Stmt} {f g : Sx} (h1 : XS X st f) (h2 : XB X rest g) : XB X (st :: rest) (sSeq f g) := ⟨fun pins st' σ H D I h => by
  obtain ⟨F0, H0, F, rho, s, R, q⟩ := h
  refine (pss_cons h1 h2).run pins st' σ H D I ⟨F0, H0, F, rho, s, R, ?_⟩
  have q1 : After X.prog X.w F0 H0 F (nxB (f s) g) D := q
  cases e : f s with
  | bad => rw [e] at q1; exact q1.elim
  | nx s1 =>
    rw [e] at q1
    exact fun F' rho' σ' H' R' ef => ⟨F0, H0, F', rho', s1, R', q1.mono ef⟩
  | rt d s1 =>
    rw [e] at q1
    exact q1⟩
theorem xs_if {t : Expr} {as bs : List Stmt} {tt : Tx} {f g : Sx} (ht : XT X t tt) (hf : XB X as f) (hg : XB X bs g) : XS X (.If t as bs pos) (sIf tt f g) := ps_by fun D σ H h => by
  obtain ⟨F0, H0, F, rho, s, R, q⟩ := h
  have q1 : After X.prog X.w F0 H0 F (oR (tt s) fun c => bR c (f s) (g s)) D := q
  cases e : tt s with
  | none => rw [e] at q1; exact q1.elim
  | some c =>
    rw [e] at q1
    refine ⟨_, ps_if ht hf hg, F0, H0, F, rho, s, c, R, e, fun F' H' st => ?_⟩
    cases c with
    | true => exact iteT ⟨F0, H0, F', rho, s, R.step st, After.mono st.f q1⟩
    | false => exact iteF ⟨F0, H0, F', rho, s, R.step st, After.mono st.f q1⟩
theorem xs_ret (ha : XE X a ea) : XS X (.Return (some a) pos) (sRet ea) := ps_by fun D σ H h => by
  obtain ⟨F0, H0, F, rho, s, R, q⟩ := h
  have q1 : After X.prog X.w F0 H0 F (oR (ea s) fun d => .rt d s) D := q
  cases e : ea s with
  | none => rw [e] at q1; exact q1.elim
  | some d =>
    rw [e] at q1
    exact ⟨_, ps_ret ha, tE1 R e fun F' H' v st iv => q1 F' rho σ H' v (R.step st) st.f iv⟩
theorem xs_for {iter : Expr} {body : List Stmt} {it : Lx} {g : TG} {tgf : Tg} {f : Sx} (hi : XF X tg iter it) (hg : PG X tg g) (gk : GFor X.prog X.w g tgf) (hb : XB X body f)
    (mk : ∀ {wi : TI} {tb : TS}, PI X tg iter wi → PSs X body tb → PS X (.For tg iter body [] pos) (tFor wi g tb)) : XS X (.For tg iter body [] pos) (sFor tgf it f) := ps_by fun D σ H h => by
  obtain ⟨F0, H0, F, rho, s, R, q⟩ := h
  have q1 : After X.prog X.w F0 H0 F (oR (it s) fun xs => forGo tgf f xs s) D := q
  cases e : it s with
  | none => rw [e] at q1; exact q1.elim
  | some xs =>
    rw [e] at q1
    refine ⟨_, mk hi hb, F0, H0, F, rho, s, xs, R, e, fun J F1 H1 st1 wk => ?_⟩
    refine ⟨fun i m σ' H' => m = xs.length - i ∧ i ≤ xs.length ∧ ∃ F' rho' s', Rel X.prog X.w F0 H0 F' rho' s' σ' H' ∧ Same F1 F' ∧ After X.prog X.w F0 H0 F' (forGo tgf f (xs.drop i) s') D,
      ⟨xs.length, rfl, Nat.zero_le _, F1, rho, s, R.step st1, Same.refl _, After.mono st1.f q1⟩, fun i m σ' H' hW => ?_⟩
    obtain ⟨hm, hi', F', rho', s', R', ef, qa⟩ := hW
    have wk' := wk F' H' ef R'.sub
    by_cases hlt : i < xs.length
    · refine .inr ?_
      have hx : xs[i]? = some xs[i] := List.getElem?_eq_getElem hlt
      obtain ⟨go, yl⟩ := wk'.1 i _ hx
      refine ⟨go, fun σ2 H2 => ∃ F2 rho2 s2, Rel X.prog X.w F0 H0 F2 rho2 s2 σ2 H2 ∧ Same F1 F2 ∧ After X.prog X.w F0 H0 F2 (forGo tgf f (xs.drop (i + 1)) s2) D, fun σ2 H2 hN => ⟨m - 1, by omega, by omega, hlt, hN⟩, fun v H3 hy => ?_⟩
      obtain ⟨F3, st3, iv⟩ := yl v H3 hy
      rw [drop_at hlt] at qa
      have qb : After X.prog X.w F0 H0 F' (oR (tgf s' xs[i]) fun s1 => nxB (f s1) fun s2 => forGo tgf f (xs.drop (i + 1)) s2) D := qa
      cases e1 : tgf s' xs[i] with
      | none => rw [e1] at qb; exact qb.elim
      | some s1 =>
        rw [e1] at qb
        have qc : After X.prog X.w F0 H0 F' (nxB (f s1) fun s2 => forGo tgf f (xs.drop (i + 1)) s2) D := qb
        refine gk F0 H0 F3 rho' s' σ' H3 _ v s1 _ (R'.step st3) (IsV.of iv) e1 fun σ2 R2 => ⟨F0, H0, F3, rho', s1, R2, ?_⟩
        cases e2 : f s1 with
        | bad => rw [e2] at qc; exact qc.elim
        | nx s2 =>
          rw [e2] at qc
          exact fun F4 rho4 σ4 H4 R4 e4 => ⟨F4, rho4, s2, R4, (ef.trans st3.f).trans e4, After.mono (st3.f.trans e4) qc⟩
        | rt d s2 =>
          rw [e2] at qc
          exact fun F4 rho4 σ4 H4 v4 R4 e4 i4 => qc F4 rho4 σ4 H4 v4 R4 (st3.f.trans e4) i4
    · have hie : i = xs.length := by omega
      subst hie
      rw [List.drop_length] at qa
      exact .inl ⟨wk'.2 _ (Nat.le_refl _), qa F' rho' σ' H' R' (Same.refl _)⟩
theorem xs_while {t : Expr} {body : List Stmt} {tt : Tx} {f : Sx} {k : Nat} (hp : PassesOwn (model X.prog X.w) X.A X.env X.xe) (ht : XT X t tt) (hb : XB X body f) : XS X (.While t body [] pos) (sWhile k tt f) := ps_by fun D σ H h => by
  obtain ⟨F0, H0, F, rho, s, R, q⟩ := h
  refine ⟨_, ps_while hp ht hb, fun m σ' H' => ∃ F' rho' s', Rel X.prog X.w F0 H0 F' rho' s' σ' H' ∧ Same F F' ∧ After X.prog X.w F0 H0 F' (whGo tt f m s') D, ⟨k, F, rho, s, R, Same.refl _, q⟩, fun m σ' H' hW => ?_⟩
  obtain ⟨F', rho', s', R', ef, qa⟩ := hW
  cases m with
  | zero => exact qa.elim
  | succ m =>
    have qb : After X.prog X.w F0 H0 F' (oR (tt s') fun c => bR c (nxB (f s') fun s2 => whGo tt f m s2) (.nx s')) D := qa
    cases e : tt s' with
    | none => rw [e] at qb; exact qb.elim
    | some c =>
      rw [e] at qb
      refine ⟨F0, H0, F', rho', s', c, R', e, fun F2 H2 st => ?_⟩
      cases c with
      | false => exact iteF (qb F2 rho' σ' H2 (R'.step st) st.f)
      | true =>
        refine iteT ⟨fun σ3 H3 => ∃ F3 rho3 s3, Rel X.prog X.w F0 H0 F3 rho3 s3 σ3 H3 ∧ Same F F3 ∧ After X.prog X.w F0 H0 F3 (whGo tt f m s3) D, fun σ3 H3 hN => ⟨m, Nat.lt_succ_self _, hN⟩, F0, H0, F2, rho', s', R'.step st, ?_⟩
        have qc : After X.prog X.w F0 H0 F' (nxB (f s') fun s2 => whGo tt f m s2) D := qb
        cases e2 : f s' with
        | bad => rw [e2] at qc; exact qc.elim
        | nx s2 =>
          rw [e2] at qc
          exact fun F4 rho4 σ4 H4 R4 e4 => ⟨F4, rho4, s2, R4, (ef.trans st.f).trans e4, After.mono (st.f.trans e4) qc⟩
        | rt d s2 =>
          rw [e2] at qc
          exact fun F4 rho4 σ4 H4 v4 R4 e4 i4 => qc F4 rho4 σ4 H4 v4 R4 (st.f.trans e4) i4

/-! ### stores at names -/
theorem asg_reads {P : Program} {w : World} {i : Nat} {f : Ax} {D : Ends} {σ : L2.St} {H : Hp} (h : tS P w (sSetA i f) D σ H) : tAsg (tA P w f) (gName i) D σ H := by
  obtain ⟨F0, H0, F, rho, s, R, q⟩ := h
  have q1 : After P w F0 H0 F (oR (f s) fun p => .nx (p.2.put i p.1)) D := q
  cases e : f s with
  | none => rw [e] at q1; exact q1.elim
  | some p =>
    obtain ⟨d, s'⟩ := p
    rw [e] at q1
    exact ⟨F0, H0, F, rho, s, d, s', R, e, fun F' rho' H' v R' ef ag le iv => q1 F' rho' _ H' (R'.put iv) ef⟩
theorem set_reads {P : Program} {w : World} {i : Nat} {f : Ex} {D : Ends} {σ : L2.St} {H : Hp} (h : tS P w (sSet i f) D σ H) : tAsg (tE P w f) (gName i) D σ H := by
  obtain ⟨F0, H0, F, rho, s, R, q⟩ := h
  have q1 : After P w F0 H0 F (oR (f s) fun d => .nx (s.put i d)) D := q
  cases e : f s with
  | none => rw [e] at q1; exact q1.elim
  | some d =>
    rw [e] at q1
    exact tE1 R e fun F' H' v st iv => q1 F' rho _ H' ((R.step st).put iv) st.f
theorem frz_reads {P : Program} {w : World} {l : Lx} {σ : L2.St} {H : Hp} {Q : VK} (h : tE P w (eFrz l) σ H Q) : tL P w l σ H Q := by
  obtain ⟨F0, H0, F, rho, s, d, R, he, q⟩ := h
  obtain ⟨ds, h1, h2⟩ := oB_some he
  cases h2
  refine ⟨F0, H0, F, rho, s, ds, R, h1, fun F' H' pa vs st np nf hp ia => ?_⟩
  refine q (L2.upd F' pa (.lst vs)) H' _ ⟨st.f.trans (same_new nf), fun b o e1 => ?_, st.h, fun b o e1 => ?_⟩ (IsV.of (.lst L2.upd_same (ia.mono (same_new nf))))
  · by_cases hb : b = pa
    · subst hb; rw [L2.upd_same] at e1; rw [hp]; exact e1
    · rw [L2.upd_ne hb] at e1; exact st.s b o e1
  · by_cases hb : b = pa
    · subst hb; exact .inr np
    · rw [L2.upd_ne hb] at e1; exact st.n b o e1
/-- name = value -/
theorem xs_set {x : Str} {p' : Pos} (i : Nat) (mk : ∀ {te : TE}, PE X a te → PS X (.Assign [.Name x p'] a pos) (tAsg te (gName i))) (ha : XE X a ea) : XS X (.Assign [.Name x p'] a pos) (sSet i ea) := ps_by fun D σ H h => ⟨_, mk ha, set_reads h⟩
theorem xs_setA {x : Str} {p' : Pos} {f : Ax} (i : Nat) (mk : ∀ {te : TE}, PE X a te → PS X (.Assign [.Name x p'] a pos) (tAsg te (gName i))) (ha : XA X a f) : XS X (.Assign [.Name x p'] a pos) (sSetA i f) := ps_by fun D σ H h => ⟨_, mk ha, asg_reads h⟩
/-- x = y, y a list of the state that is kept as it is from here on -/
theorem xs_move {x : Str} {p' : Pos} (i : Nat) (mk : ∀ {te : TE}, PE X a te → PS X (.Assign [.Name x p'] a pos) (tAsg te (gName i))) (ha : XE X a ea) : XS X (.Assign [.Name x p'] a pos) (sMove i ea) := ps_by fun D σ H h => by
  obtain ⟨F0, H0, F, rho, s, R, q⟩ := h
  have q1 : After X.prog X.w F0 H0 F (oR (oB (ea s) fun d => gR d fun n => lstO s n fun xs => ck (clAll xs) (some (n, xs))) fun p => .nx ((s.del p.1).put i (.lst p.2))) D := q
  cases e : (oB (ea s) fun d => gR d fun n => lstO s n fun xs => ck (clAll xs) (some (n, xs))) with
  | none => rw [e] at q1; exact q1.elim
  | some pr =>
    rw [e] at q1
    obtain ⟨d, h1, h2⟩ := oB_some e
    obtain ⟨n, rfl, h3⟩ := gR_some h2
    obtain ⟨xs, h4, h5⟩ := lst_of h3
    obtain ⟨h6, h7⟩ := ck_some h5
    cases h7
    refine ⟨_, mk ha, tE1 R h1 fun F' H' v st iv => ?_⟩
    obtain ⟨vs, g1, g2, g3, g4⟩ := (R.step st).move h4 h6
    show D.nx (σ.set i (some v)) H'
    refine q1 _ rho _ H' (g3.put (i := i) (d := .lst xs) (v := v) ?_) (st.f.trans g2)
    rw [iv.2]
    exact IsV.of g4
end
end Kx

/-! KxT: stores of several names, changes of lists, rows of lists, a def by its body. -/
namespace Kx
open PySem L2 PyProof.Rows
section
variable {P : Program} {w : World} {F0 H0 F F' : Hp} {rho : Nat → Addr} {s : S} {σ : L2.St} {H H' : Hp}
theorem Rel.grow (R : Rel P w F0 H0 F rho s σ H) {p : Addr} {o : HO} (np : H p = none) : Rel P w F0 H0 F rho s σ (L2.upd H p o) := R.step (Step.own R.sub np)
theorem putAll_cons {i : Nat} {is : List Nat} {ds : List D} {s s2 : S} (h : putAll (i :: is) ds s = some s2) : ∃ d r, ds = d :: r ∧ putAll is r (s.put i d) = some s2 := by
  cases ds with
  | nil => cases h
  | cons d r => exact ⟨d, r, rfl, h⟩
theorem putAll_nil {ds : List D} {s s2 : S} (h : putAll [] ds s = some s2) : ds = [] ∧ s = s2 := by
  obtain ⟨h1, h2⟩ := ck_some (show ck (isE ds) (some s) = some s2 from h)
  cases h2
  cases ds with
  | nil => exact ⟨rfl, rfl⟩
  | cons d r => cases h1
theorem putAll2 {i j : Nat} {ds : List D} {s s2 : S} (h : putAll [i, j] ds s = some s2) : ∃ d1 d2, ds = [d1, d2] ∧ s2 = (s.put i d1).put j d2 := by
  obtain ⟨d1, r1, e1, h1⟩ := putAll_cons h
  obtain ⟨d2, r2, e2, h2⟩ := putAll_cons h1
  obtain ⟨e3, e4⟩ := putAll_nil h2
  exact ⟨d1, d2, by rw [e1, e2, e3], e4.symm⟩
theorem putAll3 {i j k : Nat} {ds : List D} {s s2 : S} (h : putAll [i, j, k] ds s = some s2) : ∃ d1 d2 d3, ds = [d1, d2, d3] ∧ s2 = ((s.put i d1).put j d2).put k d3 := by
  obtain ⟨d1, r1, e1, h1⟩ := putAll_cons h
  obtain ⟨d2, r2, e2, h2⟩ := putAll_cons h1
  obtain ⟨d3, r3, e3, h3⟩ := putAll_cons h2
  obtain ⟨e4, e5⟩ := putAll_nil h3
  exact ⟨d1, d2, d3, by rw [e1, e2, e3, e4], e5.symm⟩
theorem isVs2 {nx : Nat} {x y : D} {vs : List V} (h : IsVs F rho nx [x, y] vs) : ∃ v u, vs = [v, u] ∧ IsV F rho nx x v ∧ IsV F rho nx y u := by
  cases h with
  | cons h1 h2 =>
    cases h2 with
    | cons h3 h4 =>
      cases h4
      exact ⟨_, _, rfl, h1, h3⟩
theorem isVs3 {nx : Nat} {x y z : D} {vs : List V} (h : IsVs F rho nx [x, y, z] vs) : ∃ v u t, vs = [v, u, t] ∧ IsV F rho nx x v ∧ IsV F rho nx y u ∧ IsV F rho nx z t := by
  cases h with
  | cons h1 h2 =>
    obtain ⟨u, t, rfl, h3, h4⟩ := isVs2 h2
    exact ⟨_, u, t, rfl, h1, h3, h4⟩
theorem par_run {is : List Nat} {as : List Ax} {D : Ends} (h : After P w F0 H0 F (sPar is as s) D) : ∃ ds s1 s2, aArgs as s = some (ds, s1) ∧ putAll is ds s1 = some s2 ∧ After P w F0 H0 F (.nx s2) D := by
  have q : After P w F0 H0 F (oR (aArgs as s) fun p => oR (putAll is p.1 p.2) .nx) D := h
  cases e : aArgs as s with
  | none => rw [e] at q; exact q.elim
  | some p =>
    rw [e] at q
    have q2 : After P w F0 H0 F (oR (putAll is p.1 p.2) .nx) D := q
    cases e2 : putAll is p.1 p.2 with
    | none => rw [e2] at q2; exact q2.elim
    | some s2 => rw [e2] at q2; exact ⟨p.1, p.2, s2, rfl, e2, q2⟩
end
section
variable {X : Cx} {a b c e tg : Expr} {ea eb ec : Ex} {pos p p2 : Pos}
theorem xas_nil : XAs X [] [] := ⟨fun ps pins st σ H Q I h => by
  obtain ⟨F0, H0, F, rho, s, ds, s', R, he, q⟩ := h
  cases he
  exact pa_nil.run ps pins st σ H Q I (q F rho H [] R (Same.refl _) (Agr.refl _ _) (Nat.le_refl _) .nil)⟩
theorem xas_cons {f : Ax} {es : List Expr} {fs : List Ax} (ha : XA X a f) (hr : XAs X es fs) (hs : starEach (a :: es) X.env = (false, eval a X.env) :: starEach es X.env := by rfl) : XAs X (a :: es) (f :: fs) := ⟨fun ps pins st σ H Q I h => by
  obtain ⟨F0, H0, F, rho, s, ds, s', R, he, q⟩ := h
  obtain ⟨p1, h1, h2⟩ := oB_some (show (oB (f s) fun p => oB (aArgs fs p.2) fun q => some (p.1 :: q.1, q.2)) = some (ds, s') from he)
  obtain ⟨p2, h3, h4⟩ := oB_some h2
  obtain ⟨d, s1⟩ := p1
  obtain ⟨ds2, s2⟩ := p2
  cases h4
  refine (pa_cons ha hr hs).run ps pins st σ H Q I ⟨F0, H0, F, rho, s, d, s1, R, h1, fun F' rho' H' v R' ef ag le iv => ⟨F0, H0, F', rho', s1, ds2, s2, R', h3, fun F2 rho2 H2 vs R2 ef2 ag2 le2 ivs => ?_⟩⟩
  exact q F2 rho2 H2 (v :: vs) R2 (ef.trans ef2) (ag.trans ag2 le) (Nat.le_trans le le2) (.cons (iv.mono ef2 ag2 le2) ivs)⟩
/-- a, b = x, y, both plain names -/
theorem xs_par2 {i j : Nat} {as : List Ax} {st : Stmt} (mk : ∀ {ta : TA}, PA X [a, b] ta → PS X st (tPar i j ta)) (ha : XAs X [a, b] as) : XS X st (sPar [i, j] as) := ps_by fun D σ H h => by
  obtain ⟨F0, H0, F, rho, s, R, q⟩ := h
  obtain ⟨ds, s1, s2, h1, h2, h3⟩ := par_run q
  refine ⟨_, mk ha, F0, H0, F, rho, s, ds, s1, R, h1, fun F' rho' H' vs R' ef ag le ivs => ?_⟩
  obtain ⟨d1, d2, rfl, rfl⟩ := putAll2 h2
  obtain ⟨v, u, rfl, i1, i2⟩ := isVs2 ivs
  exact ⟨v, u, rfl, h3 F' rho' _ H' ((R'.put i1).put i2) ef⟩
theorem xs_par3 {i j k : Nat} {as : List Ax} {st : Stmt} (mk : ∀ {ta : TA}, PA X [a, b, c] ta → PS X st (tPar3 i j k ta)) (ha : XAs X [a, b, c] as) : XS X st (sPar [i, j, k] as) := ps_by fun D σ H h => by
  obtain ⟨F0, H0, F, rho, s, R, q⟩ := h
  obtain ⟨ds, s1, s2, h1, h2, h3⟩ := par_run q
  refine ⟨_, mk ha, F0, H0, F, rho, s, ds, s1, R, h1, fun F' rho' H' vs R' ef ag le ivs => ?_⟩
  obtain ⟨d1, d2, d3, rfl, rfl⟩ := putAll3 h2
  obtain ⟨v, u, t, rfl, i1, i2, i3⟩ := isVs3 ivs
  exact ⟨v, u, t, rfl, h3 F' rho' _ H' (((R'.put i1).put i2).put i3) ef⟩
/-- .. some of the names captured: the tuple is made -/
theorem xs_parT2 {i j : Nat} {as : List Ax} {es : List Expr} {st : Stmt} (mk : ∀ {ta : TA}, PA X es ta → PS X st (tAsg (tTup ta) (gTup X.K 2 (gCons (gName i) (gCons (gName j) gNil))))) (ha : XAs X es as) : XS X st (sPar [i, j] as) := ps_by fun D σ H h => by
  obtain ⟨F0, H0, F, rho, s, R, q⟩ := h
  obtain ⟨ds, s1, s2, h1, h2, h3⟩ := par_run q
  refine ⟨_, mk ha, F0, H0, F, rho, s, ds, s1, R, h1, fun F' rho' H' vs R' ef ag le ivs => ?_⟩
  obtain ⟨d1, d2, rfl, rfl⟩ := putAll2 h2
  obtain ⟨v, u, rfl, i1, i2⟩ := isVs2 ivs
  refine ⟨by show 2 ≤ sizeLine; decide, fun pa np => ⟨pa, [v, u], rfl, SqT.of L2.upd_same, rfl, v, [u], rfl, u, [], rfl, rfl, ?_⟩⟩
  exact h3 F' rho' _ _ (((R'.grow np).put i1).put i2) ef
theorem xs_parT3 {i j k : Nat} {as : List Ax} {es : List Expr} {st : Stmt} (mk : ∀ {ta : TA}, PA X es ta → PS X st (tAsg (tTup ta) (gTup X.K 3 (gCons (gName i) (gCons (gName j) (gCons (gName k) gNil)))))) (ha : XAs X es as) : XS X st (sPar [i, j, k] as) := ps_by fun D σ H h => by
  obtain ⟨F0, H0, F, rho, s, R, q⟩ := h
  obtain ⟨ds, s1, s2, h1, h2, h3⟩ := par_run q
  refine ⟨_, mk ha, F0, H0, F, rho, s, ds, s1, R, h1, fun F' rho' H' vs R' ef ag le ivs => ?_⟩
  obtain ⟨d1, d2, d3, rfl, rfl⟩ := putAll3 h2
  obtain ⟨v, u, t, rfl, i1, i2, i3⟩ := isVs3 ivs
  refine ⟨by show 3 ≤ sizeLine; decide, fun pa np => ⟨pa, [v, u, t], rfl, SqT.of L2.upd_same, rfl, v, [u, t], rfl, u, [t], rfl, t, [], rfl, rfl, ?_⟩⟩
  exact h3 F' rho' _ _ ((((R'.grow np).put i1).put i2).put i3) ef
/-- a, b = t -/
theorem xs_unp {i j : Nat} {st : Stmt} (mk : ∀ {te : TE}, PE X a te → PS X st (tAsg te (gTup X.K 2 (gCons (gName i) (gCons (gName j) gNil))))) (ha : XE X a ea) : XS X st (sUnp [i, j] ea) := ps_by fun D σ H h => by
  obtain ⟨F0, H0, F, rho, s, R, q⟩ := h
  have q1 : After X.prog X.w F0 H0 F (oR (oB (ea s) fun d => gT d some) fun ds => oR (putAll [i, j] ds s) .nx) D := q
  cases e1 : (oB (ea s) fun d => gT d some) with
  | none => rw [e1] at q1; exact q1.elim
  | some ds =>
    rw [e1] at q1
    have q2 : After X.prog X.w F0 H0 F (oR (putAll [i, j] ds s) .nx) D := q1
    obtain ⟨d, h1, h2⟩ := oB_some e1
    obtain ⟨xs, rfl, h3⟩ := gT_some h2
    cases h3
    cases e2 : putAll [i, j] ds s with
    | none => rw [e2] at q2; exact q2.elim
    | some s2 =>
      rw [e2] at q2
      obtain ⟨d1, d2, rfl, rfl⟩ := putAll2 e2
      refine ⟨_, mk ha, tE1 R h1 fun F' H' v st iv => ?_⟩
      obtain ⟨l, vs, rfl, g1, g2⟩ := Is.tup_eq iv
      obtain ⟨v1, v2, rfl, i1, i2⟩ := isAll2 g2
      exact ⟨l, [v1, v2], rfl, (g1.mono st.s).sq, rfl, v1, [v2], rfl, v2, [], rfl, rfl, q2 F' rho _ H' (((R.step st).put (IsV.of i1)).put (IsV.of i2)) st.f⟩

/-! ### lists that change -/
theorem IsVs.snoc {F : Hp} {rho : Nat → Addr} {nx : Nat} {d : D} {v : V} (iv : IsV F rho nx d v) : ∀ {ds : List D} {vs : List V}, IsVs F rho nx ds vs → IsVs F rho nx (ds ++ [d]) (vs ++ [v])
  | _, _, .nil => .cons iv .nil
  | _, _, .cons h t => .cons h (IsVs.snoc iv t)
theorem IsVs.app {F : Hp} {rho : Nat → Addr} {nx : Nat} {es : List D} {us : List V} (iu : IsVs F rho nx es us) : ∀ {ds : List D} {vs : List V}, IsVs F rho nx ds vs → IsVs F rho nx (ds ++ es) (vs ++ us)
  | _, _, .nil => iu
  | _, _, .cons h t => .cons h (IsVs.app iu t)
theorem IsVs.set {F : Hp} {rho : Nat → Addr} {nx : Nat} {d : D} {v : V} (iv : IsV F rho nx d v) : ∀ {ds : List D} {vs : List V} (n : Nat), IsVs F rho nx ds vs → IsVs F rho nx (ds.set n d) (vs.set n v)
  | _, _, _, .nil => .nil
  | _, _, 0, .cons _ t => .cons iv t
  | _, _, n + 1, .cons h t => .cons h (IsVs.set iv n t)
theorem oR_run {P : Program} {w : World} {F0 H0 F : Hp} {α : Type} {o : Option α} {f : α → R} {D : Ends} (h : After P w F0 H0 F (oR o f) D) : ∃ x, o = some x ∧ After P w F0 H0 F (f x) D := by
  cases o with
  | none => exact h.elim
  | some x => exact ⟨x, rfl, h⟩
/-- the n-th object, a list, as it lies -/
theorem Rel.lst {P : Program} {w : World} {F0 H0 F : Hp} {rho : Nat → Addr} {s : S} {σ : L2.St} {H : Hp} (R : Rel P w F0 H0 F rho s σ H) {n : Nat} {xs : List D} (h : getO s.h n = some (.lst xs)) : ∃ vs, H (rho n) = some (.lst vs) ∧ IsVs F rho s.nx xs vs := by
  obtain ⟨_, _, _, vs, h1, h2⟩ := R.ob n _ h
  exact ⟨vs, h1, h2⟩
theorem xs_app {st : Stmt} (mk : ∀ {to te : TE}, PE X a to → PE X b te → PS X st (tDrop (tBM X.K "list" rAppend to (tCons te tNil)))) (ha : XE X a ea) (hb : XE X b eb) : XS X st (sApp ea eb) := ps_by fun D σ H h => by
  obtain ⟨F0, H0, F, rho, s, R, q⟩ := h
  obtain ⟨s2, e, q2⟩ := oR_run q
  obtain ⟨x, hx, e⟩ := oB_some e
  obtain ⟨n, rfl, e⟩ := gR_some e
  obtain ⟨d, hd, e⟩ := oB_some e
  obtain ⟨xs, hn, e⟩ := lst_of e
  obtain ⟨z, e⟩ := ck_some e
  cases e
  have z2 := sz_short z
  refine ⟨_, mk ha hb, tE1 R hx fun F' H' v st iv => ?_⟩
  obtain ⟨vs, g1, _⟩ := (R.step st).lst hn
  refine ⟨by rw [iv.2]; exact .inl ⟨rfl, vs, SqL.of g1⟩, tE1 (R.step st) hd fun F2 H2 u st2 iu => ?_⟩
  obtain ⟨ws, k1, k2⟩ := ((R.step st).step st2).lst hn
  have hl := Paired.length k2
  refine ⟨rho n, ws, u, iv.2, rfl, k1, line_gt (by omega), ?_⟩
  refine q2 F2 rho σ _ (((R.step st).step st2).sto hn ⟨ws ++ [u], L2.upd_same, ?_⟩) (st.f.trans st2.f)
  rw [app_eq]
  exact IsVs.snoc iu k2
theorem sto_reads {P : Program} {w : World} {F0 H0 F : Hp} {rho : Nat → Addr} {s s1 : S} {σ : L2.St} {H : Hp} {d : D} {v : V} {Q : L2.St → Hp → Prop} (R : Rel P w F0 H0 F rho s σ H) (iv : IsV F rho s.nx d v) (h : sto1 ea eb d s = some s1)
    (q : ∀ F' H', Rel P w F0 H0 F' rho s1 σ H' → Same F F' → s1.nx = s.nx → Q σ H') : gSub (tE P w ea) (tE P w eb) rSetL v σ H Q := by
  obtain ⟨x, hx, e⟩ := oB_some h
  obtain ⟨n, rfl, e⟩ := gR_some e
  obtain ⟨y, hy, e⟩ := oB_some e
  obtain ⟨k, rfl, e⟩ := gI_some e
  obtain ⟨xs, hn, e⟩ := lst_of e
  obtain ⟨ys, hs, e⟩ := oB_some e
  cases e
  refine tE1 R hx fun F2 H2 u st2 iu => tE1 (R.step st2) hy fun F3 H3 t st3 it => ?_
  have R3 := (R.step st2).step st3
  obtain ⟨ws, k1, k2⟩ := R3.lst hn
  have hl := Paired.length k2
  cases k with
  | negSucc j => cases hs
  | ofNat j =>
    obtain ⟨hj, hs⟩ := ck_some (show ck (Nat.blt j (len xs)) (some (stl xs j d)) = some ys from hs)
    cases hs
    have hj2 : j < xs.length := by rw [len_eq] at hj; simpa [Nat.blt_eq] using hj
    refine ⟨rho n, ws, (j : Int), j, iu.2, v_int it, k1, ?_, ?_⟩
    · unfold ixN
      rw [if_pos (by omega), if_pos (by omega)]
      rfl
    · refine q F3 _ (R3.sto hn ⟨ws.set j v, L2.upd_same, ?_⟩) (st2.f.trans st3.f) rfl
      rw [stl_eq]
      exact IsVs.set (iv.step (st2.f.trans st3.f)) j k2
theorem xs_setIx {st : Stmt} (mk : ∀ {to ti te : TE}, PE X a to → PE X b ti → PE X c te → PS X st (tAsg te (gSub to ti rSetL))) (ha : XE X a ea) (hb : XE X b eb) (hc : XE X c ec) : XS X st (sSetIx ea eb ec) := ps_by fun D σ H h => by
  obtain ⟨F0, H0, F, rho, s, R, q⟩ := h
  obtain ⟨s2, e, q2⟩ := oR_run q
  obtain ⟨d, hd, e⟩ := oB_some e
  exact ⟨_, mk ha hb hc, tE1 R hd fun F1 H1 v st1 iv => sto_reads (R.step st1) iv e fun F2 H2 R2 ef _ => q2 F2 rho σ H2 R2 (st1.f.trans ef)⟩
/-- o[i], o[j] = x, y -/
theorem xs_setIx2 {a2 i j : Expr} {ex ey ei ej : Ex} {es : List Expr} {st : Stmt} (mk : ∀ {to ti tj : TE} {ta : TA}, PE X a to → PE X a2 to → PE X i ti → PE X j tj → PA X es ta → PS X st (tAsg (tTup ta) (gTup X.K 2 (gCons (gSub to ti rSetL) (gCons (gSub to tj rSetL) gNil)))))
    (ha : XE X a ea) (ha2 : XE X a2 ea) (hi : XE X i ei) (hj : XE X j ej) (hes : XX X es [ex, ey]) : XS X st (sSetIx2 ea ei ej ex ey) := ps_by fun D σ H h => by
  obtain ⟨F0, H0, F, rho, s, R, q⟩ := h
  obtain ⟨s2, e, q2⟩ := oR_run q
  obtain ⟨d1, hd1, e⟩ := oB_some e
  obtain ⟨d2, hd2, e⟩ := oB_some e
  obtain ⟨s1, e1, e2⟩ := oB_some e
  have hes2 : eArgs [ex, ey] s = some [d1, d2] := by
    show (oB (ex s) fun x => oB (oB (ey s) fun x => oB (some []) fun xs => some (x :: xs)) fun xs => some (x :: xs)) = _
    rw [hd1, hd2]
    rfl
  refine ⟨_, mk ha ha2 hi hj hes, F0, H0, F, rho, s, [d1, d2], R, hes2, fun F1 H1 vs st1 ivs => ⟨by rw [← Paired.length ivs]; show 2 ≤ sizeLine; decide, fun pa np => ?_⟩⟩
  obtain ⟨v1, v2, rfl, i1, i2⟩ := isVs2 ivs
  have R1 := (R.step st1).grow (o := .tup [v1, v2]) np
  refine ⟨pa, [v1, v2], rfl, SqT.of L2.upd_same, rfl, v1, [v2], rfl, ?_⟩
  refine sto_reads R1 i1 e1 fun F2 H2 R2 ef en => ⟨v2, [], rfl, ?_⟩
  refine sto_reads R2 (by rw [en]; exact i2.step ef) e2 fun F3 H3 R3 ef3 _ => ⟨rfl, ?_⟩
  exact q2 F3 rho σ H3 R3 ((st1.f.trans ef).trans ef3)

/-! ### rows of lists -/
section
variable {P : Program} {w : World} {F0 H0 F F' : Hp} {rho : Nat → Addr} {s : S} {σ : L2.St} {H H' : Hp}
/-- an object that is nobody's changes -/
theorem Rel.side (R : Rel P w F0 H0 F rho s σ H) {p : Addr} {o : HO} (h1 : F p = none) (h2 : H0 p = none) (far : ∀ n o, getO s.h n = some o → rho n ≠ p) : Rel P w F0 H0 F rho s σ (L2.upd H p o) where
  sub := fun b u e => by
    rw [L2.upd_ne (fun q => by subst q; rw [h1] at e; cases e)]
    exact R.sub b u e
  sub0 := R.sub0
  old := fun b u e => by
    rw [L2.upd_ne (fun q => by subst q; rw [h2] at e; cases e)]
    exact R.old b u e
  fre := R.fre
  sl := R.sl
  ln := R.ln
  ob := fun n o' e => by
    obtain ⟨g1, g2, g3, g4⟩ := R.ob n o' e
    refine ⟨g1, g2, g3, g4.mono (Same.refl _) (fun u hu => ?_) (Agr.refl _ _) (Nat.le_refl _)⟩
    rw [L2.upd_ne (far n o' e)]
    exact hu
  inj := R.inj
/-- .. becomes an object of the state -/
theorem Rel.adopt (R : Rel P w F0 H0 F rho s σ H) {p : Addr} {o : O} (h1 : F p = none) (h2 : H0 p = none) (far : ∀ n o, getO s.h n = some o → rho n ≠ p) (io : IsO P w F (rhoP rho s.nx p) (Nat.succ s.nx) H o p) :
    Rel P w F0 H0 F (rhoP rho s.nx p) (s.new o) σ H where
  sub := R.sub
  sub0 := R.sub0
  old := R.old
  fre := R.fre
  sl := fun i d e => by
    obtain ⟨v, g1, g2⟩ := R.sl i d e
    exact ⟨v, g1, g2.mono (Same.refl _) (rhoP_agr _ _ _) (Nat.le_succ _)⟩
  ln := R.ln
  ob := fun n o' e => by
    rw [getO_new] at e
    by_cases z : s.nx = n
    · rw [if_pos z] at e
      cases e
      subst z
      rw [rhoP_self]
      exact ⟨Nat.lt_succ_self _, h2, h1, io⟩
    · rw [if_neg z] at e
      obtain ⟨g1, g2, g3, g4⟩ := R.ob n o' e
      rw [rhoP_agr _ _ _ n g1]
      exact ⟨Nat.lt_succ_of_lt g1, g2, g3, g4.mono (Same.refl _) (fun _ q => q) (rhoP_agr _ _ _) (Nat.le_succ _)⟩
  inj := fun n m o1 o2 e1 e2 he2 => by
    rw [getO_new] at e1 e2
    by_cases q1 : s.nx = n
    · by_cases q2 : s.nx = m
      · exact q1.symm.trans q2
      · rw [if_neg q2] at e2
        obtain ⟨g1, _⟩ := R.ob m o2 e2
        subst q1
        rw [rhoP_self, rhoP_agr _ _ _ m g1] at he2
        exact (far m o2 e2 he2.symm).elim
    · rw [if_neg q1] at e1
      obtain ⟨g1, _⟩ := R.ob n o1 e1
      by_cases q2 : s.nx = m
      · subst q2
        rw [rhoP_self, rhoP_agr _ _ _ n g1] at he2
        exact (far n o1 e1 he2).elim
      · rw [if_neg q2] at e2
        obtain ⟨g2, _⟩ := R.ob m o2 e2
        rw [rhoP_agr _ _ _ n g1, rhoP_agr _ _ _ m g2] at he2
        exact R.inj n m o1 o2 e1 e2 he2
end
theorem yes_ite {σ : L2.St} {H : Hp} {A B : Hp → Prop} (h : A H) : L2.tYes σ H fun b H3 => if b = true then A H3 else B H3 := by
  show if true = true then A H else B H
  rw [if_pos rfl]
  exact h
theorem rg_some {n i : Nat} (lo : Int) (h : i < n) : ∃ x, (rg n lo)[i]? = some x := ⟨_, List.getElem?_eq_getElem (by rw [rg_len]; exact h)⟩
theorem rows_run {P : Program} {w : World} {j : Nat} {σ : L2.St} {H : Hp} {Q : VK} {eb : Ex} (h : tA P w (aRows eb) σ H Q) :
    tLc (tIF P w (iRange1 eb)) (gName j) L2.tYes (tLst tNil) [j] σ H Q := by
  obtain ⟨F0, H0, F, rho, s, d, s', R, he, q⟩ := h
  obtain ⟨x, hx, e⟩ := oB_some he
  obtain ⟨k, rfl, e⟩ := gI_some e
  obtain ⟨hz, e⟩ := ck_some e
  obtain ⟨hk, e⟩ := ck_some e
  have z : toN k ≤ 20000 := Nat.le_of_ble_eq_true hz
  have hr : iRange1 eb s = some (rg (toN k) 0) := by
    show (oB (eb s) fun x => gI x fun n => ck (okI n) (some (rg (toN n) 0))) = _
    rw [hx]
    show ck (okI k) (some (rg (toN k) 0)) = _
    rw [hk]
    rfl
  refine ⟨F0, H0, F, rho, s, _, R, hr, fun J F1 H1 st1 wk Dl nD => ?_⟩
  have R1 := R.step st1
  have hD0 := R1.old.free nD
  refine ⟨fun i m H' => m = toN k - i ∧ i ≤ toN k ∧ ∃ F' rho' s1 acc vs, Rel P w F0 H0 F' rho' s1 σ H' ∧ Same F1 F' ∧ Agr rho rho' s.nx ∧ s.nx ≤ s1.nx ∧ (∀ n o, getO s1.h n = some o → rho' n ≠ Dl) ∧ F' Dl = none ∧ H' Dl = some (.lst vs) ∧ IsVs F' rho' s1.nx acc vs ∧ rowsGo (toN k - i) s1 acc = some (d, s') ∧ vs.length ≤ i,
    ⟨toN k, rfl, Nat.zero_le _, F1, rho, s, [], [], R1.grow nD, Same.refl _, Agr.refl _ _, Nat.le_refl _, fun n o e z => ?_, st1.s.free nD, L2.upd_same, .nil, e, Nat.le_refl _⟩, fun i m H' hW => ?_⟩
  · obtain ⟨_, _, _, h4⟩ := R1.ob n o e
    rw [z] at h4
    exact h4.there nD
  · obtain ⟨hm, hi, F', rho', s1, acc, vs, R', ef, ag, le, far, fD, hD, iv, hgo, hl⟩ := hW
    have wk' := wk F' H' ef R'.sub
    by_cases hlt : i < toN k
    · refine .inr ?_
      obtain ⟨x0, hx2⟩ := rg_some 0 hlt
      obtain ⟨go, yl⟩ := wk'.1 i _ hx2
      refine ⟨go, fun H2 => (∃ F' rho' s1 acc vs, Rel P w F0 H0 F' rho' s1 σ H2 ∧ Same F1 F' ∧ Agr rho rho' s.nx ∧ s.nx ≤ s1.nx ∧ (∀ n o, getO s1.h n = some o → rho' n ≠ Dl) ∧ F' Dl = none ∧ H2 Dl = some (.lst vs) ∧ IsVs F' rho' s1.nx acc vs ∧ rowsGo (toN k - (i + 1)) s1 acc = some (d, s') ∧ vs.length ≤ i + 1),
        fun H2 hN => ⟨m - 1, by omega, by omega, hlt, hN⟩, fun v H3 hy => ?_⟩
      obtain ⟨F3, st3, _⟩ := yl v H3 hy
      have R3 := R'.step st3
      have hD3 := st3.h _ _ hD
      have fD3 := st3.keep fD hD
      refine ⟨?_, ?_⟩
      · show (((wipe σ [j]).set j (some v)).set j none) = σ.set j none
        rw [wipe1, List.set_set]
      · refine yes_ite ⟨Nat.zero_le _, fun pa np => ?_⟩
        have hne : Dl ≠ pa := ne_of_none hD3 np
        have R4 := R3.new (o := .lst []) (ho := .lst []) np ⟨[], L2.upd_same, .nil⟩
        have far4 : ∀ n o, getO (s1.new (.lst [])).h n = some o → rhoP rho' s1.nx pa n ≠ Dl := fun n o e => by
          rw [getO_new] at e
          by_cases zz : s1.nx = n
          · subst zz; rw [rhoP_self]; exact hne.symm
          · rw [if_neg zz] at e
            obtain ⟨g1, _⟩ := R3.ob n o e
            rw [rhoP_agr _ _ _ n g1]
            exact far n o e
        refine ⟨vs, by rw [L2.upd_ne hne]; exact hD3, line_gt (by omega), F3, _, _, acc ++ [.ref s1.nx], vs ++ [.ref pa], R4.side fD3 hD0 far4, ef.trans st3.f, ag.trans (rhoP_agr _ _ _) le, Nat.le_succ_of_le le, far4, fD3, L2.upd_same, ?_, ?_, ?_⟩
        · have ir : IsV F3 (rhoP rho' s1.nx pa) (Nat.succ s1.nx) (.ref s1.nx) (.ref pa) := ⟨Nat.lt_succ_self _, by rw [rhoP_self]⟩
          exact IsVs.snoc ir (iv.mono st3.f (rhoP_agr _ _ _) (Nat.le_succ _))
        · have en : toN k - i = Nat.succ (toN k - (i + 1)) := by omega
          rw [en] at hgo
          have hgo2 : rowsGo (toN k - (i + 1)) (s1.new (.lst [])) (app acc [.ref s1.nx]) = some (d, s') := hgo
          rw [app_eq] at hgo2
          exact hgo2
        · rw [List.length_append]
          show vs.length + 1 ≤ i + 1
          omega
    · have hie : i = toN k := by omega
      subst hie
      rw [Nat.sub_self] at hgo
      cases hgo
      refine .inl ⟨wk'.2 _ (by rw [rg_len]; exact Nat.le_refl _), ?_⟩
      have R2 := R'.adopt (o := .lst acc) fD hD0 far ⟨vs, hD, iv.mono (Same.refl _) (rhoP_agr _ _ _) (Nat.le_succ _)⟩
      exact q F' _ H' _ R2 (st1.f.trans ef) (ag.trans (rhoP_agr _ _ _) le) (Nat.le_succ_of_le le) ⟨Nat.lt_succ_self _, by rw [rhoP_self]⟩
/-- x = [[] for y in range(n)] -/
theorem xs_rows {n : Nat} {j : Nat} {x : Str} {p' : Pos} {iter elt : Expr} {scope : Scope} (mk : ∀ {wi : TI}, PI X tg iter wi → PS X (.Assign [.Name x p'] (.ListComp elt [⟨tg, iter, [], 0⟩] scope p) pos) (tAsg (tLc wi (gName j) L2.tYes (tLst tNil) [j]) (gName n))) (hi : XF X tg iter (iRange1 ea)) :
    XS X (.Assign [.Name x p'] (.ListComp elt [⟨tg, iter, [], 0⟩] scope p) pos) (sSetA n (aRows ea)) := ps_by fun D σ H h => ⟨_, mk hi, rows_run (asg_reads h)⟩
/-- x = [e for .. ] on a row of its own, x a local -/
theorem xs_comp {n : Nat} {x : Str} {p' : Pos} {it : Lx} {g : TG} {tgf : Tg} {tt : Tx} {ee : Ex} {vs : List Nat} {v : Expr}
    (h : PS X (.Assign [.Name x p'] v pos) (tAsg (tLc (tI X.prog X.w it) g (tT X.prog X.w tt) (tE X.prog X.w ee) vs) (gName n))) (gk : GOk X.prog X.w g tgf vs) :
    XS X (.Assign [.Name x p'] v pos) (sSet n (eFrz (lComp tgf it tt ee))) := ps_by fun D σ H q => ⟨_, h, lc_reads gk (frz_reads (set_reads q))⟩
end

/-! ### a def by its body -/
theorem slots_len : ∀ (ds : List D) (n : Nat), ds.length ≤ n → (slots n ds).length = n
  | [], n, _ => by
    induction n with
    | zero => rfl
    | succ n ih => exact congrArg Nat.succ (ih (Nat.zero_le _))
  | d :: ds, 0, h => by simp at h
  | d :: ds, n + 1, h => congrArg Nat.succ (slots_len ds n (by simpa using h))
theorem slots_none : ∀ (n i : Nat) (d : D), getS (slots n []) i = some d → False
  | 0, _, _, h => by cases h
  | n + 1, 0, _, h => by cases h
  | n + 1, i + 1, d, h => slots_none n i d h
theorem slots_get : ∀ (ds : List D) (n i : Nat) (d : D), getS (slots n ds) i = some d → ds[i]? = some d
  | [], n, i, d, h => (slots_none n i d h).elim
  | x :: ds, n, 0, d, h => h
  | x :: ds, n, i + 1, d, h => slots_get ds (Nat.pred n) i d h
theorem frzs_cons {f : D → Option D} {x : D} {r ys : List D} (h : frzs f (x :: r) = some ys) : ∃ y zs, f x = some y ∧ frzs f r = some zs ∧ ys = y :: zs := by
  obtain ⟨y, h1, h2⟩ := oB_some h
  obtain ⟨zs, h3, h4⟩ := oB_some h2
  cases h4
  exact ⟨y, zs, h1, h3, rfl⟩
theorem frzs_is {F F' : Hp} {rho : Nat → Addr} {nx : Nat} {f : D → Option D} (hf : ∀ d v r, IsV F rho nx d v → f d = some r → Is F' r v) : ∀ {ds : List D} {vs : List V} {rs : List D}, IsVs F rho nx ds vs → frzs f ds = some rs → IsAll F' rs vs
  | _, _, _, .nil, h => by cases h; exact .nil
  | _, _, _, .cons iv t, h => by
    obtain ⟨y, zs, h1, h2, rfl⟩ := frzs_cons h
    exact .cons (hf _ _ _ iv h1) (frzs_is hf t h2)
/-- what is handed back, frozen: F' holds all that is new -/
theorem frz_is {P : Program} {w : World} {F0 H0 F F' : Hp} {rho : Nat → Addr} {s : S} {σ : L2.St} {H : Hp} (R : Rel P w F0 H0 F rho s σ H) (e : Same F F') (hn : ∀ b o, H b = some o → H0 b = none → F' b = some o) :
    ∀ (k : Nat) (d : D) (v : V) (r : D), IsV F rho s.nx d v → frz s k d = some r → Is F' r v
  | 0, d, v, r, _, h => by cases h
  | k + 1, d, v, r, iv, h => by
    cases d with
    | ref n =>
      obtain ⟨xs, h1, h2⟩ := lst_of (show (lstO s n fun xs => oB (frzs (frz s k) xs) fun ys => some (D.lst ys)) = some r from h)
      obtain ⟨ys, h3, h4⟩ := oB_some h2
      cases h4
      obtain ⟨_, g2, _, vs, g4, g5⟩ := R.ob n _ h1
      rw [iv.2]
      exact .lst (hn _ _ g4 g2) (frzs_is (frz_is R e hn k) g5 h3)
    | non => cases h; exact Is.mono e iv
    | bl b => cases h; exact Is.mono e iv
    | int i => cases h; exact Is.mono e iv
    | rep i => cases h; exact Is.mono e iv
    | tup xs => cases h; exact Is.mono e iv
    | lst xs => cases h; exact Is.mono e iv
    | idict xs => cases h; exact Is.mono e iv
    | ptup xs => cases h; exact Is.mono e iv
theorem start_get {N : List Str} : ∀ {vs : List V} {i : Nat} {v : V}, vs[i]? = some v → (L2.start N vs)[i]? = some (some v) := fun {vs i v} h => by
  have hl : i < vs.length := (List.getElem?_eq_some_iff.mp h).1
  unfold L2.start
  rw [List.getElem?_append_left (by rw [List.length_map]; exact hl), List.getElem?_map, h]
  rfl
/-- THE RULE: a def keeps the promise of its function over data -/
theorem fn_data {P : Program} {w : World} {K : PySem.W.Frag} {mg : Str → Option Value} {base : Heap} {x qual : Str} {st : Stmt} {f : Addr} {fd : FuncData} {N ps : List Str} {k n : Nat} {b : Sx} (F : Fun K x qual st f fd) (S : FnScope N ps (defScope st)) (hn : ps.length = n) (hN : N.length = n + (N.length - n))
    (hbody : ∀ (cdv : Value) (A : Around) (outer : List Env) (s : Shared) (H : Hp) (E : XK), Room k (A.deeper (envOfC qual (defScope st) s.heap.objs.size f cdv)) →
      XB ((cxOf CX0 P w K mg base N qual (defScope st) f cdv A outer s H E).nox) (defBody st) b) : FnOk P w K mg base CX0 (k + 1) f fd ps (spD n (run N.length b)) := by
  refine F.ok S (fun vs H Q E h => (spD_len h).trans hn.symm) (fun cdv A outer s H vs Q E hr h => ?_)
  refine ⟨_, hbody cdv A outer s H E hr, ?_⟩
  obtain ⟨F, ds, r, h1, h2, h3, h4, h5⟩ := h
  have hl : ds.length ≤ N.length := by omega
  have R : Rel P w F H F (fun _ => 0) ⟨slots N.length ds, [], 0⟩ (L2.start N vs) H := by
    refine ⟨h2, Same.refl _, Same.refl _, fun b o e => .inl (by rw [e]; exact fun q => nomatch q), fun i d e => ?_, ?_, (fun n o e => nomatch e), (fun n m o p e => nomatch e)⟩
    · obtain ⟨v, g1, g2⟩ := h3.get (slots_get ds _ i d e)
      exact ⟨v, start_get g1, IsV.of g2⟩
    · show (slots N.length ds).length = _
      rw [slots_len ds _ hl]
      unfold L2.start
      rw [List.length_append, List.length_map, List.length_replicate, ← h3.length]
      omega
  refine ⟨F, H, F, _, _, R, ?_⟩
  have h6 : (@_root_.Kx.R.casesOn (fun _ => Option D) (b ⟨slots N.length ds, [], 0⟩) none (fun _ => none) (fun d s => frz s 3 d)) = some r := h4
  cases e : b ⟨slots N.length ds, [], 0⟩ with
  | bad => rw [e] at h6; cases h6
  | nx s' => rw [e] at h6; cases h6
  | rt d s' =>
    rw [e] at h6
    intro F' rho' σ' H' v R' ef iv
    let F2 : Hp := fun b => match F' b with
      | some o => some o
      | none => match H b with
        | some _ => none
        | none => H' b
    have g1 : Same F' F2 := fun b o q => by show (match F' b with | some o => some o | none => _) = _; rw [q]
    have g2 : ∀ b o, H' b = some o → H b = none → F2 b = some o := fun b o q z => by
      show (match F' b with | some o => some o | none => match H b with | some _ => none | none => H' b) = some o
      cases q2 : F' b with
      | some u =>
        have := R'.sub _ _ q2
        rw [q] at this
        exact this.symm
      | none =>
        show (match H b with | some _ => none | none => H' b) = some o
        rw [z]
        exact q
    refine h5 F2 H' v ⟨ef.trans g1, fun b o q => ?_, R'.old, fun b o q => ?_⟩ (frz_is R' g1 g2 3 d v r iv h6)
    · have q1 : (match F' b with | some o => some o | none => match H b with | some _ => none | none => H' b) = some o := q
      cases q2 : F' b with
      | some u => rw [q2] at q1; cases q1; exact R'.sub _ _ q2
      | none =>
        rw [q2] at q1
        cases q3 : H b with
        | some u => rw [q3] at q1; cases q1
        | none => rw [q3] at q1; exact q1
    · have q1 : (match F' b with | some o => some o | none => match H b with | some _ => none | none => H' b) = some o := q
      cases q2 : F' b with
      | some u => exact R'.fre b u q2
      | none =>
        rw [q2] at q1
        cases q3 : H b with
        | some u => rw [q3] at q1; cases q1
        | none => exact .inr rfl
end Kx

/-! KxM: calls of one form each: range as a value, extend, count, index, get, isinstance, star displays, keywords. -/
namespace Kx
open PySem L2 PyProof.Rows
section
variable {X : Cx} {a b c e tg : Expr} {ea eb ec : Ex} {pos p p2 p3 : Pos}

/-! ### range as a value -/
theorem rg_is {F : Hp} : ∀ (n : Nat) (lo : Int), IsAll F (rg n lo) ((List.range n).map fun (i : Nat) => V.int (lo + (i : Int)))
  | 0, _ => .nil
  | n + 1, lo => by
    have h := rg_is (F := F) n (addI lo 1)
    rw [List.range_succ_eq_map, List.map_cons, List.map_map]
    have e : (fun (i : Nat) => V.int (lo + (i : Int))) ∘ Nat.succ = fun (i : Nat) => V.int (addI lo 1 + (i : Int)) := by
      funext i
      rw [addI_eq]
      show V.int (lo + ((i + 1 : Nat) : Int)) = _
      congr 1
      omega
    rw [e]
    exact .cons (by simpa using Is.int (lo + ((0 : Nat) : Int))) h
theorem rgV_is {F : Hp} {n : Int} : IsAll F (rg (toN n) 0) (rgV 0 n) := by
  have h := rg_is (F := F) (toN n) 0
  unfold rgV
  rw [toN_eq] at h ⊢
  rw [Int.sub_zero]
  exact h
theorem xl_range (hc : X.calm = true) (hg1 : Gl X "list") (hm1 : X.mg "list" = none) (hg : Gl X "range") (hm : X.mg "range" = none) (ha : XE X a ea) (na : starEach [a] X.env = (false, eval a X.env) :: starEach [] X.env := by rfl)
    (nb : starEach [Expr.Call (.Name "range" p2) [a] [] p3] X.env = (false, eval (Expr.Call (.Name "range" p2) [a] [] p3) X.env) :: starEach [] X.env := by rfl) :
    XL X (.Call (.Name "list" p) [.Call (.Name "range" p2) [a] [] p3] [] pos) (lRange ea) := pe_by fun σ H Q h => by
  obtain ⟨F0, H0, F, rho, s, ds, R, he, q⟩ := h
  obtain ⟨x, hx, h1⟩ := oB_some he
  obtain ⟨n, rfl, h2⟩ := gI_some h1
  obtain ⟨h3, h4⟩ := ck_some h2
  cases h4
  have bn := okI_lt h3
  refine ⟨_, pe_listRg hc hg1 hm1 (prg_1 hg hm ha na) nb, tE1 R hx fun F' H' v st iv => ⟨n, v_int iv, ⟨by omega, by omega, by omega, by omega, by omega⟩, fun pa np => ?_⟩⟩
  exact q F' _ pa _ (st.trans (Step.own st.s np)) (st.h.free np) (st.s.free np) L2.upd_same rgV_is
theorem x_tupRange (hc : X.calm = true) (hg1 : Gl X "tuple") (hm1 : X.mg "tuple" = none) (hg : Gl X "range") (hm : X.mg "range" = none) (ha : XE X a ea) (na : starEach [a] X.env = (false, eval a X.env) :: starEach [] X.env := by rfl)
    (nb : starEach [Expr.Call (.Name "range" p2) [a] [] p3] X.env = (false, eval (Expr.Call (.Name "range" p2) [a] [] p3) X.env) :: starEach [] X.env := by rfl) :
    XE X (.Call (.Name "tuple" p) [.Call (.Name "range" p2) [a] [] p3] [] pos) (eTupRange ea) := pe_by fun σ H Q h => by
  obtain ⟨F0, H0, F, rho, s, d, R, he, q⟩ := h
  obtain ⟨xs, h0, h5⟩ := oB_some he
  cases h5
  obtain ⟨x, hx, h1⟩ := oB_some h0
  obtain ⟨n, rfl, h2⟩ := gI_some h1
  obtain ⟨h3, h4⟩ := ck_some h2
  cases h4
  have bn := okI_lt h3
  refine ⟨_, pe_tupRg hc hg1 hm1 (prg_1 hg hm ha na) nb, tE1 R hx fun F' H' v st iv => ⟨n, v_int iv, ⟨by omega, by omega, by omega, by omega, by omega⟩, fun pa np => ?_⟩⟩
  exact q _ _ _ (st.trans (Step.lay st.s np)) (IsV.of (.tup (.inl L2.upd_same) rgV_is))

/-! ### extend -/
theorem extend_tup (l : Addr) (items : Array Value) (n : Nat) (b : Addr) (items2 : Array Value) (n2 : Nat) (dd : Option Addr) (sl : Array (Option Value)) (h0 : ¬ (!items.isEmpty && Builtin.List.listTooLong (items.size + items2.size)) = true) (h1 : items.size ≤ sizeLine) (h2 : items.size + items2.size ≤ sizeLine + 1) :
    Meets (Builtin.«list.extend» ⟨[.ref l, .ref b], []⟩) (fun _ R s => s.heap.get? l = some { cls := .type "list", dict := none, data := .seq items n, slots := #[] } ∧ s.heap.get? b = some { cls := .type "tuple", dict := dd, data := .seq items2 n2, slots := sl } ∧ R (.ok (.ret Value.none)) { s with heap := s.heap.update l (Obj.mapSeq fun x => x ++ items2), toks := s.toks }) :=
  .of_wp fun prog w A R s h => by
    obtain ⟨hp, g, d, tk, os⟩ := s
    obtain ⟨hl, hb, h⟩ := h
    have f1 := AutoSeq1.idx_int
    have f2 := AutoSeq1.sub_tuple_tuple
    have f3 := AutoSeq1.sub_list_list
    have f4 := AutoSeq1.sub_tuple_list
    have f5 := AutoSeq1.sub_list_tuple
    have hz' : (items ++ items2).size ≤ sizeLine + 1 := by rw [Array.size_append]; exact h2
    wp_walk using (wpAny_updateSeq hl rfl (hz := h1) (_hz' := hz')), AutoSeq1.wpAny_loadPart' hl, AutoSeq1.wpAny_loadPart' hb
    exact ⟨_, rfl, h⟩
end
end Kx

/-! KxN: extend, count, index, get, isinstance, a star in a display. -/
namespace Kx
open PySem L2 PyProof.Rows
section
variable {X : Cx} {a b c e tg : Expr} {ea eb ec : Ex} {pos p p2 p3 apos cpos : Pos}

/-! ### extend -/
def rExtT (K : PySem.W.Frag) : V → List V → Hp → VK → Prop := fun x vs H Q => ∃ l b xs zs, x = .ref l ∧ vs = [.ref b] ∧ H l = some (.lst xs) ∧ SqT K H b zs ∧ xs.length + zs.length ≤ sizeLine ∧ Q .non (upd H l (.lst (xs ++ zs)))
theorem mt_extT : MtR X "list.extend" (rExtT X.K) := by
  intro pins s σ H x vs v us Q I rx rv h
  obtain ⟨l, b, xs, zs, rfl, rfl, hH, hB, hz, q⟩ := h
  cases rx
  obtain ⟨u, rfl, ru⟩ := Vals.one rv
  cases ru
  obtain ⟨z, its, n, r, hl, e⟩ := I.lstM hH
  obtain ⟨its2, r2, ⟨o2, e2, hc2, n2, hd2⟩, z2⟩ := I.tuple hB
  obtain ⟨cls, dd, data, sl⟩ := o2
  simp only at hc2 hd2
  subst hc2 hd2
  have hl2 := r2.length
  have hsz : its.toArray.size + its2.toArray.size ≤ sizeLine := by rw [List.size_toArray, List.size_toArray]; omega
  have hlong : ¬ (!its.toArray.isEmpty && Builtin.List.listTooLong (its.toArray.size + its2.toArray.size)) = true := by
    rw [notLongL hsz, Bool.and_false]
    exact Bool.false_ne_true
  refine call_meets F.slot_list_extend ⟨_, e, rfl⟩ F.entry_list_extend (F.args_list_extend_2 _ _)
    (extend_tup l its.toArray n b its2.toArray n2 dd sl hlong (by rw [List.size_toArray]; omega) (by omega)) ⟨e, e2, ?_⟩
  refine ⟨.non, _, I.lset (its' := its ++ its2) hH e (by simp) (r.append r2) ?_, rfl, q⟩
  rw [List.length_append]
  omega
def rExt2 (K : PySem.W.Frag) : V → List V → Hp → VK → Prop := fun x vs H Q => rExtend x vs H Q ∨ rExtT K x vs H Q
theorem mt_ext2 : MtR X "list.extend" (rExt2 X.K) := fun pins s σ H x vs v us Q I rx rv h => by
  rcases h with h | h
  · exact mt_extend pins s σ H x vs v us Q I rx rv h
  · exact mt_extT pins s σ H x vs v us Q I rx rv h
theorem xs_ext {st : Stmt} (mk : ∀ {to te : TE}, PE X a to → PE X b te → PS X st (tDrop (tBM X.K "list" (rExt2 X.K) to (tCons te tNil)))) (ha : XE X a ea) (hb : XE X b eb) : XS X st (sExt ea eb) := ps_by fun D σ H h => by
  obtain ⟨F0, H0, F, rho, s, R, q⟩ := h
  obtain ⟨s2, e, q2⟩ := oR_run q
  obtain ⟨x, hx, e⟩ := oB_some e
  obtain ⟨n, rfl, e⟩ := gR_some e
  obtain ⟨d, hd, e⟩ := oB_some e
  obtain ⟨hcl, e⟩ := ck_some e
  obtain ⟨ys, hys, e⟩ := oB_some e
  obtain ⟨xs, hn, e⟩ := lst_of e
  obtain ⟨z, e⟩ := ck_some e
  obtain ⟨z', e⟩ := ck_some e
  cases e
  have z2 := sz_short z
  have z3 := sz_short z'
  refine ⟨_, mk ha hb, tE1 R hx fun F' H' v st iv => ?_⟩
  obtain ⟨vs, g1, _⟩ := (R.step st).lst hn
  refine ⟨by rw [iv.2]; exact .inl ⟨rfl, vs, SqL.of g1⟩, tE1 (R.step st) hd fun F2 H2 u st2 iu => ?_⟩
  have R2 := (R.step st).step st2
  obtain ⟨ws, k1, k2⟩ := R2.lst hn
  have hl := Paired.length k2
  obtain ⟨b0, us, rfl, k3, k4⟩ := items_at R2 iu hys
  have hl2 := Paired.length k4
  have fin : D.nx σ (L2.upd H2 (rho n) (.lst (ws ++ us))) := by
    refine q2 F2 rho σ _ (R2.sto hn ⟨ws ++ us, L2.upd_same, ?_⟩) (st.f.trans st2.f)
    rw [app_eq]
    exact IsVs.app k4 k2
  rcases k3 with k3 | k3
  · exact .inl ⟨rho n, b0, ws, us, iv.2, rfl, k1, k3, line_ge (by omega), fin⟩
  · exact .inr ⟨rho n, b0, ws, us, iv.2, rfl, k1, k3.sq, line_ge (by omega), fin⟩

/-! ### count -/
theorem cntI_eq (i : Int) : ∀ ns : List Int, cntI i ns = ns.count i
  | [] => rfl
  | j :: r => by
    show @Bool.rec (fun _ => Nat) (cntI i r) (Nat.succ (cntI i r)) (eqI j i) = _
    rw [cntI_eq i r, eqI_eq, List.count_cons]
    by_cases e : j = i
    · rw [decide_eq_true e, e, beq_self_eq_true]; rfl
    · rw [decide_eq_false e, beq_eq_false_iff_ne.mpr e]; rfl
theorem x_count {ce : Expr} (mk : ∀ {to te : TE}, PE X a to → PE X b te → PE X ce (tBM X.K "list" (rCntI X.K) to (tCons te tNil))) (ha : XE X a ea) (hb : XE X b eb) : XE X ce (eCount ea eb) := pe_by fun σ H Q h => by
  obtain ⟨F0, H0, F, rho, s, d, R, he, q⟩ := h
  obtain ⟨x, hx, h1⟩ := oB_some he
  obtain ⟨y, hy, h2⟩ := oB_some h1
  obtain ⟨i, rfl, h3⟩ := gI_some h2
  obtain ⟨xs, h4, h5⟩ := oB_some h3
  obtain ⟨ns, h6, h7⟩ := oB_some h5
  cases h7
  refine ⟨_, mk ha hb, tE1 R hx fun F' H' v st iv => ?_⟩
  obtain ⟨a0, vs, rfl, k1, k2⟩ := listC_at (R.step st) iv h4
  refine ⟨.inl ⟨rfl, vs, SqL.of k1⟩, tE1 (R.step st) hy fun F2 H2 u st2 iu => ?_⟩
  obtain rfl := ints_at (rho := rho) (nx := 0) k2.vs h6
  rw [v_int iu]
  refine ⟨a0, ns, i, rfl, rfl, SqL.of (st2.h _ _ k1), ?_⟩
  rw [← cntI_eq]
  exact q F2 H2 _ (st.trans st2) (IsV.of (.int _))

/-! ### index -/
def tBMp (r : V → List V → Hp → VK → Prop) (to : TE) (t : TA) : TE := fun σ H Q => to σ H fun x H1 => (∃ p o xs, x = .ref p ∧ H1 p = some (.frz o (.tup xs)) ∧ o.cls = .type "tuple" ∧ o.dict = none) ∧ t σ H1 fun xs H2 => r x xs H2 Q
theorem pe_bmp {o : Expr} {es : List Expr} {to : TE} {t : TA} {name : Str} {id : String} {r : V → List V → Hp → VK → Prop} (pa : PlainAttrs "tuple") (slot : Slot "tuple" name id) (hty : typeOf (.builtin id) = pure (.type "method_descriptor")) (hm : MtR X id r) (ho : PE X o to) (ha : PA X (e :: es) t)
    (hbase : attributeBase o name X.env (eval o X.env) = eval o X.env := by rfl)
    (hfew : ((backTo cpos (starEach (e :: es) X.env)).all (fun x => !x.1) && (backToKw cpos (keywordEach [] X.env)).all (fun x => x.1.isSome)
      && decide ((e :: es).length + ([] : List Keyword).length + (if ([] : List Keyword).isEmpty then 0 else 1) < 30)) = true := by rfl)
    (hline : (apos.endLine == cpos.line) = true := by rfl) (hs : starEach (e :: es) X.env = (false, eval e X.env) :: starEach es X.env := by rfl) (hplain : (backTo cpos (starEach es X.env)).any (·.1) = false := by rfl) :
    PE X (.Call (.Attribute o name apos) (e :: es) [] cpos) (tBMp r to t) := by
  refine ⟨fun pins s σ H Q I h => ?_⟩
  refine wpAny_Call_method_late hbase hfew hline rfl (thn (ho.run pins s σ H _ I h) fun v s1 ⟨x, H1, I1, r1, ⟨p0, o0, xs0, hx, hp, hc, hd⟩, q1⟩ => ?_)
  subst hx
  obtain rfl : v = Value.ref p0 := r1
  obtain ⟨ho0, _⟩ : s1.heap.get? p0 = some o0 ∧ _ := I1.hok p0 _ hp
  refine ⟨"tuple", id, pa, slot, hty, ⟨o0, ho0, hc⟩, fun a0 e0 => by cases e0; exact ⟨o0, ho0, hd⟩, ?_⟩
  have hA := ha.run cpos pins s1 σ H1 _ I1 q1
  rw [hs] at hA ⊢
  refine Calls.callWith_builtin (by show (false || (backTo cpos (starEach es X.env)).any (·.1)) = false; rw [hplain] <;> rfl) (Calls.evalArgs_plain ?_)
  exact thn hA fun us s2 ⟨vs, H2, I2, r2, q2⟩ => hm pins s2 σ H2 (.ref p0) vs _ us Q I2 rfl r2 q2
def rIdxI (K : PySem.W.Frag) : V → List V → Hp → VK → Prop := fun x xs H Q => ∃ (p : Addr) (ns : List Int) (k : Int), x = .ref p ∧ xs = [.int k] ∧ SqT K H p (ns.map V.int) ∧ k ∈ ns ∧ Q (.int (ns.idxOf k : Nat)) H
theorem mt_index : MtR X "tuple.index" (rIdxI X.K) := by
  intro pins s σ H x xs v us Q I rx rxs h
  obtain ⟨p, ns, k, rfl, rfl, hs, hk, q⟩ := h
  cases rx
  obtain ⟨u, rfl, ru⟩ := Vals.one rxs
  obtain ⟨t, rfl⟩ := ru
  obtain ⟨its, rv, pl, hlen⟩ := I.tuple hs
  exact PySem.SeqAt.tuple_index_ints pl (ints_of_vals rv) hk ⟨.int (ns.idxOf k : Nat), H, I.tok _, ⟨_, rfl⟩, q⟩
theorem idx_go (i : Int) : ∀ (ns : List Int) (m n : Nat), (@List.rec Int (fun _ => Nat → Option Nat) (fun _ => none) (fun j _ ih n => @Bool.rec (fun _ => Option Nat) (ih (Nat.succ n)) (some n) (eqI j i)) ns m) = some n → i ∈ ns ∧ n = m + ns.idxOf i
  | [], m, n, h => by cases h
  | j :: r, m, n, h => by
    have h1 : @Bool.rec (fun _ => Option Nat) ((@List.rec Int (fun _ => Nat → Option Nat) (fun _ => none) (fun j _ ih n => @Bool.rec (fun _ => Option Nat) (ih (Nat.succ n)) (some n) (eqI j i)) r) (Nat.succ m)) (some m) (eqI j i) = some n := h
    rw [eqI_eq] at h1
    by_cases e : j = i
    · rw [decide_eq_true e] at h1
      cases h1
      subst e
      exact ⟨List.mem_cons_self, by rw [List.idxOf_cons_self]; rfl⟩
    · rw [decide_eq_false e] at h1
      obtain ⟨g1, g2⟩ := idx_go i r (Nat.succ m) n h1
      refine ⟨List.mem_cons_of_mem _ g1, ?_⟩
      rw [List.idxOf_cons, beq_eq_false_iff_ne.mpr e, g2]
      show Nat.succ m + List.idxOf i r = m + (List.idxOf i r + 1)
      omega
theorem idxI_eq {i : Int} {ns : List Int} {n : Nat} (h : idxI i ns = some n) : i ∈ ns ∧ n = ns.idxOf i := by
  obtain ⟨h1, h2⟩ := idx_go i ns 0 n h
  exact ⟨h1, by rw [h2, Nat.zero_add]⟩
theorem x_index {ce : Expr} (mk : ∀ {to te : TE}, PE X a to → PE X b te → PE X ce (tBMp (rIdxI X.K) to (tCons te tNil))) (ha : XE X a ea) (hb : XE X b eb) : XE X ce (eIndex ea eb) := pe_by fun σ H Q h => by
  obtain ⟨F0, H0, F, rho, s, d, R, he, q⟩ := h
  obtain ⟨x, hx, h1⟩ := oB_some he
  obtain ⟨y, hy, h2⟩ := oB_some h1
  obtain ⟨xs, rfl, h3⟩ := gP_some h2
  obtain ⟨i, rfl, h4⟩ := gI_some h3
  obtain ⟨ns, h6, h7⟩ := oB_some h4
  obtain ⟨n, h8, h9⟩ := oB_some h7
  cases h9
  refine ⟨_, mk ha hb, tE1 R hx fun F' H' v st iv => ?_⟩
  obtain ⟨a0, vs, o, rfl, k1, kc, kd, k2⟩ := Is.ptup_eq iv
  refine ⟨⟨a0, o, vs, rfl, st.s _ _ k1, kc, kd⟩, tE1 (R.step st) hy fun F2 H2 u st2 iu => ?_⟩
  obtain rfl := ints_at (rho := rho) (nx := 0) k2.vs h6
  obtain ⟨m1, m2⟩ := idxI_eq h8
  rw [v_int iu]
  refine ⟨a0, ns, i, rfl, rfl, .inl (.inr ⟨o, st2.h _ _ (st.s _ _ k1)⟩), m1, ?_⟩
  rw [← m2]
  exact q F2 H2 _ (st.trans st2) (IsV.of (.int _))

/-! ### tuple(xs) of a list, what is known of it -/
theorem call_ptup : CallR X (.type "tuple") (fun vs H Q => ∃ p xs, vs = [.ref p] ∧ SqL X.K H p xs ∧ ∀ q o, H q = none → o.cls = .type "tuple" → o.dict = none → Q (.ref q) (upd H q (.frz o (.tup xs)))) := by
  intro pins s σ H vs us Q I r h
  obtain ⟨p, xs, rfl, hs, q⟩ := h
  rw [Vals.ref1 r]
  obtain ⟨its, rv, pl, hz⟩ := I.list hs
  refine call_tuple_list pl.isList (fun h' hk => ?_) (by rw [List.size_toArray, ← rv.length]; exact hz)
  have I1 : Inv X pins σ H { s with heap := h' } := I.kept (t' := s.toks) hk
  have I2 : Inv X pins σ (upd H h'.objs.size (.frz { cls := .type "tuple", data := .seq its.toArray } (.tup xs))) { s with heap := h'.push { cls := .type "tuple", data := .seq its.toArray } } :=
    I1.laid (t' := s.toks) (fun b o e => Heap.get?_push_of_some _ e) (Nat.le_refl _) (show ObjOk X.prog X.w _ _ _ (.frz _ (.tup xs)) from ⟨Heap.get?_push_size _ rfl, hz, its, rv, IsTup.new _ _⟩)
  exact ⟨.ref h'.objs.size, _, I2, rfl, q _ _ (I1.hok.fresh (Nat.le_refl _)) rfl rfl⟩
theorem cal_ptup : CalK X (.type "tuple") fPTuple := fun F0 H0 F rho s σ H x d Q R h q => by
  obtain ⟨xs, h1, h2⟩ := oB_some h
  cases h2
  refine ⟨_, call_ptup, fun F' H' v st iv => ?_⟩
  obtain ⟨a, vs, rfl, k1, k2⟩ := listC_at (R.step st) iv h1
  exact ⟨a, vs, rfl, SqL.of k1, fun l o nl hc hd => q _ _ _ (st.trans (Step.lay st.s nl)) (IsV.of (.ptup L2.upd_same hc hd (k2.mono (same_new (st.s.free nl)))))⟩

/-! ### get -/
theorem isKv_none {F : Hp} {k : Int} : ∀ {xs : List (Int × D)} {vs : List (Key × V)}, IsKv F xs vs → lookD k xs = none → valV vs (Sum.inl k) = none
  | _, _, .nil, _ => rfl
  | _, _, .cons (k := j) (v := v) (vs := vs) (ds := ds) (d := d0) iv t, h => by
    have h1 : @Bool.rec (fun _ => Option D) (lookD k ds) (some d0) (eqI j k) = none := h
    rw [eqI_eq] at h1
    by_cases e : j = k
    · rw [decide_eq_true e] at h1
      cases h1
    · rw [decide_eq_false e] at h1
      have g := isKv_none t h1
      have e2 : ¬ ((Sum.inl j : Key) = Sum.inl k) := fun q => e (Sum.inl.inj q)
      simp only [valV] at g ⊢
      simpa [e2] using g
theorem x_get (hu : X.A.units + 1 < cLine) (ha : XE X a ea) (hb : XE X b eb) (hc : XE X c ec) (m : M2 X a "get" apos b c cpos) : XE X (.Call (.Attribute a "get" apos) [b, c] [] cpos) (eGet ea eb ec) := pe_by fun σ H Q h => by
  obtain ⟨F0, H0, F, rho, s, d, R, he, q⟩ := h
  obtain ⟨x, hx, h1⟩ := oB_some he
  obtain ⟨kvs, rfl, h2⟩ := gD_some h1
  obtain ⟨y, hy, h3⟩ := oB_some h2
  obtain ⟨i, rfl, h4⟩ := gI_some h3
  obtain ⟨z, hz, h5⟩ := oB_some h4
  cases h5
  refine ⟨_, pe_dget2 hu ha hb hc m, tE1 R hx fun F1 H1 v st1 iv => ?_⟩
  obtain ⟨p0, vs, rfl, k1, k2⟩ := Is.idict_eq iv
  refine ⟨p0, rfl, .inl ⟨vs, .inl (st1.s _ _ k1)⟩, tE1 (R.step st1) hy fun F2 H2 u st2 iu => tE1 ((R.step st1).step st2) hz fun F3 H3 t st3 it => ?_⟩
  rw [v_int iu]
  have k3 : H3 p0 = some (.dK vs) := st3.h _ _ (st2.h _ _ (st1.s _ _ k1))
  have g := DGet.k (k := Sum.inl i) k3
  have stt := (st1.trans st2).trans st3
  cases e : lookD i kvs with
  | none =>
    rw [isKv_none k2 e] at g
    rw [e] at q
    exact ⟨_, g, q F3 H3 _ stt it⟩
  | some d0 =>
    obtain ⟨w0, g1, g2⟩ := lookD_at k2 e
    rw [g1] at g
    rw [e] at q
    exact ⟨_, g, q F3 H3 _ stt (IsV.of (g2.mono (st2.trans st3).f))⟩

/-! ### isinstance(x, tuple) -/
theorem x_isTup (ha : XE X a ea) (hg : Gl X "isinstance") (hm : X.mg "isinstance" = none) (hv : bootBuiltins "isinstance" = some (.builtin "isinstance")) (hg2 : Gl X "tuple") (hm2 : X.mg "tuple" = none) (hs : starEach [a, .Name "tuple" p2] X.env = (false, eval a X.env) :: starEach [.Name "tuple" p2] X.env := by rfl)
    (hs2 : starEach [.Name "tuple" p2] X.env = (false, eval (.Name "tuple" p2) X.env) :: starEach [] X.env := by rfl) (hpl : (backTo pos (starEach [.Name "tuple" p2] X.env)).any (·.1) = false := by rfl) :
    XE X (.Call (.Name "isinstance" p) [a, .Name "tuple" p2] [] pos) (eIsTup ea) := pe_by fun σ H Q h => by
  obtain ⟨F0, H0, F, rho, s, d, R, he, q⟩ := h
  obtain ⟨x, hx, h1⟩ := oB_some he
  obtain ⟨xs, rfl, h2⟩ := gT_some h1
  cases h2
  refine ⟨_, pe_callB call_isi hg hm hv (pa_cons ha (pa_cons (pe_bltn (v := .ty "tuple") hg2 hm2 boot_tuple rfl) pa_nil hs2) hs) (by decide) (by decide) hs hpl, tE1 R hx fun F' H' v st iv => ?_⟩
  obtain ⟨p0, vs, rfl, k1, k2⟩ := Is.tup_eq iv
  refine ⟨.ref p0, .ty "tuple", .type "tuple", .type "tuple", true, rfl, .ty _, ?_, kit_ty (by decide +kernel), q F' H' _ st (IsV.of (.bl _))⟩
  rcases k1 with k1 | ⟨o, k1⟩
  · exact .base (.tup (st.s _ _ k1))
  · exact .fTuple (st.s _ _ k1)

/-! ### [x, *xs] -/
theorem xl_star1 {p4 : Pos} (ha : XE X a ea) (hb : XE X b eb) (hs : starEach [a, .Starred b p4] X.env = (false, eval a X.env) :: starEach [.Starred b p4] X.env := by rfl)
    (hs2 : starEach [.Starred b p4] X.env = (true, eval b X.env) :: starEach [] X.env := by rfl) : XL X (.List [a, .Starred b p4] pos) (lStar1 ea eb) := pe_by fun σ H Q h => by
  obtain ⟨F0, H0, F, rho, s, ds, R, he, q⟩ := h
  obtain ⟨x, hx, h1⟩ := oB_some he
  obtain ⟨y, hy, h2⟩ := oB_some h1
  obtain ⟨xs, rfl, h3⟩ := gL_some h2
  obtain ⟨h4, h5⟩ := ck_some h3
  obtain ⟨h6, h7⟩ := ck_some h5
  cases h7
  have z := sz_short h6
  refine ⟨_, pe_lst (pa_cons ha (StX.pa_star hb pa_nil hs2) hs), tE1 R hx fun F' H' v st iv => tE1 (R.step st) hy fun F2 H2 u st2 iu => ?_⟩
  obtain ⟨p0, vs, rfl, k1, k2⟩ := Is.lst_eq iu
  have hl := k2.length
  refine ⟨p0, vs, rfl, .inr (SqL.of (st2.s _ _ k1)), ?_⟩
  show _ ∧ _
  have st' := st.trans st2
  refine ⟨?_, fun pa np => ?_⟩
  · rw [List.append_nil]
    show vs.length + 1 ≤ sizeLine
    exact line_ge (by omega)
  · rw [List.append_nil]
    exact q F2 _ pa _ (st'.trans (Step.own st'.s np)) (st'.h.free np) (st'.s.free np) L2.upd_same (.cons ((iv.closed h4).mono st2.f) k2)
end
end Kx

/-! KxV: t[::-1], enumerate of tuples, repr, min of four. -/
namespace Kx
open PySem L2 PyProof.Rows
/-! ### t[::-1] -/
theorem adjust_rev (n : Nat) : Builtin.Slice.sliceAdjust none none (-1) (n : Int) = ((n : Int) - 1, -1) := rfl
theorem places_rev (n : Nat) : Builtin.Slice.slicePlaces ((n : Int) - 1) (-1) (-1) = n := by
  unfold Builtin.Slice.slicePlaces
  have h1 : ¬ ((-1 : Int) > 0) := by decide
  have h2 : (- -1 : Int) = 1 := by decide
  simp only [h1, if_false, h2, Int.ediv_one]
  split <;> omega
theorem fm_congr {α β : Type} {f g : α → Option β} : ∀ {l : List α}, (∀ x ∈ l, f x = g x) → l.filterMap f = l.filterMap g
  | [], _ => rfl
  | x :: r, h => by
    rw [List.filterMap_cons, List.filterMap_cons, h x List.mem_cons_self, fm_congr fun y hy => h y (List.mem_cons_of_mem _ hy)]
theorem pick_rev (xs : Array Value) : ((List.range xs.size).filterMap fun (k : Nat) => xs[((xs.size : Int) - 1 + (k : Int) * (-1)).toNat]?).toArray = xs.toList.reverse.toArray := by
  have e : ((List.range xs.size).filterMap fun (k : Nat) => xs[((xs.size : Int) - 1 + (k : Int) * (-1)).toNat]?) = ((List.range xs.size).map fun k => xs.size - 1 - k).filterMap (xs[·]?) := by
    rw [List.filterMap_map]
    refine fm_congr fun k hk => ?_
    have hk2 := List.mem_range.mp hk
    show xs[((xs.size : Int) - 1 + (k : Int) * (-1)).toNat]? = xs[xs.size - 1 - k]?
    have : ((xs.size : Int) - 1 + (k : Int) * (-1)).toNat = xs.size - 1 - k := by omega
    rw [this]
  rw [e, PySem.W.krv_range, List.filterMap_reverse, PySem.W.krv_all]
section
variable {prog : Program} {w : World} {A : Around} {E : Value → Shared → Prop} {s : Shared}
theorem sliceApplied_rev {sl : Addr} {vs : Value} {n : Nat} {Q : Int × Int × Nat → Shared → Prop} (hs : s.heap.IsSliceOf sl .none .none vs) (ps : IsPart vs (some (-1)))
    (h : Q ((n : Int) - 1, -1, n) s) : wpAny (model prog w) A (Builtin.Slice.sliceApplied (.ref sl) (pure (n : Int))) Q E s := by
  obtain ⟨os, hos, hcs, hds⟩ := id hs
  unfold Builtin.Slice.sliceApplied Builtin.Slice.sliceFields
  refine wpAny_bind (wpAny_bind (wpAny_field hos hds (x := .none) rfl (wpAny_bind (wpAny_field hos hds (x := .none) rfl (wpAny_bind (wpAny_field hos hds (x := vs) rfl (wpAny_pure ?_)))))))
  refine wpAny_bind (HT.slicePart_ ps ?_)
  show wpAny _ _ (if ((-1 : Int) == 0) = true then _ else _) _ _ s
  rw [if_neg (by decide)]
  refine wpAny_bind (slicePart_none (wpAny_bind (slicePart_none (wpAny_bind (wpAny_pure ?_)))))
  show wpAny _ _ (match Builtin.Slice.sliceAdjust none none (-1) (n : Int) with | (lo, hi) => pure (lo, (-1 : Int), Builtin.Slice.slicePlaces lo hi (-1))) _ _ s
  rw [adjust_rev n]
  show wpAny _ _ (pure ((n : Int) - 1, (-1 : Int), Builtin.Slice.slicePlaces ((n : Int) - 1) (-1) (-1))) _ _ s
  rw [places_rev n]
  exact wpAny_pure h
theorem getItem_tuple_rev {t sl : Addr} {items : Array Value} {vs : Value} {Q : Value → Shared → Prop} (ht : IsTup s.heap t items) (hs : s.heap.IsSliceOf sl .none .none vs) (ps : IsPart vs (some (-1)))
    (h : Q (.ref s.heap.objs.size) { s with heap := s.heap.push { cls := .type "tuple", data := .seq items.toList.reverse.toArray } })
    (hsz : items.size ≤ sizeLine) : wpAny (model prog w) A (getItem (.ref t) (.ref sl)) Q E s := by
  have htake : sizeOk (.seq items.toList.reverse.toArray) := by
    show items.toList.reverse.toArray.size ≤ sizeLine
    rw [List.size_toArray, List.length_reverse, Array.length_toList]
    exact hsz
  obtain ⟨os, hos, hcs, hds⟩ := id hs
  have hTs : s.TypeIs (.ref sl) "slice" := ⟨os, hos, hcs⟩
  unfold getItem
  try with_reducible refine wpAny_holding ?_
  first | refine wpAny_bind (wpAny_pure ?_) | skip
  refine wpAny_bind (wpAny_sequenceKey ht.typeIs (by decide) ?_)
  refine wpAny_bind (wpAny_callSpecial?_slot (name := Str.ofString "__getitem__") ht.typeIs PyProof.Rows.slot_tuple_getitem
    (wpAny_call_entry PyProof.Rows.slot_tuple_getitem ht.typeIs entry_tuple_getitem ?_ (args_tuple_getitem _ _)))
  show wpAny _ _ (Builtin.Tuple.tupleItemsOf (.ref t) >>= _) _ _ s
  refine wpAny_bind (tupleItemsOf_ ht ?_)
  refine wpAny_bind (wpAny_typeOf hTs ?_)
  rw [if_pos (by decide)]
  refine wpAny_bind (sliceApplied_rev hs ps ?_)
  have hno : ¬ ((((items.size : Int) - 1) == 0 && (-1 : Int) == 1 && items.size == items.size) = true) := by
    intro q
    rw [Bool.and_eq_true, Bool.and_eq_true] at q
    have q1 : ((-1 : Int) == 1) = true := q.1.2
    exact absurd q1 (by decide)
  show wpAny _ _ (if (((items.size : Int) - 1) == 0 && (-1 : Int) == 1 && items.size == items.size) = true then _ else _) _ _ s
  rw [if_neg hno, pick_rev]
  first
    | exact wpAny_bind (m := Builtin.Tuple.tupleExact _) (wpAny_newObj_type (wpAny_pure ⟨_, rfl, wpAny_pure h⟩) htake)
    | exact wpAny_bind (m := Builtin.Tuple.tupleExact _) (wpAny_newObj_type (wpAny_bind (wpAny_pure (wpAny_pure ⟨_, rfl, wpAny_pure h⟩))) htake)
    | exact wpAny_bind (wpAny_bind (m := Builtin.Tuple.tupleExact _) (wpAny_newObj_type (wpAny_pure (wpAny_pure ⟨_, rfl, wpAny_pure h⟩)) htake))
    | exact wpAny_bind (wpAny_bind (m := Builtin.Tuple.tupleExact _) (wpAny_newObj_type (wpAny_pure ⟨_, rfl, wpAny_pure h⟩) htake))
end
def tRevT (K : PySem.W.Frag) (te : TE) : TE := fun σ H Q => te σ H fun x H1 => ∃ a xs, x = .ref a ∧ SqT K H1 a xs ∧ ∀ p, H1 p = none → Q (.ref p) (upd H1 p (.tup xs.reverse))
theorem pe_revT {X : Cx} {e : Expr} {te : TE} {k : Nat} {p1 p2 p3 pos : Pos} (he : PE X e te) : PE X (.Subscript e (.Slice none none (some (.UnaryOp .USub (.Constant (.int 1) k p1) p2)) p3) pos) (tRevT X.K te) := by
  refine ⟨fun pins s σ H Q I h => ?_⟩
  refine Subscript_ (thn (he.run pins s σ H _ I h) fun v s1 ⟨x, H1, I1, r1, q1⟩ => ?_)
  obtain ⟨a, xs, ex, hx, q⟩ := q1
  subst ex
  cases r1
  have hst : PO X (some (.UnaryOp .USub (.Constant (.int 1) k p1) p2)) (tPart (tUn (rU fun i => .int (-i)) (tC (.int 1)))) := po_some (pe_un un_neg pe_int)
  refine wpAny_Slice (thn (po_none.run pins s1 σ H1 (fun o H2 => o = none ∧ H2 = H1) I1 ⟨rfl, rfl⟩) fun vl s2 ⟨l, H2, I2, pl, el, e2⟩ => ?_)
  subst el e2
  refine thn (po_none.run pins s2 σ H2 (fun o H3 => o = none ∧ H3 = H2) I2 ⟨rfl, rfl⟩) fun vu s3 ⟨u, H3, I3, pu, eu, e3⟩ => ?_
  subst eu e3
  refine thn (hst.run pins s3 σ H3 (fun o H4 => o = some (-1) ∧ H4 = H3) I3 ⟨1, rfl, -1, rfl, rfl, rfl⟩) fun vs s4 ⟨o, H4, I4, ps, eo, e4⟩ => ?_
  subst eo e4
  cases pl
  cases pu
  have I5 : Inv X pins σ H4 { s4 with heap := s4.heap.push { cls := .type "slice", data := .fields #[.none, .none, vs] } } := I4.kept (t' := s4.toks) fun b ob q => Heap.get?_push_of_some _ q
  obtain ⟨its, r, ht, hz⟩ := I5.tuple hx
  have hlen := r.length
  show wpAny (model X.prog X.w) X.A (subscriptTail e (.Slice none none (some (.UnaryOp .USub (.Constant (.int 1) k p1) p2)) p3) (.ref a) (.ref s4.heap.objs.size)) (EP X pins σ Q) X.xe { s4 with heap := s4.heap.push { cls := .type "slice", data := .fields #[.none, .none, vs] } }
  refine tail_any (ops := [.ref a, .ref s4.heap.objs.size]) ht.typeIs PyProof.Rows.slot_tuple_getitem.lookup ?_ (by with_unfolding_all rfl)
  refine getItem_tuple_rev ht (Heap.IsSliceOf.new _ .none .none vs) ps ?_ (by rw [List.size_toArray]; omega)
  refine ⟨.ref _, _, I5.laid (t' := s4.toks) (o := .tup xs.reverse) (fun b ob q => Heap.get?_push_of_some _ q) (Nat.le_refl _) ?_, rfl, q _ (I5.hok.fresh (Nat.le_refl _))⟩
  exact ⟨by rw [List.length_reverse]; exact hz, _, r.reverse, IsTup.new _ _⟩
theorem x_revT {X : Cx} {e : Expr} {ea : Ex} {k : Nat} {p1 p2 p3 pos : Pos} (ha : XE X e ea) : XE X (.Subscript e (.Slice none none (some (.UnaryOp .USub (.Constant (.int 1) k p1) p2)) p3) pos) (eRevT ea) := pe_by fun σ H Q h => by
  obtain ⟨F0, H0, F, rho, s, d, R, he, q⟩ := h
  obtain ⟨x, hx, h1⟩ := oB_some he
  obtain ⟨xs, rfl, h2⟩ := gT_some h1
  cases h2
  refine ⟨_, pe_revT ha, tE1 R hx fun F' H' v st iv => ?_⟩
  obtain ⟨a, vs, rfl, k1, k2⟩ := Is.tup_eq iv
  refine ⟨a, vs, rfl, (k1.mono st.s).sq, fun pa np => q _ _ _ (st.trans (Step.lay st.s np)) (IsV.of (.tup (.inl L2.upd_same) ?_))⟩
  rw [rvs_eq, List.append_nil]
  exact k2.reverse.mono (same_new (st.s.free np))

/-! ### enumerate(t) -/
def IteT (K : PySem.W.Frag) (a : Addr) : It :=
  ⟨fun i H => ∃ (xs : List V) (x : V), SqT K H a xs ∧ xs[i]? = some x, fun i H v H' => ∃ T x, v = .ref T ∧ H T = none ∧ H' = upd H T (.tup [.int (i : Nat), x]) ∧ ∀ xs, SqT K H a xs → xs[i]? = some x, fun i H => ∃ xs : List V, SqT K H a xs ∧ xs.length ≤ i⟩
theorem meets_enumerate_newT (l : Addr) (items : Array Value) (n : Nat) (dct : Option Addr) (sl : Array (Option Value)) :
    Meets (Builtin.«enumerate.__new__» ⟨[.type "enumerate", .ref l], []⟩) (fun _ R s => s.heap.get? l = some { cls := .type "tuple", dict := dct, data := .seq items n, slots := sl } ∧
      R (.ok (.ret (.ref (s.heap.push { cls := .type "tuple_iterator", data := .fields #[.ref l, .int 0 0] }).objs.size)))
        { s with heap := (s.heap.push { cls := .type "tuple_iterator", data := .fields #[.ref l, .int 0 0] }).push { cls := .type "enumerate", data := .fields #[.none, .bool false, .ref s.heap.objs.size, rawInt 0, .none, .none] } }) :=
  .of_wp fun prog w A R s h => by
    obtain ⟨hp, g, d, tk, os⟩ := s; obtain ⟨hl, h⟩ := h
    have hsub := sub_enumerate
    have hL : Heap.IsTuple (Shared.heap ⟨hp, g, d, tk, os⟩) l items := ⟨_, hl, rfl, n, rfl⟩
    wp_walk using AutoSeq1.wpAny_loadPart' hl
    refine wpAny_stack_any fun st => wpAny_pure ?_
    split
    · rename_i c _ _ _ _ _
      cases (c == Value.type "enumerate")
      · wp_walk using AutoSeq1.wpAny_loadPart' hl, wpAny_pyIter_tuple hL
        exact ⟨_, rfl, h⟩
      · wp_walk using AutoSeq1.wpAny_loadPart' hl, wpAny_pyIter_tuple hL
        exact ⟨_, rfl, h⟩
    · wp_walk using AutoSeq1.wpAny_loadPart' hl, wpAny_pyIter_tuple hL
      exact ⟨_, rfl, h⟩
theorem call_enumerate_tuple {prog : Program} {w : World} {A : Around} {E : Value → Shared → Prop} {s : Shared} {l : Addr} {items : Array Value} {Q : Value → Shared → Prop} (hL : s.heap.IsTuple l items)
    (h : ∀ h', IsEnum h' (s.heap.objs.size + 1) s.heap.objs.size 0 .none → h'.IsTupleIter s.heap.objs.size l 0 → h'.objs.size = s.heap.objs.size + 2 →
      (∀ b o, s.heap.get? b = some o → h'.get? b = some o) → Q (.ref (s.heap.objs.size + 1)) { s with heap := h' }) :
    wpAny (model prog w) A (call (.type "enumerate") [.ref l]) Q E s := by
  obtain ⟨⟨c, dct, dt, sl⟩, hl, hc, n, hd⟩ := hL
  replace hc : c = .type "tuple" := hc
  replace hd : dt = .seq items n := hd
  subst hc hd
  refine callType_new F.called_enumerate (by decide) (F.typeCall_enumerate_1 _) (F.newCall_enumerate_1 _) (fun obj => F.args_object_init_2 obj _) F.entry_enumerate_new
    (meets_enumerate_newT l items n dct sl) ⟨hl, ?_⟩
  have hz : (s.heap.push { cls := .type "tuple_iterator", data := .fields #[.ref l, .int 0 0] }).objs.size = s.heap.objs.size + 1 := Heap.size_push ..
  show _ ∧ _
  rw [hz]
  have he : IsEnum ((s.heap.push { cls := .type "tuple_iterator", data := .fields #[.ref l, .int 0 0] }).push
      { cls := .type "enumerate", data := .fields #[.none, .bool false, .ref s.heap.objs.size, rawInt 0, .none, .none] }) (s.heap.objs.size + 1) s.heap.objs.size 0 .none := by
    have := Heap.get?_push_size (s.heap.push { cls := .type "tuple_iterator", data := .fields #[.ref l, .int 0 0] })
      (o := { cls := .type "enumerate", data := .fields #[.none, .bool false, .ref s.heap.objs.size, rawInt 0, .none, .none] }) rfl
    rw [hz] at this; exact this
  refine ⟨⟨_, he, rfl⟩, h _ he ⟨_, Heap.get?_push_of_some _ (Heap.get?_push_size _ rfl), rfl, rfl⟩ (by rw [Heap.size_push, hz]) fun b o x => Heap.get?_push_of_some _ (Heap.get?_push_of_some _ x)⟩
theorem turn_enumT {P : Program} {w : World} {K : PySem.W.Frag} {elts : List Expr} {kk : Nat} {tpos : Pos} (a e it : Addr) :
    Turn P w K (.Tuple elts kk tpos) (IteT K a) [e, it] e (fun i h => (∃ old, IsEnum h e it ((i : Nat) : Int) old) ∧ h.IsTupleIter it a i ∧ e ≠ it) where
  mem := by simp
  obj := fun i h st b hb => by
    obtain ⟨⟨old, he⟩, ⟨o, ho, hc, hd⟩, _⟩ := st
    have e' : b = e ∨ b = it := by simpa using hb
    rcases e' with z | z
    · rw [z]; exact ⟨_, he, fun v q => nomatch q⟩
    · rw [z]; exact ⟨o, ho, fun v q => by rw [hd] at q; cases q⟩
  keep := fun i h h' st k => let ⟨⟨old, he⟩, hi, hne⟩ := st; ⟨⟨old, k e (by simp) _ he⟩, hi.at fun o q => k it (by simp) o q, hne⟩
  item := by
    intro X hP hw hK hc i pins s σ H E I hf st hg
    subst hP hw hK
    obtain ⟨⟨old, he⟩, hit, hne⟩ := st
    obtain ⟨xs, x, hq, hx⟩ := hg
    obtain ⟨its, rv, p, hz⟩ := I.tuple hq
    obtain ⟨u, hu, ru⟩ := rv.get hx
    have hel : e < s.heap.objs.size := Heap.lt_size he
    have hil : it < s.heap.objs.size := by obtain ⟨_, q, _⟩ := hit; exact Heap.lt_size q
    have hai : a ≠ it := fun z => by
      obtain ⟨o1, ho1, hc1, _⟩ := p
      obtain ⟨o2, ho2, hc2, _⟩ := hit
      rw [z, ho2] at ho1
      cases ho1
      rw [hc2] at hc1
      exact absurd (Value.type.inj hc1) (by decide)
    have hae : e ≠ a := fun z => by
      obtain ⟨o1, ho1, hc1, _⟩ := p
      have he2 : s.heap.get? e = some _ := he
      rw [z, ho1] at he2
      cases he2
      exact absurd (Value.type.inj hc1) (by decide)
    have hlt : i < its.toArray.size := by
      have := (List.getElem?_eq_some_iff.mp hu).1
      rw [List.size_toArray]; exact this
    refine wpAny_pyNext_enum_itemD (Draws.tuple (A := X.A.in1) (I.ok.hd hc) it a hai its.toArray) he ⟨hit, p⟩ hlt hne (by simp [hne, hae]) fun x' h' tk hP ho hst hT hsz hk => ?_
    obtain ⟨hit', _⟩ := hst
    have ex' : x' = u := by
      have e1 : its.toArray[i]? = some u := by simpa using hu
      rw [e1] at hP
      exact (Option.some.inj hP).symm
    subst ex'
    refine ⟨_, rfl, wpAny_letOwnedTupleGo_enum (s := { s with heap := h', toks := tk + 1 }) ho fun h'' he' sb => ?_⟩
    have hT2 : h''.get? s.heap.objs.size = some { cls := .type "tuple", data := .seq #[.int i tk, x'] } := (sb.2 _ (Nat.ne_of_gt hel)).trans hT
    have new : ObjOk X.prog X.w (upd H s.heap.objs.size (.tup [.int (i : Nat), x])) h'' s.heap.objs.size (.tup [.int (i : Nat), x]) :=
      ⟨by show 2 ≤ sizeLine; decide, [.int i tk, x'], .cons ⟨_, rfl⟩ (.cons ru .nil), ⟨_, hT2, rfl, _, rfl⟩⟩
    have I1 : Inv X pins σ (upd H s.heap.objs.size (.tup [.int (i : Nat), x])) { s with heap := h'', toks := tk + 1 } :=
      I.turnedNew (ch := [e, it]) (fun b ob hb q => (sb.2 b (fun z => hb (by simp [z]))).trans (hk b ob (fun z => hb (by simp [z])) (fun z => hb (by simp [z])) q)) hf (Nat.le_refl _) new
    refine ⟨.ref s.heap.objs.size, _, I1, rfl, ⟨_, x, rfl, I.hok.fresh (Nat.le_refl _), rfl, fun ys hy => by rw [I.tuple_inj hy hq]; exact hx⟩, ⟨⟨x', ?_⟩, hit'.at fun o q => (sb.2 it (Ne.symm hne)).trans q, hne⟩, fun b hb => ?_⟩
    · have e1 : ((i + 1 : Nat) : Int) = (i : Int) + 1 := by omega
      rw [e1]; exact he'
    · have hb' : b < s.heap.objs.size := by
        have e' : b = e ∨ b = it := by simpa using hb
        rcases e' with z | z
        · rw [z]; exact hel
        · rw [z]; exact hil
      rw [upd_ne (Nat.ne_of_lt hb')]
      exact (hf b hb).1
  done := by
    intro X hP hw hK hc i pins s σ H E I hf st hg
    subst hP hw hK
    obtain ⟨⟨old, he⟩, hit, hne⟩ := st
    obtain ⟨xs, hq, hx⟩ := hg
    obtain ⟨its, rv, p, hz⟩ := I.tuple hq
    obtain ⟨f0, f1, f2, f3, f4, f5⟩ := hf it (by simp)
    have hl := rv.length
    have hT : s.TypeIs (.ref e) "enumerate" := ⟨_, he, rfl⟩
    unfold pyNext
    refine wpAny_bind (wpAny_attempt (wpAny_callSpecial?_slot (name := Str.ofString "__next__") hT F.slot_enumerate_next
      (wpAny_call_entry F.slot_enumerate_next hT F.entry_enumerate_next ?_ (F.args_enumerate_next_1 _))))
    show wpAny _ _ (field (.ref e) 2 >>= _) _ _ _
    refine wpAny_bind (wpAny_field he rfl (x := .ref it) rfl ?_)
    refine wpAny_bind (wpAny_nextOf_tuple_end (I.ok.hd hc) hit p (by simp; omega) fun h' x he' hx' => ?_)
    obtain ⟨o, ho, hc⟩ := hx'
    refine wpAny_bind (wpAny_isInstance (T := "StopIteration") (b := true) ⟨o, ho, hc⟩ isSubtype_stop ?_)
    exact wpAny_pure ⟨rfl, I.turned (t' := s.toks) (fun b o hb q => he' b o hb q) f0 f1 f3 f4 f5⟩
  self := fun A i s Q E st h => let ⟨⟨_, he⟩, _⟩ := st; wpAny_pyIter_enum he h
def iEnumT (K : PySem.W.Frag) (ta : TA) : TI := fun σ H R => ta σ H fun vs H1 => ∃ a xs, vs = [.ref a] ∧ SqT K H1 a xs ∧ R (IteT K a) H1
theorem pi_enumT {X : Cx} {e : Expr} {ta : TA} {p pos tpos : Pos} {elts : List Expr} {kk : Nat} (hg : Gl X "enumerate") (hm : X.mg "enumerate" = none) (ha : PA X [e] ta) (hs : starEach [e] X.env = [(false, eval e X.env)] := by rfl) :
    PI X (.Tuple elts kk tpos) (.Call (.Name "enumerate" p) [e] [] pos) (iEnumT X.K ta) := by
  refine ⟨fun pins s σ H R I h => ?_⟩
  refine Call_ (ld_blt I hg hm boot_enumerate (PyProof.Rows.callWith_type1 (thn (ha.run pos pins s σ H _ I h) fun us s1 ⟨vs, H1, I1, r1, q1⟩ => ?_) hs rfl))
  obtain ⟨a, xs, ex, hq, q⟩ := q1
  subst ex
  cases r1 with
  | cons r rr =>
    cases rr
    cases r
    obtain ⟨its, rv, p', hz⟩ := I1.tuple hq
    refine call_enumerate_tuple p' fun h' he hit hsz hk => wpAny_pyIter_enum he ?_
    have I2 : Inv X pins σ H1 { s1 with heap := h' } := I1.kept (t' := s1.toks) hk
    refine ⟨s1.heap.objs.size + 1, [s1.heap.objs.size + 1, s1.heap.objs.size], _, _, H1, rfl, I2, turn_enumT a (s1.heap.objs.size + 1) s1.heap.objs.size, ⟨⟨.none, he⟩, hit, Nat.succ_ne_self _⟩, fun b hb => ?_, q⟩
    have e' : b = s1.heap.objs.size + 1 ∨ b = s1.heap.objs.size := by simpa using hb
    have hle : s1.heap.objs.size ≤ b := by
      rcases e' with z | z
      · rw [z]; exact Nat.le_add_right _ _
      · rw [z]; exact Nat.le_refl _
    exact I1.fpOk hle (I1.hok.fresh hle)
theorem walk_enumT {K : PySem.W.Frag} {F : Hp} {l : Addr} {xs : List D} {vs : List V} (h1 : TupAt F l vs) (h2 : IsAll F xs vs) : WalkF (IteT K l) F (enumD xs) := fun F2 H2 e hs => by
  have hl : SqT K H2 l vs := ((h1.mono e).mono hs).sq
  refine ⟨fun i x ex => ?_, fun i hi => ⟨vs, hl, by rw [← h2.length, ← enumD_len]; exact hi⟩⟩
  obtain ⟨y, ey, rfl⟩ := enumD_get ex
  obtain ⟨v, g1, g2⟩ := h2.get ey
  refine ⟨⟨vs, v, hl, g1⟩, fun u H3 yl => ?_⟩
  obtain ⟨T, z, rfl, nT, rfl, g3⟩ := yl
  have e2 := (g3 vs hl).symm.trans g1
  cases e2
  exact ⟨_, pair_new hs nT (.int _) (g2.mono e)⟩
theorem xf_enum {X : Cx} {a : Expr} {ea : Ex} {p pos tpos : Pos} {elts : List Expr} {kk : Nat} (hg : Gl X "enumerate") (hm : X.mg "enumerate" = none) (ha : XE X a ea)
    (hs : starEach [a] X.env = [(false, eval a X.env)] := by rfl) (hs2 : starEach [a] X.env = (false, eval a X.env) :: starEach [] X.env := by rfl) :
    XF X (.Tuple elts kk tpos) (.Call (.Name "enumerate" p) [a] [] pos) (Kx.iEnum ea) := pi_by fun σ H R q => by
  obtain ⟨F0, H0, F, rho, s, xs, rl, h, k⟩ := q
  obtain ⟨ys, h1, h2⟩ := oB_some h
  cases h2
  obtain ⟨x, hx, h3⟩ := oB_some h1
  cases x with
  | lst zs => cases h3; exact xf_enumL hg hm ha rl hx k hs hs2
  | tup zs =>
    cases h3
    refine ⟨_, pi_enumT hg hm (pa1 ha hs2) hs, tE1 rl hx fun F' H' v st iv => ?_⟩
    obtain ⟨l, vs, rfl, g1, g2⟩ := Is.tup_eq iv
    exact ⟨l, vs, rfl, (g1.mono st.s).sq, k _ F' H' st (walk_enumT g1 g2)⟩
  | _ => cases h3

/-! ### repr -/
theorem reprS_eq (i : Int) : (toString i : Str) = reprS i := rfl
theorem cal_repr {X : Cx} : CalK X (.builtin "repr") fRepr := fun F0 H0 F rho s σ H x d Q R h q => by
  obtain ⟨i, rfl, h1⟩ := gI_some h
  obtain ⟨h2, h3⟩ := ck_some h1
  cases h3
  have b := okI_lt h2
  refine ⟨_, SkE.call_repr_int, fun F' H' v st iv => ⟨i, by rw [v_int iv], ?_, q F' H' _ st (IsV.of (.rep i))⟩⟩
  have h4 : i.natAbs < 2 ^ 21 := by omega
  by_cases h0 : i.natAbs = 0
  · rw [h0]; decide
  · exact Nat.lt_of_lt_of_le ((Nat.log2_lt h0).mpr h4) (by decide)
end Kx

/-! KxW: sorted, set, len(set), min of four. -/
namespace Kx
open PySem L2 PyProof.Rows
/-! ### lists of ints in order -/
theorem insI_perm (i : Int) : ∀ l : List Int, (insI i l).Perm (i :: l)
  | [] => .refl _
  | j :: r => by
    show (@Bool.rec (fun _ => List Int) (j :: insI i r) (i :: j :: r) (leI i j)).Perm _
    cases leI i j with
    | true => exact .refl _
    | false => exact ((insI_perm i r).cons j).trans (.swap i j r)
theorem srtI_perm : ∀ l : List Int, (srtI l).Perm l
  | [] => .refl _
  | i :: r => (insI_perm i (srtI r)).trans ((srtI_perm r).cons i)
theorem insI_rises (i : Int) : ∀ l : List Int, l.Pairwise (· ≤ ·) → (insI i l).Pairwise (· ≤ ·)
  | [], _ => List.pairwise_singleton _ _
  | j :: r, h => by
    obtain ⟨h1, h2⟩ := List.pairwise_cons.mp h
    show (@Bool.rec (fun _ => List Int) (j :: insI i r) (i :: j :: r) (leI i j)).Pairwise _
    rw [leI_eq]
    by_cases e : i ≤ j
    · rw [decide_eq_true e]
      refine List.pairwise_cons.mpr ⟨fun y hy => ?_, h⟩
      rcases List.mem_cons.mp hy with z | hy
      · rw [z]; exact e
      · exact Int.le_trans e (h1 y hy)
    · rw [decide_eq_false e]
      refine List.pairwise_cons.mpr ⟨fun y hy => ?_, insI_rises i r h2⟩
      rcases List.mem_cons.mp ((insI_perm i r).mem_iff.mp hy) with z | hy
      · rw [z]; omega
      · exact h1 y hy
theorem srtI_rises : ∀ l : List Int, (srtI l).Pairwise (· ≤ ·)
  | [] => List.Pairwise.nil
  | i :: r => insI_rises i _ (srtI_rises r)
theorem srt_one {ns ms : List Int} (h : ms.Perm ns) (r : ms.Pairwise (· ≤ ·)) : ms = srtI ns :=
  List.Perm.eq_of_pairwise (fun _ _ _ _ a b => Int.le_antisymm a b) r (srtI_rises ns) (h.trans (srtI_perm ns).symm)
theorem memI_iff (i : Int) : ∀ l : List Int, memI i l = true ↔ i ∈ l
  | [] => ⟨fun h => (nomatch h), fun h => (nomatch h)⟩
  | j :: r => by
    show @Bool.rec (fun _ => Bool) (memI i r) true (eqI j i) = true ↔ _
    rw [eqI_eq]
    by_cases e : j = i
    · rw [decide_eq_true e, e]; simp
    · rw [decide_eq_false e]
      show memI i r = true ↔ _
      rw [memI_iff i r, List.mem_cons]
      exact ⟨.inr, fun h => h.elim (fun z => (e z.symm).elim) id⟩
theorem dedI_cons (i : Int) (r : List Int) : dedI (i :: r) = if i ∈ r then dedI r else i :: dedI r := by
  show @Bool.rec (fun _ => List Int) (i :: dedI r) (dedI r) (memI i r) = _
  by_cases h : i ∈ r
  · rw [if_pos h, (memI_iff i r).mpr h]
  · rw [if_neg h]
    cases e : memI i r with
    | true => exact (h ((memI_iff i r).mp e)).elim
    | false => rfl
theorem dedI_mem (k : Int) : ∀ l : List Int, k ∈ dedI l ↔ k ∈ l
  | [] => Iff.rfl
  | i :: r => by
    rw [dedI_cons]
    by_cases h : i ∈ r
    · rw [if_pos h, dedI_mem k r, List.mem_cons]
      exact ⟨.inr, fun q => q.elim (fun z => by rw [z]; exact h) id⟩
    · rw [if_neg h, List.mem_cons, List.mem_cons, dedI_mem k r]
theorem dedI_nodup : ∀ l : List Int, (dedI l).Nodup
  | [] => List.nodup_nil
  | i :: r => by
    rw [dedI_cons]
    by_cases h : i ∈ r
    · rw [if_pos h]; exact dedI_nodup r
    · rw [if_neg h]; exact List.nodup_cons.mpr ⟨fun q => h ((dedI_mem i r).mp q), dedI_nodup r⟩
theorem nodup_lt : ∀ {l : List Int}, l.Pairwise (· < ·) → l.Nodup
  | [], _ => List.nodup_nil
  | i :: r, h => by
    obtain ⟨h1, h2⟩ := List.pairwise_cons.mp h
    exact List.nodup_cons.mpr ⟨fun q => absurd (h1 i q) (Int.lt_irrefl i), nodup_lt h2⟩
theorem srt_ded {ns ms : List Int} (r : ms.Pairwise (· < ·)) (h : ∀ k, k ∈ ms ↔ k ∈ ns) : ms = srtI (dedI ns) :=
  srt_one ((List.perm_ext_iff_of_nodup (nodup_lt r) (dedI_nodup ns)).mpr fun k => (h k).trans (dedI_mem k ns).symm) (r.imp Int.le_of_lt)
theorem len_ded {ns ms : List Int} (d : ms.Nodup) (h : ∀ k, k ∈ ms ↔ k ∈ ns) : ms.length = (dedI ns).length :=
  ((List.perm_ext_iff_of_nodup d (dedI_nodup ns)).mpr fun k => (h k).trans (dedI_mem k ns).symm).length_eq
theorem dedI_len : ∀ l : List Int, (dedI l).length ≤ l.length
  | [] => Nat.le_refl _
  | i :: r => by
    rw [dedI_cons]
    by_cases h : i ∈ r
    · rw [if_pos h]; exact Nat.le_succ_of_le (dedI_len r)
    · rw [if_neg h]; exact Nat.succ_le_succ (dedI_len r)
theorem len64 {ns : List Int} (h : Nat.blt (len ns) 64 = true) : ns.length < 64 := by
  rw [len_eq] at h
  simpa [Nat.blt_eq] using h

/-! ### sorted(t) -/
theorem sorted_ints_tup {prog : Program} {w : World} {A : Around} {E : Value → Shared → Prop} {s : Shared} {l : Addr} {vs : List Value} {ns : List Int} {Q : Value → Shared → Prop} (hl : IsTup s.heap l vs.toArray) (hI : IntsAre vs ns) (h64 : vs.length < 64)
    (h : ∀ (h1 h' : Heap) (out : Array Value) (ns' : List Int) (c : Nat), (∀ b o, s.heap.get? b = some o → h1.get? b = some o) → (∀ b o, h1.get? b = some o → h'.get? b = some o) → h'.get? h1.objs.size = some (seqObj "list" out c) → IntsAre out.toList ns' → ns'.Perm ns → ns'.Pairwise (· ≤ ·) → Q (.ref h1.objs.size) { s with heap := h' }) :
    wpAny (model prog w) A (call (.builtin "sorted") [.ref l]) Q E s := by
  have hz : vs.length ≤ sizeLine := by rw [sizeLine_eq]; omega
  refine Calls.call_function_entry kind_sorted plain_sorted entry_sorted (args_sorted1 _) ?_
  unfold Builtin.«sorted»
  refine wpAny_bind (m := checkCount "sorted" 1 1 _) (wpAny_pure ?_)
  obtain ⟨o, ho, hc, n, hd⟩ := hl
  refine wpAny_bind (wpAny_collect_seq l (.inr rfl) ho hc hd (fun h1 hk => ?_) (by rw [List.size_toArray]; exact hz))
  rw [show vs.toArray.toList = vs by simp]
  refine wpAny_bind (wpAny_newList ?_ hz)
  have hoL : (h1.push (seqObj "list" vs.toArray 0)).get? h1.objs.size = some (seqObj "list" vs.toArray 0) := Heap.get?_push_size _ rfl
  refine wpAny_bind (wpAny_holding (wpAny_call_entry slot_list_sort ⟨_, hoL, rfl⟩ entry_list_sort (list_sort_tree hoL hI h64 fun out ns' a1 a2 a3 => ⟨_, rfl, ?_⟩) (args_list_sort _)))
  obtain ⟨c, hc2⟩ := sortedHeap_at (vs := vs) (out := out) hoL
  refine wpAny_pure ⟨_, rfl, h h1 _ out ns' c hk (fun b u q => ?_) hc2 a1 a2 a3⟩
  have hlt := Heap.lt_size q
  show (sortedHeap (h1.push (seqObj "list" vs.toArray 0)) h1.objs.size vs out).get? b = some u
  rw [sortedHeap_old (Nat.ne_of_lt hlt) (by rw [size_push']; exact Nat.lt_succ_of_lt hlt)]
  exact Heap.get?_push_of_some _ q
def rSortT (K : PySem.W.Frag) : List V → Hp → VK → Prop := fun vs H Q => ∃ (a : Addr) (ns : List Int), vs = [V.ref a] ∧ SqT K H a (ns.map V.int) ∧ ns.length < 64 ∧
  ∀ (ns' : List Int) (p : Addr), ns'.Perm ns → ns'.Pairwise (· ≤ ·) → H p = none → Q (.ref p) (upd H p (.lst (ns'.map V.int)))
def rSort2 (K : PySem.W.Frag) : List V → Hp → VK → Prop := fun vs H Q => rSorted K vs H Q ∨ rSortT K vs H Q
theorem cr_sort2 {X : Cx} : CallR X (.builtin "sorted") (rSort2 X.K) := by
  intro pins s σ H vs us Q I r h
  rcases h with h | h
  · exact cr_sorted pins s σ H vs us Q I r h
  obtain ⟨a, ns, rfl, hs, h64, q⟩ := h
  obtain ⟨its, rv, hl, hz⟩ := I.tuple hs
  rw [Vals.ref1 r]
  have hi := ints_of_vals rv
  refine sorted_ints_tup hl hi (by rw [hi.length]; exact h64) fun h1 h' out ns' c k1 k2 hg a1 a2 a3 => ?_
  have I1 : Inv X pins σ H { s with heap := h1 } := I.kept (t' := s.toks) k1
  have hlen : (ns'.map V.int).length ≤ sizeLine := by rw [List.length_map, a2.length_eq]; exact small64 h64
  exact ⟨.ref h1.objs.size, upd H h1.objs.size (.lst (ns'.map V.int)), I1.laid (t' := s.toks) k2 (Nat.le_refl _) ⟨hlen, out.toList, c, vals_of_ints a1, hg⟩, rfl, q ns' _ a2 a3 (I1.hok.fresh (Nat.le_refl _))⟩
theorem cal_sorted {X : Cx} : CalL X (.builtin "sorted") fSorted := fun F0 H0 F rho s σ H x ds Q R h q => by
  obtain ⟨xs, h1, h2⟩ := oB_some h
  obtain ⟨ns, h3, h4⟩ := oB_some h2
  obtain ⟨h5, h6⟩ := ck_some h4
  cases h6
  have z := len64 h5
  refine ⟨_, cr_sort2, fun F' H' v st iv => ?_⟩
  obtain ⟨a, vs, rfl, k1, k2⟩ := items_at (R.step st) iv h1
  obtain rfl := ints_at k2 h3
  have fin : ∀ (ns' : List Int) (p : Addr), ns'.Perm ns → ns'.Pairwise (· ≤ ·) → H' p = none → Q (.ref p) (upd H' p (.lst (ns'.map V.int))) := fun ns' p hp hr np => by
    rw [srt_one hp hr]
    exact q F' _ p _ (st.trans (Step.own st.s np)) (st.h.free np) (st.s.free np) L2.upd_same (is_ints _)
  rcases k1 with k1 | k1
  · exact .inl ⟨a, ns, rfl, SqL.of k1, z, fin⟩
  · exact .inr ⟨a, ns, rfl, k1.sq, z, fin⟩

/-! ### set(xs) of a list of ints: the library has tuples -/
section
variable {P : Program} {w : World} {A : Around} {E : Value → Shared → Prop} {s : Shared}
set_option maxRecDepth 100000 in
set_option maxHeartbeats 3200000 in
theorem call_set_lstI {l : Addr} {items : Array Value} (ns : List Int) {Q : Value → Shared → Prop} (hh : A.handled = none) (hl : s.heap.IsList l items) (hit : IntsAre items.toList ns) (hb : ns.length + 1 < scanBound)
    (h : ∀ (h' : Heap) (tk c : Nat), SetR w h' s.heap.objs.size (fun j => decide (j ∈ ns)) c → c ≤ ns.length → (∀ b o, s.heap.get? b = some o → h'.get? b = some o) → Q (.ref s.heap.objs.size) { s with heap := h', toks := tk }) :
    wpAny (model P w) A (call (.type "set") [.ref l]) Q E s := by
  have hisz : items.size = ns.length := by
    have q := IntsAre.length hit
    rw [Array.length_toList] at q
    exact q
  obtain ⟨c, tl, hmro⟩ := F.called_set.mro
  have hmade := F.called_set.made
  have hsub := F.called_set.sub
  refine wpAny_call (codeAny_of_tree ?_)
  show wpAny _ _ (callAny (.type "set") _) _ _ _
  refine wpAny_pure ⟨Code.quiet_builtin _ (by decide +kernel), codeAny_builtin F.entry_type_call ?_⟩
  rw [Around.under_plain (weight_type_call_type "set" [.ref l] []) rfl]
  have h1 := F.called_set.notType
  have h2 := F.called_set.canCreate
  have hct := F.typeCall_set_1 (.ref l)
  repeat (any_goals (first | assumption | wp_step))

  refine codeAny_mono (code_set_led1 (.ref l) (E := E) (Q₁ := fun obj s₁ => obj = .ref s.heap.objs.size ∧ s₁ = { s with heap := s.heap.push { cls := .type "set", dict := none, data := .set #[] 0 (.fresh 0 0 (!w.params.followText "set-order")) } }) ⟨rfl, rfl⟩) fun r s₁ hr => ?_
  cases r with
  | error e => exact hr
  | ok fl =>
    cases fl with
    | ret obj =>
      obtain ⟨rfl, rfl⟩ := hr
      have hS : (s.heap.push { cls := .type "set", dict := none, data := .set #[] 0 (.fresh 0 0 (!w.params.followText "set-order")) }).get? s.heap.objs.size = some { cls := .type "set", dict := none, data := .set #[] 0 (.fresh 0 0 (!w.params.followText "set-order")) } := Heap.get?_push_size _ rfl
      have hT : Shared.TypeIs { s with heap := s.heap.push { cls := .type "set", dict := none, data := .set #[] 0 (.fresh 0 0 (!w.params.followText "set-order")) } } (.ref s.heap.objs.size) "set" := ⟨_, hS, rfl⟩
      have hli := F.called_set.init.lookup
      have hbi := F.called_set.init.bind (.ref s.heap.objs.size)
      repeat (any_goals (first | assumption | wp_step))

      refine codeAny_mono (codeAny_call_builtin (R := wants (fun r s₂ => r = .none ∧ ∃ h' tk c, s₂ = { s with heap := h', toks := tk } ∧ SetR w h' s.heap.objs.size (fun j => decide (j ∈ ns)) c ∧ c ≤ ns.length ∧
          (∀ b o, s.heap.get? b = some o → h'.get? b = some o)) E) F.called_set.init.plain F.entry_set_init (check_set_init_1 hT ?_)) fun r₂ s₂ hr₂ => ?_
      · obtain ⟨ol, hol, hcl, nl, hdl⟩ := hl
        obtain ⟨ocls, odict, odata, oslots⟩ := ol
        simp only at hcl hdl
        subst hcl; subst hdl
        have hol' : (s.heap.push { cls := .type "set", dict := none, data := .set #[] 0 (.fresh 0 0 (!w.params.followText "set-order")) }).get? l = some { cls := .type "list", dict := odict, data := .seq items nl, slots := oslots } := Heap.get?_push_of_some _ hol
        have hsls := F.sub_list_set
        have hslf := F.sub_list_frozenset
        have hne : (Value.type "list" == Value.type "dict") = false := by decide
        have hl1 : (s.heap.push { cls := .type "set", dict := none, data := .set #[] 0 (.fresh 0 0 (!w.params.followText "set-order")) }).IsList l items := ⟨_, hol', rfl, nl, rfl⟩
        unfold Builtin.«set.__init__» noKeywords Builtin.Frozenset.updateFrom
        generalize hPI : pyIter = PI
        wp_walk
        subst hPI

        refine wpAny_pyIter_list hl1 ?_
        refine wpAny_bind (wpAny_runValue ?_)
        have hlS : l < s.heap.objs.size := Heap.lt_size hol
        have hh3 : A.in1.in1.in1.handled = none := by simp [hh]
        have hz1 : (s.heap.push { cls := .type "set", dict := none, data := .set #[] 0 (.fresh 0 0 (!w.params.followText "set-order")) }).objs.size = s.heap.objs.size + 1 := Heap.size_push ..
        have hneI : l ≠ (s.heap.push { cls := .type "set", dict := none, data := .set #[] 0 (.fresh 0 0 (!w.params.followText "set-order")) }).objs.size := by
          rw [Heap.size_push]; exact Nat.ne_of_lt (Nat.lt_succ_of_lt hlS)
        have hSf : s.heap.objs.size ∉ [(s.heap.push { cls := .type "set", dict := none, data := .set #[] 0 (.fresh 0 0 (!w.params.followText "set-order")) }).objs.size, l] := by
          rw [Heap.size_push]; simp only [List.mem_cons, List.mem_singleton, List.not_mem_nil, or_false, not_or]
          exact ⟨Nat.ne_of_lt (Nat.lt_succ_self _), Nat.ne_of_gt hlS⟩
        have hval : ∀ (i : Nat) (v : Value), items[i]? = some v → ∃ k t, ns[i]? = some k ∧ v = .int k t := fun i v hv => by
          have hi : i < ns.length := by rw [← hisz]; exact (Array.getElem?_eq_some_iff.mp hv).1
          obtain ⟨t, e⟩ := PyProof.Rows.IntsAre.int_at hit i v (by rw [Array.getElem?_toList]; exact hv)
          refine ⟨ns[i], t, List.getElem?_eq_getElem hi, ?_⟩
          rw [e, List.getD_eq_getElem?_getD, List.getElem?_eq_getElem hi] <;> rfl
        refine set_update_ints ((Walks.list hh3 _ l hneI items).toS) s.heap.objs.size
          hSf ns hisz hb hval (items.size - 0) 0 _ (by omega) (Nat.zero_le _)
          ⟨⟨_, Heap.get?_push_size _ rfl, rfl, rfl⟩, (hl1.push _)⟩ ?hS0 ?hR
        case hS0 =>
          have hget : ((s.heap.push { cls := .type "set", dict := none, data := .set #[] 0 (.fresh 0 0 (!w.params.followText "set-order")) }).push { cls := .type "list_iterator", data := .fields #[.ref l, .int 0 0] }).get? s.heap.objs.size
              = some { cls := .type "set", dict := none, data := .set #[] 0 (.fresh 0 0 (!w.params.followText "set-order")) } := Heap.get?_push_of_some _ hS
          exact ⟨0, Nat.le_refl 0, setR_new_at hget⟩
        case hR =>
          intro s' c' hm hc' hS'
          obtain ⟨h', g2, d', tk', os'⟩ := s'
          have eg : g2 = s.gens := hm.gens
          have ed : d' = s.drawn := hm.drawn
          have eo : os' = s.os := hm.os
          subst eg; subst ed; subst eo
          show wpAny _ _ _ _ _ _
          refine wpAny_pure ?_
          show wpAny _ _ (ret Value.none) _ _ _
          rw [hisz] at hc'
          refine wpAny_pure ⟨rfl, h', tk', c', rfl, hS', hc', fun b o e => ?_⟩
          have hb0 : b < s.heap.objs.size := Heap.lt_size e
          have hb1 : b ≠ s.heap.objs.size := Nat.ne_of_lt hb0
          have hb2 : b ≠ (s.heap.push { cls := .type "set", dict := none, data := .set #[] 0 (.fresh 0 0 (!w.params.followText "set-order")) }).objs.size := by
            rw [Heap.size_push]; exact Nat.ne_of_lt (Nat.lt_succ_of_lt hb0)
          exact hm.heap b o (by simp only [List.mem_cons, List.mem_singleton, List.not_mem_nil, or_false, not_or]; exact ⟨hb1, hb2⟩) (Heap.get?_push_of_some _ (Heap.get?_push_of_some _ e))

      · cases r₂ with
        | error e => exact hr₂
        | ok fl₂ =>
          cases fl₂ with
          | ret r =>
            obtain ⟨rfl, h', tk, c', rfl, hS', hc', hk'⟩ := hr₂
            repeat (any_goals (first | assumption | wp_step))
            exact h _ _ _ hS' hc' hk'
          | _ => exact hr₂.elim
    | _ => exact hr.elim


end
/-- set(xs) -/
def rSetI (K : PySem.W.Frag) (w : World) : List V → Hp → VK → Prop := fun vs H Q => ∃ (a : Addr) (ns : List Int), vs = [V.ref a] ∧ (SqL K H a (ns.map V.int) ∨ SqT K H a (ns.map V.int)) ∧ ns.length < 64 ∧
  ∀ (p : Addr) (c : Nat), H p = none → c ≤ ns.length → Q (.ref p) (upd H p (SetO w p (fun j => decide (j ∈ ns)) c))
theorem cr_setI {X : Cx} (hc : X.calm = true) : CallR X (.type "set") (rSetI X.K X.w) := by
  intro pins s σ H vs us Q I r h
  obtain ⟨a, ns, rfl, hs, h64, q⟩ := h
  have hb : ns.length + 1 < scanBound := Nat.lt_of_le_of_lt (show ns.length + 1 ≤ 64 from h64) (by decide)
  rw [Vals.ref1 r]
  have fin : ∀ (h' : Heap) (tk c : Nat), SetR X.w h' s.heap.objs.size (fun j => decide (j ∈ ns)) c → c ≤ ns.length → (∀ b o, s.heap.get? b = some o → h'.get? b = some o) → EP X pins σ Q (.ref s.heap.objs.size) { s with heap := h', toks := tk } := fun h' tk c hR hcl k =>
    ⟨.ref s.heap.objs.size, upd H s.heap.objs.size (SetO X.w s.heap.objs.size (fun j => decide (j ∈ ns)) c), I.laid (t' := tk) k (Nat.le_refl _) (setO_new hR), rfl, q _ c (I.hok.fresh (Nat.le_refl _)) hcl⟩
  rcases hs with hs | hs
  · obtain ⟨its, rv, hl, hz⟩ := I.list hs
    have hi := ints_of_vals rv
    exact call_set_lstI ns (I.ok.hd hc) hl.isList (by simpa using hi) hb fin
  · obtain ⟨its, rv, hl, hz⟩ := I.tuple hs
    have hi := ints_of_vals rv
    exact call_set_tupI ns (I.ok.hd hc) hl (by simpa using hi) hb fin
theorem cr_lenSet {X : Cx} : CallR X (.builtin "len") (fun vs H Q => ∃ (a : Addr) (ns : List Int) (c : Nat), vs = [V.ref a] ∧ H a = some (SetO X.w a (fun j => decide (j ∈ ns)) c) ∧ c < 64 ∧ Q (.int ((dedI ns).length : Nat)) H) := by
  intro pins s σ H vs us Q I r h
  obtain ⟨a, ns, c, rfl, ha, h64, q⟩ := h
  rw [Vals.ref1 r]
  obtain ⟨o, es, ep, t, ho, hex, hd, g, nd, hm, hb, hf, hn, _, _⟩ := setO_get I ha
  have hlen : es.size = (dedI ns).length := by
    have z := len_ded (ns := ns) nd fun k => by rw [← hm k, decide_eq_true_eq]
    rw [List.length_map, Array.length_toList] at z
    exact z
  refine call_len_set ho hex hd hf (by omega) ?_
  rw [hlen]
  exact ⟨.int ((dedI ns).length : Nat), H, I.tok _, ⟨_, rfl⟩, q⟩
section
variable {X : Cx} {a : Expr} {ea : Ex} {p p2 pos pos2 : Pos}
theorem xl_sortedSet (hc : X.calm = true) (hg : Gl X "sorted") (hm : X.mg "sorted" = none) (hv : bootBuiltins "sorted" = some (.builtin "sorted")) (hg2 : Gl X "set") (hm2 : X.mg "set" = none) (ha : XE X a ea)
    (hs : starEach [Expr.Call (.Name "set" p2) [a] [] pos2] X.env = (false, eval (Expr.Call (.Name "set" p2) [a] [] pos2) X.env) :: starEach [] X.env := by rfl) (hs2 : starEach [a] X.env = (false, eval a X.env) :: starEach [] X.env := by rfl)
    (hpl : (backTo pos (starEach [] X.env)).any (·.1) = false := by rfl) (hpl2 : (backTo pos2 (starEach [] X.env)).any (·.1) = false := by rfl) :
    XL X (.Call (.Name "sorted" p) [.Call (.Name "set" p2) [a] [] pos2] [] pos) (lSortedSet ea) := pe_by fun σ H Q h => by
  obtain ⟨F0, H0, F, rho, s, ds, R, he, q⟩ := h
  obtain ⟨x, hx, h1⟩ := oB_some he
  obtain ⟨xs, h2, h3⟩ := oB_some h1
  obtain ⟨ns, h4, h5⟩ := oB_some h3
  obtain ⟨h6, h7⟩ := ck_some h5
  cases h7
  have z := len64 h6
  refine ⟨_, pe_callB (cr_sortedSet hc) hg hm hv (pa_cons (pe_callTy (cr_setI hc) hg2 hm2 boot_set (pa1 ha hs2) (by decide) (by decide) hs2 hpl2) pa_nil hs) (by decide) (by decide) hs hpl, tE1 R hx fun F' H' v st iv => ?_⟩
  obtain ⟨b, vs, rfl, k1, k2⟩ := items_at (R.step st) iv h2
  obtain rfl := ints_at k2 h4
  refine ⟨b, ns, rfl, k1.imp SqL.of TupAt.sq, z, fun p0 c np hcl => ?_⟩
  have st2 := st.trans (Step.own st.s np (o := SetO X.w p0 (fun j => decide (j ∈ ns)) c))
  refine ⟨p0, _, c, rfl, L2.upd_same, by omega, fun ns' p1 hr hmem hl np1 => ?_⟩
  rw [srt_ded (ns := ns) hr fun k => by rw [hmem k, decide_eq_true_eq]]
  exact q F' _ p1 _ (st2.trans (Step.own st2.s np1)) (st2.h.free np1) (st2.s.free np1) L2.upd_same (is_ints _)
theorem x_lenSet (hc : X.calm = true) (hg : Gl X "len") (hm : X.mg "len" = none) (hg2 : Gl X "set") (hm2 : X.mg "set" = none) (ha : XE X a ea)
    (hs : starEach [Expr.Call (.Name "set" p2) [a] [] pos2] X.env = (false, eval (Expr.Call (.Name "set" p2) [a] [] pos2) X.env) :: starEach [] X.env := by rfl) (hs2 : starEach [a] X.env = (false, eval a X.env) :: starEach [] X.env := by rfl)
    (hpl : (backTo pos (starEach [] X.env)).any (·.1) = false := by rfl) (hpl2 : (backTo pos2 (starEach [] X.env)).any (·.1) = false := by rfl) :
    XE X (.Call (.Name "len" p) [.Call (.Name "set" p2) [a] [] pos2] [] pos) (eLenSet ea) := pe_by fun σ H Q h => by
  obtain ⟨F0, H0, F, rho, s, d, R, he, q⟩ := h
  obtain ⟨x, hx, h1⟩ := oB_some he
  obtain ⟨xs, rfl, h3⟩ := gT_some h1
  obtain ⟨ns, h4, h5⟩ := oB_some h3
  obtain ⟨h6, h7⟩ := ck_some h5
  cases h7
  have z := len64 h6
  refine ⟨_, pe_callB cr_lenSet hg hm boot_len (pa_cons (pe_callTy (cr_setI hc) hg2 hm2 boot_set (pa1 ha hs2) (by decide) (by decide) hs2 hpl2) pa_nil hs) (by decide) (by decide) hs hpl, tE1 R hx fun F' H' v st iv => ?_⟩
  obtain ⟨b, vs, rfl, k1, k2⟩ := Is.tup_eq iv
  obtain rfl := ints_at (rho := rho) (nx := 0) k2.vs h4
  refine ⟨b, ns, rfl, .inr (k1.mono st.s).sq, z, fun p0 c np hcl => ?_⟩
  refine ⟨p0, ns, c, rfl, L2.upd_same, by omega, ?_⟩
  rw [← len_eq]
  exact q F' _ _ (st.trans (Step.own st.s np)) (IsV.of (.int _))
end

/-! ### min of four -/
theorem args_min4 (a b c d : Value) : argsOk "min" ⟨[a, b, c, d], []⟩ := by unfold argsOk; kernel_rfl
theorem min_four {prog : Program} {w : World} {A : Around} {E : Value → Shared → Prop} {s : Shared} {a b c d : Int} {t u x y : Tok} {Q : Value → Shared → Prop} (hh : A.handled = none)
    (h : ∀ h' tk M t', (∀ e o, s.heap.get? e = some o → h'.get? e = some o) → M ∈ [a, b, c, d] → (∀ z, z ∈ [a, b, c, d] → M ≤ z) → Q (.int M t') { s with heap := h', toks := tk }) :
    wpAny (model prog w) A (call (.builtin "min") [.int a t, .int b u, .int c x, .int d y]) Q E s := by
  have hname : (toString "min" ++ toString ".loop" : String) = "min.loop" := by decide
  refine call_function_tree F.kind_min F.plain_min F.entry_min (args_min4 _ _ _ _) ?_
  show wpAny _ A.in1 (Builtin.Builtins.bindParams "min" ["key", "default"] 0 ⟨[], []⟩ >>= _) _ _ s
  refine wpAny_bind (wpAny_of_eq (show Builtin.Builtins.bindParams "min" ["key", "default"] 0 ⟨[], []⟩ = pure [none, none] from rfl) ?_)
  show wpAny _ A.in1 (newTuple [.int a t, .int b u, .int c x, .int d y] >>= _) _ _ s
  refine wpAny_bind (wpAny_newObj_type ?_)
  have hT : (s.heap.push { cls := .type "tuple", data := .seq #[.int a t, .int b u, .int c x, .int d y] }).IsTuple s.heap.objs.size (intItems #[(a, t), (b, u), (c, x), (d, y)]) := ⟨_, Heap.get?_push_size _ rfl, rfl, 0, by simp [intItems]⟩
  refine wpAny_bind (wpAny_pyIter_tuple hT ?_)
  have hsz : (s.heap.push { cls := .type "tuple", data := .seq #[.int a t, .int b u, .int c x, .int d y] }).objs.size = s.heap.objs.size + 1 := Heap.size_push ..
  refine wpAny_bind (wpAny_newObj_type ?_)
  rw [hname]
  have W := Walks.tuple (prog := prog) (w := w) (A := A.in1) hh (s.heap.push { cls := .type "tuple", data := .seq #[.int a t, .int b u, .int c x, .int d y] }).objs.size s.heap.objs.size (by rw [hsz]; exact Nat.ne_of_lt (Nat.lt_succ_self _)) (intItems #[(a, t), (b, u), (c, x), (d, y)])
  generalize hh2 : ((s.heap.push { cls := .type "tuple", data := .seq #[.int a t, .int b u, .int c x, .int d y] }).push { cls := .type "tuple_iterator", data := .fields #[.ref s.heap.objs.size, .int 0 0] } : Heap) = h2
  have hz2 : h2.objs.size = s.heap.objs.size + 2 := by rw [← hh2, Heap.size_push, hsz]
  have st0 : h2.IsTupleIter (s.heap.push { cls := .type "tuple", data := .seq #[.int a t, .int b u, .int c x, .int d y] }).objs.size s.heap.objs.size 0 ∧ h2.IsTuple s.heap.objs.size (intItems #[(a, t), (b, u), (c, x), (d, y)]) := by
    rw [← hh2]
    exact ⟨⟨_, Heap.get?_push_size _ rfl, rfl, rfl⟩, hT.push _⟩
  have hold : ∀ e o, s.heap.get? e = some o → h2.get? e = some o := fun e o q => by
    rw [← hh2]
    exact Heap.get?_push_of_some _ (Heap.get?_push_of_some _ q)
  refine wpAny_pure ⟨plainId_quiet F.plain_min_loop _, codeAny_min_loop_first W (fun i j => decide (numAt #[(a, t), (b, u), (c, x), (d, y)] i < numAt #[(a, t), (b, u), (c, x), (d, y)] j)) (CmpOf.ints_lt (numAt #[(a, t), (b, u), (c, x), (d, y)]) (fun _ _ => intItems_at)) h2.objs.size (fun hm => ?_) (by simp [intItems])
    (W.frame _ _ _ st0 fun e _ o q => Heap.get?_push_of_some _ q) (Heap.get?_push_size _ rfl) fun v h' tk hP hk => ?_⟩
  · rw [hz2, hsz] at hm
    rcases List.mem_cons.mp hm with q | hm
    · exact absurd (show (s.heap.objs.size + 2 : Nat) = s.heap.objs.size + 1 from q) (by omega)
    · rcases List.mem_cons.mp hm with q | hm
      · exact absurd (show (s.heap.objs.size + 2 : Nat) = s.heap.objs.size from q) (by omega)
      · cases hm
  · obtain ⟨t', rfl⟩ := intItems_at hP
    obtain ⟨g1, g2⟩ := argBest_lt (numAt #[(a, t), (b, u), (c, x), (d, y)]) ((intItems #[(a, t), (b, u), (c, x), (d, y)]).size - 1)
    have e3 : (intItems #[(a, t), (b, u), (c, x), (d, y)]).size - 1 = 3 := by simp [intItems]
    rw [e3] at g1 g2 ⊢
    have vals : ∀ k, k ≤ 3 → numAt #[(a, t), (b, u), (c, x), (d, y)] k ∈ [a, b, c, d] := fun k hk3 => by
      match k, hk3 with
      | 0, _ => simp [numAt]
      | 1, _ => simp [numAt]
      | 2, _ => simp [numAt]
      | 3, _ => simp [numAt]
    refine h h' tk _ t' (fun e o q => ?_) (vals _ g1) fun z hz => ?_
    · refine hk e o (fun hm => ?_) (fun q2 => ?_) (Heap.get?_push_of_some _ (hold e o q))
      · have hlt := Heap.lt_size q
        rcases List.mem_cons.mp hm with q3 | hm
        · rw [q3, hsz] at hlt; exact absurd hlt (Nat.not_lt.mpr (Nat.le_succ _))
        · cases hm
      · have hlt := Heap.lt_size q
        rw [q2, hz2] at hlt
        exact absurd hlt (Nat.not_lt.mpr (Nat.le_add_right _ 2))
    · have n0 := g2 0 (by omega)
      have n1 := g2 1 (by omega)
      have n2 := g2 2 (by omega)
      have n3 := g2 3 (by omega)
      simp only [List.mem_cons, List.not_mem_nil, or_false] at hz
      rcases hz with rfl | rfl | rfl | rfl
      · exact n0
      · exact n1
      · exact n2
      · exact n3
theorem call_min4 {X : Cx} (hc : X.calm = true) : CallR X (.builtin "min") (fun vs H Q => ∃ a b c d : Int, vs = [.int a, .int b, .int c, .int d] ∧ ∀ M, M ∈ [a, b, c, d] → (∀ z, z ∈ [a, b, c, d] → M ≤ z) → Q (.int M) H) := by
  intro pins s σ H xs us Q I r h
  obtain ⟨a, b, c, d, rfl, q⟩ := h
  cases r with
  | cons r1 r =>
    cases r with
    | cons r2 r =>
      cases r with
      | cons r3 r =>
        cases r with
        | cons r4 r =>
          cases r
          obtain ⟨t1, rfl⟩ := r1
          obtain ⟨t2, rfl⟩ := r2
          obtain ⟨t3, rfl⟩ := r3
          obtain ⟨t4, rfl⟩ := r4
          exact min_four (I.ok.hd hc) fun h' tk M t' k m1 m2 => ⟨.int M, H, I.kept k, ⟨_, rfl⟩, q M m1 m2⟩
theorem isVs_ints {F : Hp} {rho : Nat → Addr} {nx : Nat} {xs : List D} {vs : List V} {ns : List Int} (h : IsVs F rho nx xs vs) (e : intsD xs = some ns) : vs = ns.map V.int := ints_at h e
theorem x_min4 {X : Cx} {a b c d : Expr} {ea eb ec ed : Ex} {p pos : Pos} (hc : X.calm = true) (hg : Gl X "min") (hm : X.mg "min" = none) (ha : XX X [a, b, c, d] [ea, eb, ec, ed])
    (hs : starEach [a, b, c, d] X.env = (false, eval a X.env) :: starEach [b, c, d] X.env := by rfl) (hpl : (backTo pos (starEach [b, c, d] X.env)).any (·.1) = false := by rfl) :
    XE X (.Call (.Name "min" p) [a, b, c, d] [] pos) (eMin4 ea eb ec ed) := pe_by fun σ H Q h => by
  obtain ⟨F0, H0, F, rho, s, d0, R, he, q⟩ := h
  obtain ⟨xs, h1, h2⟩ := oB_some he
  obtain ⟨ns, h3, h4⟩ := oB_some h2
  have hl := eArgs_len h1
  refine ⟨_, pe_callB (call_min4 hc) hg hm boot_min ha (by decide) (by decide) hs hpl, F0, H0, F, rho, s, xs, R, h1, fun F' H' vs st ivs => ?_⟩
  have l2 := Paired.length ivs
  obtain rfl := ints_at ivs h3
  rw [List.length_map] at l2
  match ns, l2, h4, hl with
  | [], l2, h4, hl => rw [hl] at l2; cases l2
  | i :: r, l2, h4, hl =>
    have l3 : (i :: r).length = 4 := l2.symm.trans hl
    cases h4
    match r, l3 with
    | [j, k, l], _ =>
      refine ⟨i, j, k, l, rfl, fun M m1 m2 => ?_⟩
      obtain ⟨g1, g2⟩ := minI_spec [j, k, l] i
      have e : M = minI i [j, k, l] := Int.le_antisymm (m2 _ g1) (g2 _ m1)
      rw [e]
      exact q F' H' _ st (IsV.of (.int _))
end Kx

/-! KxZ: list(zip(xs, ys)) with at most one pair. -/
namespace Kx
open PySem L2 PyProof.Rows
theorem zip_no_len : typeLookup (.type "zip") "__len__" = pure none := am_miss_of_fast (by decide +kernel)
theorem zip_no_hint : typeLookup (.type "zip") "__length_hint__" = pure none := am_miss_of_fast (by decide +kernel)
section
variable {X : Cx} {pins : List (Addr × Obj)} {σ : L2.St} {H : Hp} {s : Shared}
/-- what list(z) does, its list S being there: the items, one at most -/
theorem lz_loop {Q : VK} {z TI TO i1 i2 a b S : Addr} {its its2 : List Value} {xs ys : List V} {res : Value} {c4 : Nat} (hc : X.calm = true) (D : ZipApart z TI TO i1 i2 a b) (I : Inv X pins σ H s) (hz : IsZip s.heap z TI TO .none) (hTI : PySem.IsPair s.heap TI (.ref i1) (.ref i2)) {u0 v0 : Value} (hTO : PySem.IsPair s.heap TO u0 v0)
    (h1 : s.heap.IsListIter i1 a 0) (h2 : s.heap.IsListIter i2 b 0) (hl1 : s.heap.IsList a its.toArray) (hl2 : s.heap.IsList b its2.toArray) (r1 : Vals xs its) (r2 : Vals ys its2) (hle : xs.length ≤ 1 ∨ ys.length ≤ 1)
    (hf : ∀ c ∈ [z, TI, TO, i1, i2], FpOk X pins H c) (hS : H S = some (.lst [])) (hSo : s.heap.get? S = some { cls := .type "list", data := .seq #[] c4 }) (hSa : S ≠ a) (hSb : S ≠ b)
    (q0 : (xs = [] ∨ ys = []) → Q (.ref S) H) (q1 : ∀ x y, xs[0]? = some x → ys[0]? = some y → ∀ T, H T = none → Q (.ref S) (upd (upd H T (.tup [x, y])) S (.lst [.ref T]))) :
    codeAny (model X.prog X.w) X.A.in1 (.builtin "list.extend.loop" ⟨[.ref S, .ref z, res], []⟩) (wants (fun r s2 => r = res ∧ EP X pins σ Q (.ref S) s2) X.xe) s := by
  have hh : X.A.in1.in1.handled = none := I.ok.hd hc
  have nS : ∀ c ∈ [z, TI, TO, i1, i2], c ≠ S := fun c hcm e => by
    have q := (hf c hcm).1
    rw [e, hS] at q
    cases q
  have l1 := r1.length
  have l2 := r2.length
  refine codeAny_builtin F.entry_extend_loop ?_
  rw [Around.under_plainId F.plain_extend_loop _]
  show wpAny _ X.A.in1.in1 (pyNext (.ref z) >>= _) _ _ s
  by_cases he : xs = [] ∨ ys = []
  · have hend : its.toArray[0]? = none ∨ its2.toArray[0]? = none := by
      rcases he with q | q
      · subst q; cases r1; exact .inl rfl
      · subst q; cases r2; exact .inr rfl
    refine wpAny_bind (wpAny_pyNext_zip_end hh D hz hTI hTO h1 h2 hl1 hl2 hend fun h' hk => ?_)
    refine wpAny_pure ⟨rfl, .ref S, H, I.turnedL (t' := s.toks) (ch := [z, TI, TO, i1, i2]) (fun c o hb q => hk c o (fun q' => hb (by simp [q'])) (fun q' => hb (by simp [q'])) (fun q' => hb (by simp [q'])) (fun q' => hb (by simp [q'])) q) hf, rfl, q0 he⟩
  · cases r1 with
    | nil => exact (he (.inl rfl)).elim
    | @cons x u xs' us' ru rr1 =>
      cases r2 with
      | nil => exact (he (.inr rfl)).elim
      | @cons y v ys' vs' rv rr2 =>
        refine wpAny_bind (wpAny_pyNext_zip_item D hz hTI hTO h1 h2 hl1 hl2 (x := u) (y := v) rfl rfl fun h5 z5 TO5 h15 h25 hT5 hsz5 hk5 => ?_)
        have new : ObjOk X.prog X.w (upd H s.heap.objs.size (.tup [x, y])) h5 s.heap.objs.size (.tup [x, y]) :=
          ⟨by show 2 ≤ sizeLine; decide, [u, v], .cons ru (.cons rv .nil), ⟨_, hT5, rfl, _, rfl⟩⟩
        have nT : H s.heap.objs.size = none := I.hok.fresh (Nat.le_refl _)
        have I5 : Inv X pins σ (upd H s.heap.objs.size (.tup [x, y])) { s with heap := h5 } :=
          I.turnedNew (t' := s.toks) (ch := [z, TI, TO, i1, i2]) (fun c o hb q => hk5 c o (fun q' => hb (by simp [q'])) (fun q' => hb (by simp [q'])) (fun q' => hb (by simp [q'])) (fun q' => hb (by simp [q'])) q) hf (Nat.le_refl _) new
        have hS5 : (upd H s.heap.objs.size (.tup [x, y])) S = some (.lst []) := by
          rw [upd_ne (ne_of_none hS nT)]
          exact hS
        have nz := nS z (by simp)
        have nTI := nS TI (by simp)
        have nTO := nS TO (by simp)
        have n1 := nS i1 (by simp)
        have n2 := nS i2 (by simp)
        have hSo5 : h5.get? S = some { cls := .type "list", data := .seq #[] c4 } := hk5 S _ nz.symm nTO.symm n1.symm n2.symm hSo
        have I6 := I5.lset (its := []) (its' := [.ref s.heap.objs.size]) (f := (·.push (.ref s.heap.objs.size))) (t' := s.toks) hS5 hSo5 rfl (ys := [.ref s.heap.objs.size]) (.cons rfl .nil) (by show 1 ≤ sizeLine; decide)
        show wpAny _ X.A.in1.in1 (updateSeq S (·.push (.ref s.heap.objs.size)) >>= _) _ _ _
        refine wpAny_bind (wpAny_updateSeq hSo5 rfl (wpAny_pure ⟨plainId_quiet F.plain_extend_loop _, ?_⟩))
        have oth : ∀ c o, c ≠ S → h5.get? c = some o → (h5.update S (Obj.mapSeq (·.push (.ref s.heap.objs.size)))).get? c = some o := fun c o hcS e => (Heap.get?_update_other _ _ (Ne.symm hcS)).trans e
        refine codeAny_builtin F.entry_extend_loop ?_
        rw [Around.under_plainId F.plain_extend_loop _]
        show wpAny _ X.A.in1.in1 (pyNext (.ref z) >>= _) _ _ _
        have aTO : a ≠ TO := D.l1TO
        have bTO : b ≠ TO := D.l2TO
        have hend : (u :: us').toArray[0 + 1]? = none ∨ (v :: vs').toArray[0 + 1]? = none := by
          rcases hle with q | q
          · refine .inl ?_
            have : us' = [] := by
              have e := rr1.length
              rw [List.length_cons] at q
              exact List.eq_nil_of_length_eq_zero (by omega)
            subst this
            rfl
          · refine .inr ?_
            have : vs' = [] := by
              have e := rr2.length
              rw [List.length_cons] at q
              exact List.eq_nil_of_length_eq_zero (by omega)
            subst this
            rfl
        refine wpAny_bind (wpAny_pyNext_zip_end_held (T := s.heap.objs.size) (f := false) hh D (oth z _ nz z5) (oth _ _ (fun q => by have := Heap.lt_size hSo; rw [← q] at this; exact Nat.lt_irrefl _ this) hT5)
          (oth TI _ nTI (hk5 TI _ D.TIz D.TITO D.TIi1 D.TIi2 hTI)) (h15.at fun o q => oth i1 o n1 q) (h25.at fun o q => oth i2 o n2 q)
          ((hl1.at fun o q => hk5 a o D.l1z aTO D.l1i1 D.l1i2 q).at fun o q => oth a o hSa.symm q) ((hl2.at fun o q => hk5 b o D.l2z bTO D.l2i1 D.l2i2 q).at fun o q => oth b o hSb.symm q) hend fun h7 hk7 => ?_)
        have hf6 : ∀ c ∈ [z, TI, TO, i1, i2], FpOk X pins (upd (upd H s.heap.objs.size (.tup [x, y])) S (.lst [.ref s.heap.objs.size])) c := fun c hcm => by
          refine ⟨?_, (hf c hcm).2⟩
          rw [upd_ne (nS c hcm), upd_ne (fun q => ?_)]
          · exact (hf c hcm).1
          · have hlt : c < s.heap.objs.size := by
              have e' : c = z ∨ c = TI ∨ c = TO ∨ c = i1 ∨ c = i2 := by simpa using hcm
              rcases e' with q | q | q | q | q
              · rw [q]; exact Heap.lt_size hz
              · rw [q]; exact Heap.lt_size hTI
              · rw [q]; exact Heap.lt_size hTO
              · rw [q]; obtain ⟨_, e1, _⟩ := h1; exact Heap.lt_size e1
              · rw [q]; obtain ⟨_, e2, _⟩ := h2; exact Heap.lt_size e2
            rw [q] at hlt
            exact Nat.lt_irrefl _ hlt
        refine wpAny_pure ⟨rfl, .ref S, _, I6.turnedL (t' := s.toks) (ch := [z, TI, TO, i1, i2]) (fun c o hb q => hk7 c o (fun q' => hb (by simp [q'])) (fun q' => hb (by simp [q'])) (fun q' => hb (by simp [q'])) q) hf6, rfl, q1 x y rfl rfl _ nT⟩
theorem rl_listzip {Q : VK} {z TI TO i1 i2 a b : Addr} {xs ys : List V} (hc : X.calm = true) (D : ZipApart z TI TO i1 i2 a b) (I : Inv X pins σ H s) (hz : IsZip s.heap z TI TO .none) (hTI : PySem.IsPair s.heap TI (.ref i1) (.ref i2)) {u0 v0 : Value} (hTO : PySem.IsPair s.heap TO u0 v0)
    (h1 : s.heap.IsListIter i1 a 0) (h2 : s.heap.IsListIter i2 b 0) (hqx : SqL X.K H a xs) (hqy : SqL X.K H b ys) (hle : xs.length ≤ 1 ∨ ys.length ≤ 1) (hf : ∀ c ∈ [z, TI, TO, i1, i2], FpOk X pins H c)
    (q0 : (xs = [] ∨ ys = []) → ∀ S, H S = none → Q (.ref S) (upd H S (.lst [])))
    (q1 : ∀ x y, xs[0]? = some x → ys[0]? = some y → ∀ S T, H S = none → H T = none → T ≠ S → Q (.ref S) (upd (upd (upd H S (.lst [])) T (.tup [x, y])) S (.lst [.ref T]))) :
    wpAny (model X.prog X.w) X.A (call (.type "list") [.ref z]) (EP X pins σ Q) X.xe s := by
  obtain ⟨its, r1, p1, _⟩ := I.list hqx
  obtain ⟨its2, r2, p2, _⟩ := I.list hqy
  have la : a < s.heap.objs.size := p1.lt
  have lb : b < s.heap.objs.size := p2.lt
  have lz : z < s.heap.objs.size := Heap.lt_size hz
  have nS : H s.heap.objs.size = none := I.hok.fresh (Nat.le_refl _)
  have hlt : ∀ c ∈ [z, TI, TO, i1, i2], c < s.heap.objs.size := fun c hcm => by
    have e' : c = z ∨ c = TI ∨ c = TO ∨ c = i1 ∨ c = i2 := by simpa using hcm
    rcases e' with q | q | q | q | q
    · rw [q]; exact lz
    · rw [q]; exact Heap.lt_size hTI
    · rw [q]; exact Heap.lt_size hTO
    · rw [q]; obtain ⟨_, e1, _⟩ := h1; exact Heap.lt_size e1
    · rw [q]; obtain ⟨_, e2, _⟩ := h2; exact Heap.lt_size e2
  refine callType_codes (Q₁ := fun obj s₁ => obj = .ref s.heap.objs.size ∧ s₁ = { s with heap := s.heap.push { cls := .type "list", data := .seq #[] } }) F.called_list (F.typeCall_list_1 _) F.entry_list_init
    (code_list_new _ ⟨rfl, rfl⟩) fun obj s₁ h₁ => ?_
  obtain ⟨rfl, rfl⟩ := h₁
  have hS : (s.heap.push { cls := .type "list", data := .seq #[] }).get? s.heap.objs.size = some { cls := .type "list", data := .seq #[] } := Heap.get?_push_size _ rfl
  refine ⟨⟨_, hS, rfl⟩, F.args_list_init_2 _ _, ?_⟩
  show wpAny _ X.A.in1.in1 (do let old ← Builtin.List.listItems (.ref s.heap.objs.size); Builtin.List.listUpdate (.ref s.heap.objs.size) (fun _ => #[]); letGo old.toList.reverse; Builtin.List.listExtendWith (.ref s.heap.objs.size) (.ref z) .none) _ _ _
  refine wpAny_bind ?_
  unfold Builtin.List.listItems
  refine wpAny_bind (wpAny_seqItems hS rfl (wpAny_pure ?_))
  show wpAny _ X.A.in1.in1 (updateSeq s.heap.objs.size (fun _ => #[]) >>= fun _ => letGo (#[] : Array Value).toList.reverse >>= fun _ => Builtin.List.listExtendWith (.ref s.heap.objs.size) (.ref z) .none) _ _ _
  refine wpAny_bind (wpAny_updateSeq hS rfl ?_)
  have hS₂ := Heap.get?_update_self (Obj.mapSeq (fun _ => (#[] : Array Value))) hS rfl
  have k2 : ∀ c o, s.heap.get? c = some o → ((s.heap.push { cls := .type "list", data := .seq #[] }).update s.heap.objs.size (Obj.mapSeq (fun _ => (#[] : Array Value)))).get? c = some o := fun c o e =>
    (Heap.get?_update_other _ _ (Nat.ne_of_gt (Heap.lt_size e))).trans (Heap.get?_push_of_some _ e)
  refine wpAny_bind (wpAny_letGo ?_)
  generalize hg2 : ((s.heap.push { cls := .type "list", data := .seq #[] }).update s.heap.objs.size (Obj.mapSeq (fun _ => (#[] : Array Value)))) = g2 at hS₂ k2
  unfold Builtin.List.listExtendWith
  have hT : (Shared.TypeIs { s with heap := g2 } (.ref z) "zip") := ⟨_, k2 z _ hz, rfl⟩
  refine wpAny_bind (wpAny_typeOf hT ?_)
  have e1 : Builtin.List.listSameRef (.ref s.heap.objs.size) (.ref z) = false := by
    show (s.heap.objs.size == z) = false
    exact beq_eq_false_iff_ne.mpr (Nat.ne_of_gt lz)
  have e2 : (Value.type "zip" == Value.type "list") = false := by decide
  have e3 : (Value.type "zip" == Value.type "tuple") = false := by decide
  simp only [e1, e2, e3, Bool.or_false, Bool.false_eq_true, if_false]
  refine wpAny_bind (wpAny_pyIter_zip (k2 z _ hz) ?_)
  refine wpAny_bind (wpAny_holding ?_)
  unfold Builtin.List.listLengthHint
  refine wpAny_bind (wpAny_specialOf hT zip_no_len ?_)
  show wpAny _ X.A.in1.in1 (specialOf (Value.ref z) (Str.ofString "__length_hint__") >>= _) _ _ _
  refine wpAny_bind (wpAny_specialOf hT zip_no_hint ?_)
  refine wpAny_pure ?_
  show wpAny _ X.A.in1.in1 (rule "list.extend.makes-room" >>= fun _ => Builtin.List.listTouch (.ref s.heap.objs.size) >>= fun _ =>
    again (.builtin "list.extend.loop" ⟨[.ref s.heap.objs.size, .ref z, .none], []⟩)) _ _ _
  refine wpAny_bind (wpAny_rule ?_)
  refine wpAny_bind ?_
  show wpAny _ X.A.in1.in1 (updateSeq s.heap.objs.size (·.push .none) >>= fun _ => updateSeq s.heap.objs.size (·.pop)) _ _ _
  refine wpAny_bind (wpAny_updateSeq hS₂ rfl ?_)
  have hS₃ := Heap.get?_update_self (Obj.mapSeq (·.push Value.none)) hS₂ rfl
  refine wpAny_updateSeq (hz := by seq_fits) hS₃ rfl ?_
  have hS₄ := Heap.get?_update_self (Obj.mapSeq (·.pop)) hS₃ rfl
  have k4 : ∀ c o, s.heap.get? c = some o → ((g2.update s.heap.objs.size (Obj.mapSeq (·.push Value.none))).update s.heap.objs.size (Obj.mapSeq (·.pop))).get? c = some o := fun c o e =>
    (Heap.get?_update_other _ _ (Nat.ne_of_gt (Heap.lt_size e))).trans ((Heap.get?_update_other _ _ (Nat.ne_of_gt (Heap.lt_size e))).trans (k2 c o e))
  have I4 : Inv X pins σ (upd H s.heap.objs.size (.lst [])) { s with heap := (g2.update s.heap.objs.size (Obj.mapSeq (·.push Value.none))).update s.heap.objs.size (Obj.mapSeq (·.pop)) } :=
    I.laid (t' := s.toks) k4 (Nat.le_refl _) ⟨Nat.zero_le _, [], _, .nil, hS₄⟩
  refine wpAny_pure ⟨plainId_quiet F.plain_extend_loop _, lz_loop hc D I4 (k4 z _ hz) (k4 TI _ hTI) (k4 TO _ hTO) (h1.at fun o q => k4 i1 o q) (h2.at fun o q => k4 i2 o q) (p1.isList.at fun o q => k4 a o q) (p2.isList.at fun o q => k4 b o q) r1 r2 hle
    (fun c hcm => ⟨by rw [upd_ne (Nat.ne_of_lt (hlt c hcm))]; exact (hf c hcm).1, (hf c hcm).2⟩) upd_same hS₄ (Nat.ne_of_gt la) (Nat.ne_of_gt lb) (fun he => q0 he _ nS) fun x y ex ey T hT => ?_⟩
  have hTS : T ≠ s.heap.objs.size := fun q => by rw [q, upd_same] at hT; cases hT
  rw [upd_ne hTS] at hT
  exact q1 x y ex ey _ T nS hT hTS
def tListZip (K : PySem.W.Frag) (ta : TA) : TE := fun σ H Q => ta σ H fun vs H1 => ∃ a b xs ys, vs = [.ref a, .ref b] ∧ SqL K H1 a xs ∧ SqL K H1 b ys ∧ (xs.length ≤ 1 ∨ ys.length ≤ 1) ∧
  ((xs = [] ∨ ys = []) → ∀ S, H1 S = none → Q (.ref S) (upd H1 S (.lst []))) ∧
  ∀ x y, xs[0]? = some x → ys[0]? = some y → ∀ S T, H1 S = none → H1 T = none → T ≠ S → Q (.ref S) (upd (upd (upd H1 S (.lst [])) T (.tup [x, y])) S (.lst [.ref T]))
theorem pe_listZip {e e2 : Expr} {ta : TA} {p p2 pos pos2 : Pos} (hc : X.calm = true) (hg1 : Gl X "list") (hm1 : X.mg "list" = none) (hg : Gl X "zip") (hm : X.mg "zip" = none) (ha : PA X [e, e2] ta)
    (hs : starEach [e, e2] X.env = (false, eval e X.env) :: starEach [e2] X.env := by rfl) (hpl : (backTo pos2 (starEach [e2] X.env)).any (·.1) = false := by rfl)
    (hs2 : starEach [Expr.Call (.Name "zip" p2) [e, e2] [] pos2] X.env = (false, eval (Expr.Call (.Name "zip" p2) [e, e2] [] pos2) X.env) :: starEach [] X.env := by rfl) :
    PE X (.Call (.Name "list" p) [.Call (.Name "zip" p2) [e, e2] [] pos2] [] pos) (tListZip X.K ta) := by
  refine ⟨fun pins s σ H Q I h => ?_⟩
  refine Call_ (ld_blt I hg1 hm1 boot_list (PyProof.Rows.callWith_type1 (args_cons ?_ hs2) hs2))
  refine Call_ (ld_blt I hg hm PyProof.Rows.boot_zip (PyProof.Rows.callWith_type1 (thn (ha.run pos2 pins s σ H _ I h) fun us s1 ⟨vs, H1, I1, r1, q1⟩ => ?_) hs hpl))
  obtain ⟨a, b, xs, ys, ex, hqx, hqy, hle, q0, q1⟩ := q1
  subst ex
  cases r1 with
  | cons r rr =>
    cases rr with
    | cons r' rr =>
      cases rr
      cases r
      cases r'
      obtain ⟨its, rv, p1, _⟩ := I1.list hqx
      obtain ⟨its2, rv2, p2, _⟩ := I1.list hqy
      have la : a < s1.heap.objs.size := p1.lt
      have lb : b < s1.heap.objs.size := p2.lt
      refine call_zip_2 p1.isList p2.isList fun h' hz hTI hTO h1 h2 hsz hk => args_nil ?_
      have I2 : Inv X pins σ H1 { s1 with heap := h' } := I1.kept (t' := s1.toks) hk
      refine rl_listzip hc (PySem.W.ktu_apart s1.heap.objs.size a b la lb) I2 hz hTI hTO h1 h2 hqx hqy hle (fun c hcm => ?_) q0 q1
      have e' : c = s1.heap.objs.size + 4 ∨ c = s1.heap.objs.size + 2 ∨ c = s1.heap.objs.size + 3 ∨ c = s1.heap.objs.size ∨ c = s1.heap.objs.size + 1 := by simpa using hcm
      have hle : s1.heap.objs.size ≤ c := by
        rcases e' with z | z | z | z | z
        · rw [z]; exact Nat.le_add_right _ _
        · rw [z]; exact Nat.le_add_right _ _
        · rw [z]; exact Nat.le_add_right _ _
        · rw [z]; exact Nat.le_refl _
        · rw [z]; exact Nat.le_add_right _ _
      exact I1.fpOk hle (I1.hok.fresh hle)
theorem zipD1 {xs ys : List D} (h : Nat.ble (len (zipD xs ys)) 1 = true) : xs.length ≤ 1 ∨ ys.length ≤ 1 := by
  have h1 := Nat.le_of_ble_eq_true h
  rw [len_eq, zipD_len] at h1
  omega
theorem xl_zip {a b : Expr} {ea eb : Ex} {p p2 pos pos2 : Pos} (hc : X.calm = true) (hg1 : Gl X "list") (hm1 : X.mg "list" = none) (hg : Gl X "zip") (hm : X.mg "zip" = none) (ha : XE X a ea) (hb : XE X b eb)
    (hs : starEach [a, b] X.env = (false, eval a X.env) :: starEach [b] X.env := by rfl) (hs3 : starEach [b] X.env = (false, eval b X.env) :: starEach [] X.env := by rfl) (hpl : (backTo pos2 (starEach [b] X.env)).any (·.1) = false := by rfl)
    (hs2 : starEach [Expr.Call (.Name "zip" p2) [a, b] [] pos2] X.env = (false, eval (Expr.Call (.Name "zip" p2) [a, b] [] pos2) X.env) :: starEach [] X.env := by rfl) :
    XL X (.Call (.Name "list" p) [.Call (.Name "zip" p2) [a, b] [] pos2] [] pos) (lZip ea eb) := pe_by fun σ H Q h => by
  obtain ⟨F0, H0, F, rho, s, ds, R, he, q⟩ := h
  obtain ⟨x, hx, h1⟩ := oB_some he
  obtain ⟨xs, rfl, h2⟩ := gL_some h1
  obtain ⟨y, hy, h3⟩ := oB_some h2
  obtain ⟨ys, rfl, h4⟩ := gL_some h3
  obtain ⟨h5, h6⟩ := ck_some h4
  cases h6
  refine ⟨_, pe_listZip hc hg1 hm1 hg hm (pa_cons ha (pa1 hb hs3) hs) hs hpl hs2, tE2 R hx hy fun F' H' v u st iv iu => ?_⟩
  obtain ⟨a0, vs, rfl, k1, k2⟩ := Is.lst_eq iv
  obtain ⟨b0, us, rfl, k3, k4⟩ := Is.lst_eq iu
  have l1 := k2.length
  have l2 := k4.length
  refine ⟨a0, b0, vs, us, rfl, SqL.of (st.s _ _ k1), SqL.of (st.s _ _ k3), ?_, fun he S nS => ?_, fun v1 u1 e1 e2 S T nS nT hTS => ?_⟩
  · have z := zipD1 h5
    rw [l1, l2] at z
    exact z
  · have e : zipD xs ys = [] := by
      rcases he with z | z
      · subst z; cases k2; rfl
      · subst z
        cases k4
        cases xs <;> rfl
    rw [e] at q
    exact q F' _ S [] (st.trans (Step.own st.s nS)) (st.h.free nS) (st.s.free nS) L2.upd_same .nil
  · cases k2 with
    | nil => cases e1
    | @cons d0 w0 ds' ws' i1 t1 =>
      cases k4 with
      | nil => cases e2
      | @cons d1 w1 es' xs' i2 t2 =>
        cases e1
        cases e2
        have e : zipD (d0 :: ds') (d1 :: es') = [.tup [d0, d1]] := by
          have hz : Nat.ble (len (zipD ds' es')) 0 = true := h5
          have hz2 := Nat.le_of_ble_eq_true hz
          rw [len_eq] at hz2
          have hz3 : zipD ds' es' = [] := List.eq_nil_of_length_eq_zero (by omega)
          show D.tup [d0, d1] :: zipD ds' es' = _
          rw [hz3]
        rw [e] at q
        have st1 := st.trans (Step.own st.s nS (o := .lst []))
        have nT1 : upd H' S (.lst []) T = none := by rw [L2.upd_ne hTS]; exact nT
        have st2 := st1.trans (Step.lay st1.s nT1 (o := .tup [v1, u1]))
        have fS : F' S = none := st.s.free nS
        have fS2 : L2.upd F' T (.tup [v1, u1]) S = none := by rw [L2.upd_ne hTS.symm]; exact fS
        have st3 := st2.mut (o := .lst [.ref T]) fS2 (st.h.free nS)
        refine q (L2.upd F' T (.tup [v1, u1])) _ S [.ref T] st3 (st.h.free nS) fS2 L2.upd_same (.cons (.tup (.inl L2.upd_same) ?_) .nil)
        have m := same_new (o := .tup [v1, u1]) (st1.s.free nT1)
        exact .cons (i1.mono m) (.cons (i2.mono m) .nil)
end
end Kx

/-! KxY: ranges in a display. -/
namespace Kx
open PySem L2 PyProof.Rows
section
variable {X : Cx} {pins : List (Addr × Obj)} {σ : L2.St} {H : Hp} {s : Shared}
theorem star_rg {r : Addr} {a b : Int} {t u v : Tok} {E : Value → Shared → Prop} {Q : List Value → Shared → Prop} (hc : X.calm = true) (I : Inv X pins σ H s) (hr : IsRange s.heap r a b 1 t u v) (ok : RgOk a b) (hQ : ∀ us s', Inv X pins σ H s' → Vals (rgV a b) us → Q us s') :
    PySem.W.StarOf (model X.prog X.w) X.A E (.ref r) Q s := by
  obtain ⟨b1, b2, b3, b4, b5⟩ := ok
  have hT : s.TypeIs (.ref r) "range" := ⟨_, hr, rfl⟩
  have z : wpAny (model X.prog X.w) X.A (collect (.ref r)) Q E s :=
    collect_range (n := (b - a).toNat) (I.ok.hd hc) hr (small_one b1 b2 b3 b4) (rangeSize_nat a b) b5 fun h' tk acc hk hi => hQ _ _ (I.kept hk) (vals_rg hi)
  unfold PySem.W.StarOf notIterableAtAll
  exact wpAny_bind (wpAny_specialOf hT PySem.F.slot_range_iter.lookup (wpAny_pure ⟨rfl, z⟩))
def tStarRg (te : L2.St → Hp → (Int → Int → Hp → Prop) → Prop) (t : TA) : TA := fun σ H Q => te σ H fun a b H1 => RgOk a b ∧ t σ H1 fun ys H2 => Q (rgV a b ++ ys) H2
theorem pa_starRg {e : Expr} {es : List Expr} {te : L2.St → Hp → (Int → Int → Hp → Prop) → Prop} {t : TA} {p : Pos} (hc : X.calm = true) (he : PRg X e te) (hr : PA X es t) (hs : starEach (.Starred e p :: es) X.env = (true, eval e X.env) :: starEach es X.env := by rfl) : PA X (.Starred e p :: es) (tStarRg te t) := by
  refine ⟨fun pos pins s σ H Q I h => ?_⟩
  refine PySem.W.items_star (thn (he pins s σ H _ I h) fun v s1 ⟨r, a, b, t1, u1, v1, H1, ev, hr1, I1, ok, q⟩ => ?_) hs
  subst ev
  refine star_rg hc I1 hr1 ok fun us s2 I2 rv => ?_
  exact thn (hr.run pos pins s2 σ H1 _ I2 q) fun ws s3 ⟨vs, H3, I3, r3, q3⟩ => ⟨rgV a b ++ vs, H3, I3, rv.append r3, q3⟩
theorem rgV_at {F : Hp} {i j : Int} : IsAll F (rg (toN (subI j i)) i) (rgV i j) := by
  have h := rg_is (F := F) (toN (subI j i)) i
  unfold rgV
  rw [toN_eq, subI_eq] at h ⊢
  exact h
theorem xl_starR {a b c : Expr} {ea eb ec : Ex} {p1 p2 p3 p4 p5 p6 pos : Pos} (hc : X.calm = true) (hg : Gl X "range") (hm : X.mg "range" = none) (ha : XE X a ea) (hb : XE X b eb) (hcc : XE X c ec)
    (na : starEach [a, b] X.env = (false, eval a X.env) :: starEach [b] X.env := by rfl) (nb : starEach [b] X.env = (false, eval b X.env) :: starEach [] X.env := by rfl) (nc : starEach [c] X.env = (false, eval c X.env) :: starEach [] X.env := by rfl)
    (hp : (backTo p3 (starEach [b] X.env)).any (·.1) = false := by rfl)
    (hs : starEach [.Starred (.Call (.Name "range" p1) [a, b] [] p3) p2, .Starred (.Call (.Name "range" p4) [c] [] p6) p5] X.env = (true, eval (.Call (.Name "range" p1) [a, b] [] p3) X.env) :: starEach [.Starred (.Call (.Name "range" p4) [c] [] p6) p5] X.env := by rfl)
    (hs2 : starEach [.Starred (.Call (.Name "range" p4) [c] [] p6) p5] X.env = (true, eval (.Call (.Name "range" p4) [c] [] p6) X.env) :: starEach [] X.env := by rfl) :
    XL X (.List [.Starred (.Call (.Name "range" p1) [a, b] [] p3) p2, .Starred (.Call (.Name "range" p4) [c] [] p6) p5] pos) (lStarR ea eb ec) := pe_by fun σ H Q h => by
  obtain ⟨F0, H0, F, rho, s, ds, R, he, q⟩ := h
  obtain ⟨xs, h1, h2⟩ := oB_some he
  obtain ⟨ys, h3, h4⟩ := oB_some h2
  cases h4
  obtain ⟨x, hx, g1⟩ := oB_some h1
  obtain ⟨i, rfl, g2⟩ := gI_some g1
  obtain ⟨y, hy, g3⟩ := oB_some g2
  obtain ⟨j, rfl, g4⟩ := gI_some g3
  obtain ⟨g5, g6⟩ := ck_some g4
  obtain ⟨g7, g8⟩ := ck_some g6
  cases g8
  obtain ⟨z, hz, k1⟩ := oB_some h3
  obtain ⟨n, rfl, k2⟩ := gI_some k1
  obtain ⟨k3, k4⟩ := ck_some k2
  cases k4
  have bi := okI_lt g5
  have bj := okI_lt g7
  have bn := okI_lt k3
  refine ⟨_, pe_lst (pa_starRg hc (prg_2 hg hm ha hb na nb hp) (pa_starRg hc (prg_1 hg hm hcc nc) pa_nil hs2) hs), tE1 R hx fun F1 H1 v st1 iv => tE1 (R.step st1) hy fun F2 H2 u st2 iu => ⟨i, j, v_int iv, v_int iu, ?_, tE1 ((R.step st1).step st2) hz fun F3 H3 t st3 it => ⟨n, v_int it, ?_, ?_⟩⟩⟩
  · exact ⟨by omega, by omega, by omega, by omega, by omega⟩
  · exact ⟨by omega, by omega, by omega, by omega, by omega⟩
  · have st' := (st1.trans st2).trans st3
    refine ⟨?_, fun pa np => ?_⟩
    · rw [List.append_nil, List.length_append, rgV_length, rgV_length, sizeLine_eq]
      omega
    · rw [List.append_nil]
      rw [app_eq] at q
      exact q F3 _ pa _ (st'.trans (Step.own st'.s np)) (st'.h.free np) (st'.s.free np) L2.upd_same (rgV_at.append rgV_is)
end
end Kx

/-! KxX: the dict with tuples as keys, all values True. -/
namespace Kx
open PySem L2 PyProof.Rows
/-! ### keys -/
theorem keyOk_tup {k : Nat} {d : D} (h : keyOk (k + 1) d = true) : (∃ i, d = .int i) ∨ ∃ xs, d = .tup xs ∧ allB (keyOk k) xs = true := by
  cases d <;> first | (cases h; done) | exact .inl ⟨_, rfl⟩ | exact .inr ⟨_, rfl, h⟩
theorem eqL_keys {f : D → D → Bool} {g : D → Bool} {kd : D → NestedKey} (hf : ∀ x y, g x = true → g y = true → (f x y = true ↔ kd x = kd y)) : ∀ xs ys : List D, allB g xs = true → allB g ys = true → (eqL f xs ys = true ↔ xs.map kd = ys.map kd)
  | [], [], _, _ => ⟨fun _ => rfl, fun _ => rfl⟩
  | [], _ :: _, _, _ => ⟨fun h => (nomatch h), fun h => by simp at h⟩
  | _ :: _, [], _, _ => ⟨fun h => (nomatch h), fun h => by simp at h⟩
  | x :: xs, y :: ys, h1, h2 => by
    obtain ⟨a1, a2⟩ := allB_cons h1
    obtain ⟨b1, b2⟩ := allB_cons h2
    have e := hf x y a1 b1
    have ih := eqL_keys hf xs ys a2 b2
    show @Bool.rec (fun _ => Bool) false (eqL f xs ys) (f x y) = true ↔ _
    rw [List.map_cons, List.map_cons, List.cons.injEq, ← e, ← ih]
    cases f x y with
    | true => exact ⟨fun h => ⟨rfl, h⟩, fun h => h.2⟩
    | false => exact ⟨fun h => (nomatch h), fun h => (nomatch h.1)⟩
theorem keyEq : ∀ (k : Nat) (x y : D), keyOk k x = true → keyOk k y = true → (eqT k x y = true ↔ keyD k x = keyD k y)
  | 0, x, y, h, _ => by cases h
  | k + 1, x, y, h1, h2 => by
    rcases keyOk_tup h1 with ⟨i, rfl⟩ | ⟨xs, rfl, a⟩
    · rcases keyOk_tup h2 with ⟨j, rfl⟩ | ⟨ys, rfl, b⟩
      · show eqI i j = true ↔ NestedKey.num i = NestedKey.num j
        rw [eqI_eq, decide_eq_true_eq, NestedKey.num.injEq]
      · exact ⟨fun h => (nomatch h), fun h => by have z : NestedKey.num i = NestedKey.tup _ := h; cases z⟩
    · rcases keyOk_tup h2 with ⟨j, rfl⟩ | ⟨ys, rfl, b⟩
      · exact ⟨fun h => (nomatch h), fun h => by have z : NestedKey.tup _ = NestedKey.num j := h; cases z⟩
      · show eqL (eqT k) xs ys = true ↔ NestedKey.tup (xs.map (keyD k)) = NestedKey.tup (ys.map (keyD k))
        rw [NestedKey.tup.injEq]
        exact eqL_keys (keyEq k) xs ys a b
theorem depth_keys {f : D → NestedKey} {n : Nat} (hf : ∀ d, (f d).depth ≤ n) : ∀ ds : List D, NestedKey.depthAll (ds.map f) ≤ n
  | [] => by simp [NestedKey.depthAll]
  | d :: r => by
    rw [List.map_cons, NestedKey.depthAll]
    exact Nat.max_le.mpr ⟨hf d, depth_keys hf r⟩
theorem key_depth : ∀ (k : Nat) (d : D), (keyD k d).depth ≤ k
  | 0, d => by show NestedKey.depth .none ≤ 0; simp [NestedKey.depth]
  | k + 1, d => by
    cases d with
    | tup xs =>
      show NestedKey.depth (.tup (xs.map (keyD k))) ≤ k + 1
      rw [NestedKey.depth]
      have := depth_keys (key_depth k) xs
      omega
    | int i => show NestedKey.depth (.num i) ≤ k + 1; simp [NestedKey.depth]
    | _ => show NestedKey.depth .none ≤ k + 1; simp [NestedKey.depth]
mutual
theorem nested_of {P : Program} {w : World} {F H : Hp} {h : Heap} (e : Same F H) (hok : HOk P w H h) : ∀ (k : Nat) (d : D) (v : V) (u : Value), keyOk k d = true → Is F d v → RelV v u → NestedIs h (keyD k d) u
  | 0, d, v, u, q, _, _ => by cases q
  | k + 1, .int j, v, u, q, i, r => by
    rw [i.int_eq] at r
    obtain ⟨t, rfl⟩ := r
    exact .int j t
  | k + 1, .tup xs, v, u, q, i, r => by
    obtain ⟨a, vs, rfl, h1, h2⟩ := i.tup_eq
    cases r
    obtain ⟨z, its, rv, o, ho, hc, n, hd⟩ : vs.length ≤ sizeLine ∧ ∃ its : List Value, Vals vs its ∧ IsTup h a its.toArray := (h1.mono e).ok hok
    exact NestedIs.tup (ks := xs.map (keyD k)) ho hc hd (nestedAll_of e hok k xs vs its q h2 rv)
  | k + 1, .non, v, u, q, i, r => by cases q
  | k + 1, .bl b, v, u, q, i, r => by cases q
  | k + 1, .rep b, v, u, q, i, r => by cases q
  | k + 1, .lst b, v, u, q, i, r => by cases q
  | k + 1, .idict b, v, u, q, i, r => by cases q
  | k + 1, .ref b, v, u, q, i, r => by cases q
  | k + 1, .ptup b, v, u, q, i, r => by cases q
theorem nestedAll_of {P : Program} {w : World} {F H : Hp} {h : Heap} (e : Same F H) (hok : HOk P w H h) : ∀ (k : Nat) (ds : List D) (vs : List V) (us : List Value), allB (keyOk k) ds = true → IsAll F ds vs → Vals vs us → NestedAll h (ds.map (keyD k)) us
  | k, _, _, _, _, .nil, .nil => .nil
  | k, _, _, _, q, .cons i t, .cons r rr => .cons (nested_of e hok k _ _ _ (allB_cons q).1 i r) (nestedAll_of e hok k _ _ _ (allB_cons q).2 t rr)
end
/-- the tuple at b is the key k -/
def KeyAt (P : Program) (w : World) (H : Hp) (k : NestedKey) (b : Addr) : Prop := ∀ h, HOk P w H h → (nestedKind P w).is h k b
theorem keyAt_of {P : Program} {w : World} {F H : Hp} (e : Same F H) {d : D} {b : Addr} (q : keyOk 4 d = true) (i : Is F d (.ref b)) : KeyAt P w H (keyD 4 d) b := fun h hok =>
  ⟨nested_of e hok 4 d (.ref b) (.ref b) q i rfl, Nat.le_trans (key_depth 4 d) (by decide)⟩
theorem inK_at {F : Hp} {k : D} (hk : keyOk 4 k = true) : ∀ {ks : List D} {xs : List Ent}, IsKs F ks xs → inK k ks = (atKey xs (keyD 4 k)).isSome
  | _, _, .nil => rfl
  | d :: r, x :: xs, .cons h t => by
    have ih := inK_at hk t
    show @Bool.rec (fun _ => Bool) (inK k r) true (eqT 4 d k) = _
    have e := keyEq 4 d k h.1 hk
    have e2 : (atKey (x :: xs) (keyD 4 k)) = if decide (x.1 = keyD 4 k) = true then some x.2 else atKey xs (keyD 4 k) := by
      unfold atKey
      rw [List.find?_cons]
      by_cases z : x.1 = keyD 4 k
      · rw [decide_eq_true z]; rfl
      · rw [decide_eq_false z]; rfl
    rw [e2, h.2.1]
    cases q : eqT 4 d k with
    | true => rw [if_pos (decide_eq_true (e.mp q))]; rfl
    | false =>
      rw [if_neg (fun z => by
        have z2 := e.mpr (of_decide_eq_true z)
        rw [q] at z2
        cases z2)]
      exact ih
theorem keys_at {P : Program} {w : World} {F H : Hp} (e : Same F H) : ∀ {ks : List D} {xs : List Ent}, IsKs F ks xs → ∀ x ∈ xs, KeyAt P w H x.1 x.2.1
  | _, _, .nil, x, hx => by cases hx
  | _, _, .cons h t, x, hx => by
    rcases List.mem_cons.mp hx with q | hx
    · rw [q, h.2.1]; exact keyAt_of e h.1 h.2.2.1
    · exact keys_at e t x hx
theorem koOf {P : Program} {w : World} {H : Hp} {h : Heap} {a : Addr} {xs : List Ent} (hok : HOk P w H h) (ha : H a = some (KO P w a xs)) (hk : ∀ x ∈ xs, KeyAt P w H x.1 x.2.1) : (a == sysModules) = false ∧ h.DictOfH (nestedKind P w) a xs := by
  obtain ⟨⟨h0, o, es, ep, h1, h2, h3, h4, h5⟩, _, _⟩ := hok a _ ha
  exact ⟨h0, o, es, ep, h1, h2, h3, h4, fun x hx => hk x hx h hok, h5⟩
theorem koNew {P : Program} {w : World} {H : Hp} {h : Heap} {a : Addr} {xs : List Ent} (h0 : (a == sysModules) = false) (hd : h.DictOfH (nestedKind P w) a xs) : ObjOk P w H h a (KO P w a xs) := by
  obtain ⟨o, es, ep, h1, h2, h3, h4, h5, h6⟩ := hd
  refine ⟨⟨h0, o, es, ep, h1, h2, h3, h4, h6⟩, ⟨o, h1⟩, fun g1 g2 q k => ?_⟩
  obtain ⟨z0, o', es', ep', z1, z2, z3, z4, z5⟩ := q
  exact ⟨z0, o', es', ep', k o' z1, z2, z3, z4, z5⟩
section
variable {X : Cx}
/-! ### k not in d -/
def rNotInKs (P : Program) (w : World) : R2 := fun x y H Q => ∃ a d xs k, x = .ref a ∧ y = .ref d ∧ H d = some (KO P w d xs) ∧ KeyAt P w H k a ∧ (∀ z ∈ xs, KeyAt P w H z.1 z.2.1) ∧ Q (.bl (!(atKey xs k).isSome)) H
theorem op_notInKs (hu : X.A.units + 9 < cLine) : OpR X (compareOp .NotIn) (rNotInKs X.prog X.w) := by
  intro pins s σ H x y v u Q I rx ry h
  obtain ⟨a, d, xs, k, rfl, rfl, hd, hk, hks, q⟩ := h
  cases rx
  cases ry
  obtain ⟨h0, dd⟩ := koOf I.hok hd hks
  refine notIn_keyed (knd := nestedKind X.prog X.w) (show X.A.units + 1 + 8 < cLine by omega) (hk _ I.hok) h0 ⟨xs, dd, rfl⟩ ?_
  rw [valueAt_pairsH, Option.isSome_map]
  exact ⟨.bl (!(atKey xs k).isSome), H, I.tok _, rfl, q⟩
theorem ck_notInK (hu : X.A.units + 9 < cLine) : CmpK X .NotIn fNotInK := fun F0 H0 F rho s σ H x y d Q R h q => by
  obtain ⟨ks0, rfl, h1⟩ := gT_some h
  obtain ⟨n, rfl, h2⟩ := gR_some h1
  obtain ⟨ks, h3, h4⟩ := ks_of h2
  obtain ⟨h5, h6⟩ := ck_some h4
  cases h6
  refine ⟨_, op_notInKs hu, fun F' H' v u st iv iu => ?_⟩
  obtain ⟨a, vs, rfl, k1, k2⟩ := Is.tup_eq iv
  obtain ⟨_, _, _, xs, g1, g2⟩ := (R.step st).ob n _ h3
  refine ⟨a, rho n, xs, keyD 4 (.tup ks0), rfl, iu.2, g1, keyAt_of st.s h5 (.tup k1 k2), keys_at st.s g2, ?_⟩
  rw [← inK_at h5 g2]
  exact q F' H' _ st (IsV.of (.bl _))

/-! ### d[k] = True, k new -/
def rSetK (P : Program) (w : World) : V → V → V → Hp → (Hp → Prop) → Prop := fun o i v H Q => ∃ d a xs k, o = .ref d ∧ i = .ref a ∧ v = .bl true ∧ H d = some (KO P w d xs) ∧ KeyAt P w H k a ∧ (∀ z ∈ xs, KeyAt P w H z.1 z.2.1) ∧ atKey xs k = none ∧ xs.length ≤ sizeLine ∧ Q (upd H d (KO P w d (xs ++ [(k, a, Value.bool true)])))
theorem set_key (hu : X.A.units + 9 < cLine) : PSet X (rSetK X.prog X.w) := by
  intro pins s σ H o i v ov iv u Q I ro ri rv h
  obtain ⟨d, a, xs, k, rfl, rfl, rfl, hd, hk, hks, hn, hz, q⟩ := h
  cases ro
  cases ri
  cases rv
  obtain ⟨h0, dd⟩ := koOf I.hok hd hks
  refine wpAny_setItem_heap (knd := nestedKind X.prog X.w) (hsz := hz) (show X.A.units + 1 + 8 < cLine by omega) (hk _ I.hok) dd fun h' dd' hs => ?_
  rw [storedH_new hn] at dd'
  have he : ∃ u, h'.get? d = some u := by
    obtain ⟨o, _, _, h1, _⟩ := dd'
    exact ⟨o, h1⟩
  exact ⟨_, I.write (x := d) (e := d) (t' := s.toks + (nestedKind X.prog X.w).draws k) (by rw [hd]; exact True.intro) (.inl rfl) (fun b u hb hu => (hs.2 b hb).trans hu) he (koNew h0 dd'), q⟩
theorem IsKs.snoc {F : Hp} {d : D} {x : Ent} (h : keyOk 4 d = true ∧ x.1 = keyD 4 d ∧ Is F d (.ref x.2.1) ∧ x.2.2 = Value.bool true) : ∀ {ks : List D} {xs : List Ent}, IsKs F ks xs → IsKs F (ks ++ [d]) (xs ++ [x])
  | _, _, .nil => .cons h .nil
  | _, _, .cons q t => .cons q (IsKs.snoc h t)
theorem xs_key {a b : Expr} {ea eb : Ex} {st : Stmt} (mk : ∀ {to ti : TE}, PE X a to → PE X b ti → PS X st (tAsg (tC (.bl true)) (gSub to ti (rSetK X.prog X.w)))) (ha : XE X a ea) (hb : XE X b eb) : XS X st (sKey ea eb) := ps_by fun D σ H h => by
  obtain ⟨F0, H0, F, rho, s, R, q⟩ := h
  obtain ⟨s2, e, q2⟩ := oR_run q
  obtain ⟨x, hx, e⟩ := oB_some e
  obtain ⟨n, rfl, e⟩ := gR_some e
  obtain ⟨d, hd, e⟩ := oB_some e
  obtain ⟨ks0, rfl, e⟩ := gT_some e
  obtain ⟨ks, hn, e⟩ := ks_of e
  obtain ⟨h1, e⟩ := ck_some e
  obtain ⟨h2, e⟩ := ck_some e
  obtain ⟨h3, e⟩ := ck_some e
  cases e
  have z := sz_short h2
  refine ⟨_, mk ha hb, ?_⟩
  show tE X.prog X.w ea σ H _
  refine tE1 R hx fun F1 H1 v st1 iv => tE1 (R.step st1) hd fun F2 H2 u st2 iu => ?_
  have R2 := (R.step st1).step st2
  obtain ⟨p0, vs, rfl, k1, k2⟩ := Is.tup_eq iu
  obtain ⟨_, _, _, xs, g1, g2⟩ := R2.ob n _ hn
  have hl := Paired.length g2
  have hin := inK_at h1 g2
  have hno : atKey xs (keyD 4 (.tup ks0)) = none := by
    rw [← Option.not_isSome_iff_eq_none, ← hin]
    intro q3
    rw [q3] at h3
    cases h3
  refine ⟨rho n, p0, xs, keyD 4 (.tup ks0), iv.2, rfl, rfl, g1, keyAt_of st2.s h1 (.tup k1 k2), keys_at st2.s g2, hno, line_ge (by omega), ?_⟩
  refine q2 F2 rho σ _ (R2.sto hn (o := .kset (app ks [.tup ks0])) ⟨xs ++ [(keyD 4 (.tup ks0), p0, Value.bool true)], L2.upd_same, ?_⟩) (st1.f.trans st2.f)
  rw [app_eq]
  exact IsKs.snoc ⟨h1, rfl, .tup k1 k2, rfl⟩ g2

/-! ### {k: True} -/
def tKey1 (P : Program) (w : World) (ta : TE) : TE := fun σ H Q => ∀ p, H p = none → ta σ (upd H p (KO P w p [])) fun x H2 => ∃ a k, x = .ref a ∧ H2 p = some (KO P w p []) ∧ KeyAt P w H2 k a ∧ Q (.ref p) (upd H2 p (KO P w p [(k, a, Value.bool true)]))
theorem pe_key1 (hu : X.A.units + 9 < cLine) {a : Expr} {ta : TE} {j : Nat} {p2 pos : Pos} (ha : PE X a ta) : PE X (.Dict [some a] [.Constant (.bool true) j p2] pos) (tKey1 X.prog X.w ta) := by
  refine ⟨fun pins s σ H Q I h => ?_⟩
  have hn := I.hok.fresh (Nat.le_refl s.heap.objs.size)
  have h0 : (s.heap.objs.size == sysModules) = false := beq_eq_false_iff_ne.mpr (Ne.symm (Nat.ne_of_lt I.big))
  have new : (s.heap.push { cls := .type "dict", data := .dict #[] }).DictOfH (nestedKind X.prog X.w) s.heap.objs.size [] := Heap.DictOfH.new _
  have I1 : Inv X pins σ (upd H s.heap.objs.size (KO X.prog X.w s.heap.objs.size [])) { s with heap := s.heap.push { cls := .type "dict", data := .dict #[] } } :=
    I.laid (t' := s.toks) (fun _ _ q => Heap.get?_push_of_some _ q) (Nat.le_refl _) (koNew h0 new)
  rw [arm_eval_Dict, zip_pairTrees [some a] [.Constant (.bool true) j p2] X.env pos rfl rfl, dictDisplay_pairs (pairTrees [some a] [.Constant (.bool true) j p2] X.env pos) (by intro z; cases z) (Nat.le_of_ble_eq_true rfl)]
  refine wpAny_bind (wpAny_standAt (wpAny_bind (wpAny_subDictH (knd := nestedKind X.prog X.w) (show X.A.units + 8 < cLine by omega) (Nat.le_of_ble_eq_true rfl) (Q := fun d s' => wpAny (model X.prog X.w) X.A (pure (Value.ref d)) (EP X pins σ Q) X.xe s') ?_)))
  refine pairTrees_cons_walk (thn (ha.run pins _ σ _ _ I1 (h _ hn)) fun u s1 ⟨x, H1, I2, rx, b, k, ex, hp, hk, q⟩ => ?_)
  subst ex
  cases rx
  refine thn ((pe_bl (X := X) (b := true) (pos := p2)).run pins s1 σ H1 (fun v H' => v = .bl true ∧ H' = H1) I2 ⟨rfl, rfl⟩) fun v s2 ⟨y, H2, I3, ry, ey, eH⟩ => ?_
  subst ey eH
  cases ry
  refine pairTrees_nil_walk ?_
  obtain ⟨_, dd⟩ := koOf I3.hok hp (fun x hx => by cases hx)
  refine ⟨[(k, b, Value.bool true)], ⟨rfl, rfl, hk _ I3.hok, True.intro⟩, dd, fun h' tk dd' hs => wpAny_pure ⟨.ref s.heap.objs.size, _, ?_, rfl, q⟩⟩
  have dd2 : h'.DictOfH (nestedKind X.prog X.w) s.heap.objs.size [(k, b, Value.bool true)] := dd'
  have he : ∃ u, h'.get? s.heap.objs.size = some u := by
    obtain ⟨o, _, _, h1, _⟩ := dd2
    exact ⟨o, h1⟩
  exact I3.write (x := s.heap.objs.size) (e := s.heap.objs.size) (t' := tk) (by rw [hp]; exact True.intro) (.inl rfl) (fun b u hb hu => (hs.2 b hb).trans hu) he (koNew h0 dd2)
theorem xa_key (hu : X.A.units + 9 < cLine) {a : Expr} {ea : Ex} {j : Nat} {p2 pos : Pos} (ha : XE X a ea) : XA X (.Dict [some a] [.Constant (.bool true) j p2] pos) (aKey ea) := pe_by fun σ H Q h => by
  obtain ⟨F0, H0, F, rho, s, d, s', R, he, q⟩ := h
  obtain ⟨x, hx, h1⟩ := oB_some he
  obtain ⟨xs, rfl, h2⟩ := gT_some h1
  obtain ⟨h3, h4⟩ := ck_some h2
  cases h4
  refine ⟨_, pe_key1 hu ha, fun p np => ?_⟩
  refine tE1 (R.grow np) hx fun F' H' v st iv => ?_
  obtain ⟨b, vs, rfl, k1, k2⟩ := Is.tup_eq iv
  have hp : H' p = some (KO X.prog X.w p []) := st.h _ _ L2.upd_same
  refine ⟨b, keyD 4 (.tup xs), rfl, hp, keyAt_of st.s h3 (.tup k1 k2), ?_⟩
  have R1 := (R.grow (o := KO X.prog X.w p []) np).step st
  have hH0 : H0 p = none := R.old.free np
  have fF : F' p = none := st.keep (R.sub.free np) L2.upd_same
  have far : ∀ n o, getO s.h n = some o → rho n ≠ p := fun n o e z => by
    obtain ⟨_, _, _, g4⟩ := R.ob n o e
    rw [z] at g4
    exact g4.there np
  have R2 := R1.side (o := KO X.prog X.w p [(keyD 4 (.tup xs), b, Value.bool true)]) fF hH0 far
  have R3 := R2.adopt (o := .kset [.tup xs]) fF hH0 far ⟨[(keyD 4 (.tup xs), b, Value.bool true)], L2.upd_same, .cons ⟨h3, rfl, .tup k1 k2, rfl⟩ .nil⟩
  exact q F' _ _ _ R3 st.f (rhoP_agr _ _ _) (Nat.le_succ _) ⟨Nat.lt_succ_self _, by rw [rhoP_self]⟩
end
end Kx

/-! KxJ: the text; calls with keywords. -/
namespace Kx
open PySem L2 PyProof.Rows
def topS (i : Nat) : Stmt := PySem.Challenge.pw_fewestpours_k26_whole_digits_both_ways.main.body.getD i (.Pass ⟨0, 0, 0, 0⟩)
theorem u1 {k : Nat} {A : Around} (r : Room k A) : A.units + 1 < cLine := by have := r.units; omega
theorem u9 {k : Nat} {A : Around} (r : Room k A) : A.units + 9 < cLine := by have := r.units; omega
section
variable {α : Type}
def gk3 (us ws : List α) : List α := match us, ws with
  | [], [a, b, c] => [c, b, a]
  | _, _ => []
def gk4 (us ws : List α) : List α := match us, ws with
  | [], [a, b, c, d] => [d, c, b, a]
  | _, _ => []
end
theorem rel3 {vs : List V} {us : List Value} {zs : List V} {ws : List Value} (r : Vals vs us) (q : Vals zs ws) : Vals (gk3 vs zs) (gk3 us ws) := by
  cases r with
  | cons _ _ => exact .nil
  | nil =>
    match zs, ws, q with
    | _, _, .nil => exact .nil
    | _, _, .cons a .nil => exact .nil
    | _, _, .cons a (.cons b .nil) => exact .nil
    | _, _, .cons a (.cons b (.cons c .nil)) => exact .cons c (.cons b (.cons a .nil))
    | _, _, .cons a (.cons b (.cons c (.cons d t))) => exact .nil
theorem rel4 {vs : List V} {us : List Value} {zs : List V} {ws : List Value} (r : Vals vs us) (q : Vals zs ws) : Vals (gk4 vs zs) (gk4 us ws) := by
  cases r with
  | cons _ _ => exact .nil
  | nil =>
    match zs, ws, q with
    | _, _, .nil => exact .nil
    | _, _, .cons a .nil => exact .nil
    | _, _, .cons a (.cons b .nil) => exact .nil
    | _, _, .cons a (.cons b (.cons c .nil)) => exact .nil
    | _, _, .cons a (.cons b (.cons c (.cons d .nil))) => exact .cons d (.cons c (.cons b (.cons a .nil)))
    | _, _, .cons a (.cons b (.cons c (.cons d (.cons e t)))) => exact .nil
abbrev KB3 (K : PySem.W.Frag) (fd : FuncData) : Prop := KBinds K fd ["m", "k", "order"] ["order", "k", "m"] gk3 gk3
abbrev KB4 (K : PySem.W.Frag) (fd : FuncData) : Prop := KBinds K fd ["m", "i", "j", "k"] ["k", "j", "i", "m"] gk4 gk4
section
variable {X : Cx} {k : Nat} {f : Addr} {fd : FuncData} {g : Fn} {x : Str} {a b c d : Expr} {ea eb ec ed : Ex} {p pos p1 p2 p3 p4 : Pos}
theorem x_call3 (G : FnOk X.prog X.w X.K X.mg X.base CX0 k f fd ["m", "k", "order"] (spD 3 g)) (hr : Room k X.A) (hg : Gl X x) (hm : X.mg x = some (.ref f)) (hk : PySem.W.keepIn X.K (.ref f) = true) (hb : KB3 X.K fd)
    (ha : XE X a ea) (hbb : XE X b eb) (hc : XE X c ec) (hdb : (x == ("__debug__" : Str)) = false := by decide) :
    XE X (.Call (.Name x p) [] [⟨some "order", a, p1⟩, ⟨some "k", b, p2⟩, ⟨some "m", c, p3⟩] pos) (eCall g [ec, eb, ea]) := pe_by fun σ H Q h => by
  obtain ⟨F0, H0, F, rho, s, r, R, he, q⟩ := h
  obtain ⟨xs, h1, h2⟩ := oB_some he
  obtain ⟨h3, h4⟩ := ck_some h2
  obtain ⟨z, r1, hz, h5, rfl⟩ := eArgs_cons h1
  obtain ⟨y, r2, hy, h6, rfl⟩ := eArgs_cons h5
  obtain ⟨x0, r3, hx, h7, rfl⟩ := eArgs_cons h6
  cases h7
  refine ⟨_, x_callK G hr hg hm hk hb (pk_cons ha (pk_cons hbb (pk_cons hc pk_nil))) rfl rfl hdb rfl, ?_⟩
  show tE X.prog X.w ea σ H _
  refine tE1 R hx fun F1 H1 v1 st1 i1 => tE1 (R.step st1) hy fun F2 H2 v2 st2 i2 => tE1 ((R.step st1).step st2) hz fun F3 H3 v3 st3 i3 => ?_
  have st := (st1.trans st2).trans st3
  have c1 := clAll_cons h3
  have c2 := clAll_cons c1.2
  have c3 := clAll_cons c2.2
  exact ⟨F3, [z, y, x0], r, rfl, st.s, .cons (i3.closed c1.1) (.cons ((i2.step st3.f).closed c2.1) (.cons ((i1.step (st2.trans st3).f).closed c3.1) .nil)), h4, fun F4 H4 v st4 iv => q F4 H4 v (st.trans st4) (IsV.of iv)⟩
theorem x_call4 (G : FnOk X.prog X.w X.K X.mg X.base CX0 k f fd ["m", "i", "j", "k"] (spD 4 g)) (hr : Room k X.A) (hg : Gl X x) (hm : X.mg x = some (.ref f)) (hk : PySem.W.keepIn X.K (.ref f) = true) (hb : KB4 X.K fd)
    (ha : XE X a ea) (hbb : XE X b eb) (hc : XE X c ec) (hd : XE X d ed) (hdb : (x == ("__debug__" : Str)) = false := by decide) :
    XE X (.Call (.Name x p) [] [⟨some "k", a, p1⟩, ⟨some "j", b, p2⟩, ⟨some "i", c, p3⟩, ⟨some "m", d, p4⟩] pos) (eCall g [ed, ec, eb, ea]) := pe_by fun σ H Q h => by
  obtain ⟨F0, H0, F, rho, s, r, R, he, q⟩ := h
  obtain ⟨xs, h1, h2⟩ := oB_some he
  obtain ⟨h3, h4⟩ := ck_some h2
  obtain ⟨u, r0, hu, h8, rfl⟩ := eArgs_cons h1
  obtain ⟨z, r1, hz, h5, rfl⟩ := eArgs_cons h8
  obtain ⟨y, r2, hy, h6, rfl⟩ := eArgs_cons h5
  obtain ⟨x0, r3, hx, h7, rfl⟩ := eArgs_cons h6
  cases h7
  refine ⟨_, x_callK G hr hg hm hk hb (pk_cons ha (pk_cons hbb (pk_cons hc (pk_cons hd pk_nil)))) rfl rfl hdb rfl, ?_⟩
  show tE X.prog X.w ea σ H _
  refine tE1 R hx fun F1 H1 v1 st1 i1 => tE1 (R.step st1) hy fun F2 H2 v2 st2 i2 => tE1 ((R.step st1).step st2) hz fun F3 H3 v3 st3 i3 => tE1 (((R.step st1).step st2).step st3) hu fun F4 H4 v4 st4 i4 => ?_
  have st := ((st1.trans st2).trans st3).trans st4
  have c1 := clAll_cons h3
  have c2 := clAll_cons c1.2
  have c3 := clAll_cons c2.2
  have c4 := clAll_cons c3.2
  exact ⟨F4, [u, z, y, x0], r, rfl, st.s, .cons (i4.closed c1.1) (.cons ((i3.step st4.f).closed c2.1) (.cons ((i2.step (st3.trans st4).f).closed c3.1) (.cons ((i1.step ((st2.trans st3).trans st4).f).closed c4.1) .nil))), h4, fun F5 H5 v st5 iv => q F5 H5 v (st.trans st5) (IsV.of iv)⟩
end
end Kx

/-! KxO: the defs keep the promises of their functions over data; printed by gen2.py -/
namespace Kx
open PySem L2 PyProof.Rows
abbrev s_power_of : Stmt := topS 1
theorem sc_power_of : FnScope ["m", "many", "found", "turn"] ["m", "many"] (defScope s_power_of) := ⟨rfl, rfl, rfl, by decide +kernel, rfl, by decide +kernel, by decide +kernel⟩
theorem ok_power_of {P : Program} {w : World} {K : PySem.W.Frag} {mg : Str → Option Value} {base : Heap} {f : Addr} {fd : FuncData} (Fn : Fun K "power_of" "power_of" s_power_of f fd)
    (m_range : mg "range" = none) :
    FnOk P w K mg base CX0 1 f fd ["m", "many"] (spD 2 Kx.g_power_of) := fn_data Fn sc_power_of rfl rfl fun cdv A outer s H E hr =>
    xb_cons (xs_set 2 (fun h => ps_set (i := 2) sc_power_of.nd rfl (.inl rfl) h) (x_int))
    (xb_cons (xs_for (xf_range1 (by rfl) m_range (x_var 1)) (pg_name (i := 3) sc_power_of.nd rfl (.inl rfl)) (gfor1 3) (xb_one (xs_set 2 (fun h => ps_set (i := 2) sc_power_of.nd rfl (.inl rfl) h) (x_mul (x_var 2) (x_var 0)))) (fun hi hb => ps_for PassesOwn.never rfl hi (pg_name (i := 3) sc_power_of.nd rfl (.inl rfl)) hb))
    (xb_one (xs_ret (x_var 2))))
abbrev s_digit_of : Stmt := topS 2
theorem sc_digit_of : FnScope ["m", "x", "place"] ["m", "x", "place"] (defScope s_digit_of) := ⟨rfl, rfl, rfl, by decide +kernel, rfl, by decide +kernel, by decide +kernel⟩
theorem ok_digit_of {P : Program} {w : World} {K : PySem.W.Frag} {mg : Str → Option Value} {base : Heap} {f : Addr} {fd : FuncData} (Fn : Fun K "digit_of" "digit_of" s_digit_of f fd)
    {f_power_of : Addr} {d_power_of : FuncData} (G_power_of : FnOk P w K mg base CX0 1 f_power_of d_power_of ["m", "many"] (spD 2 g_power_of)) (h_power_of : mg "power_of" = some (.ref f_power_of)) (p_power_of : PySem.W.keepIn K (.ref f_power_of) = true)
    (b_power_of : Binds K d_power_of ["m", "many"] []) :
    FnOk P w K mg base CX0 2 f fd ["m", "x", "place"] (spD 3 Kx.g_digit_of) := fn_data Fn sc_digit_of rfl rfl fun cdv A outer s H E hr =>
    xb_one (xs_ret (x_mod (x_div (x_var 1) (x_call G_power_of (hr.mono (by decide)) (by rfl) h_power_of p_power_of b_power_of rfl (xx_cons (x_var 0) (xx_cons (x_var 2) xx_nil)))) (x_var 0)))
abbrev s_number_by : Stmt := topS 3
theorem sc_number_by : FnScope ["m", "x", "order", "found", "entry"] ["m", "x", "order"] (defScope s_number_by) := ⟨rfl, rfl, rfl, by decide +kernel, rfl, by decide +kernel, by decide +kernel⟩
theorem ok_number_by {P : Program} {w : World} {K : PySem.W.Frag} {mg : Str → Option Value} {base : Heap} {f : Addr} {fd : FuncData} (Fn : Fun K "number_by" "number_by" s_number_by f fd)
    {f_digit_of : Addr} {d_digit_of : FuncData} (G_digit_of : FnOk P w K mg base CX0 2 f_digit_of d_digit_of ["m", "x", "place"] (spD 3 g_digit_of)) (h_digit_of : mg "digit_of" = some (.ref f_digit_of)) (p_digit_of : PySem.W.keepIn K (.ref f_digit_of) = true)
    (b_digit_of : Binds K d_digit_of ["m", "x", "place"] []) :
    FnOk P w K mg base CX0 3 f fd ["m", "x", "order"] (spD 3 Kx.g_number_by) := fn_data Fn sc_number_by rfl rfl fun cdv A outer s H E hr =>
    xb_cons (xs_set 3 (fun h => ps_set (i := 3) sc_number_by.nd rfl (.inl rfl) h) (x_int))
    (xb_cons (xs_for (xf_seq (x_revT (x_var 2))) (pg_name (i := 4) sc_number_by.nd rfl (.inl rfl)) (gfor1 4) (xb_one (xs_set 3 (fun h => ps_set (i := 3) sc_number_by.nd rfl (.inl rfl) h) (x_add (x_mul (x_var 3) (x_var 0)) (x_call G_digit_of (hr.mono (by decide)) (by rfl) h_digit_of p_digit_of b_digit_of rfl (xx_cons (x_var 0) (xx_cons (x_var 1) (xx_cons (x_var 4) xx_nil))))))) (fun hi hb => ps_for PassesOwn.never rfl hi (pg_name (i := 4) sc_number_by.nd rfl (.inl rfl)) hb))
    (xb_one (xs_ret (x_var 3))))
abbrev s_laid_by : Stmt := topS 4
theorem sc_laid_by : FnScope ["m", "k", "order", "b", "blocks", "x", "block"] ["m", "k", "order"] (defScope s_laid_by) := ⟨rfl, rfl, rfl, by decide +kernel, rfl, by decide +kernel, by decide +kernel⟩
theorem ok_laid_by {P : Program} {w : World} {K : PySem.W.Frag} {mg : Str → Option Value} {base : Heap} {f : Addr} {fd : FuncData} (Fn : Fun K "laid_by" "laid_by" s_laid_by f fd)
    {f_power_of : Addr} {d_power_of : FuncData} (G_power_of : FnOk P w K mg base CX0 1 f_power_of d_power_of ["m", "many"] (spD 2 g_power_of)) (h_power_of : mg "power_of" = some (.ref f_power_of)) (p_power_of : PySem.W.keepIn K (.ref f_power_of) = true)
    (b_power_of : Binds K d_power_of ["m", "many"] [])
    {f_number_by : Addr} {d_number_by : FuncData} (G_number_by : FnOk P w K mg base CX0 3 f_number_by d_number_by ["m", "x", "order"] (spD 3 g_number_by)) (h_number_by : mg "number_by" = some (.ref f_number_by)) (p_number_by : PySem.W.keepIn K (.ref f_number_by) = true)
    (b_number_by : Binds K d_number_by ["m", "x", "order"] [])
    (m_tuple : mg "tuple" = none)
    (m_range : mg "range" = none)
    (m_len : mg "len" = none) :
    FnOk P w K mg base CX0 4 f fd ["m", "k", "order"] (spD 3 Kx.g_laid_by) := fn_data Fn sc_laid_by rfl rfl fun cdv A outer s H E hr =>
    xb_cons (xs_set 3 (fun h => ps_set (i := 3) sc_laid_by.nd rfl (.inl rfl) h) (x_call G_power_of (hr.mono (by decide)) (by rfl) h_power_of p_power_of b_power_of rfl (xx_cons (x_var 0) (xx_cons (x_var 1) xx_nil))))
    (xb_cons (xs_rows (fun hi => ps_setLc (i := 4) rfl sc_laid_by.nd rfl rfl (sw_true rfl rfl rfl (by decide +kernel)) hi (blkOk_by (own := [("block", 6)]) (by kernel_rfl)) (fun _ _ _ _ _ => pg_name (i := 6) sc_laid_by.nd rfl (by first | exact .inl rfl | exact .inr rfl)) (fun _ _ _ _ _ => pts_nil) (fun _ _ _ _ _ => pe_lst pa_nil)) (xf_range1 (by rfl) m_range (x_call G_power_of (hr.mono (by decide)) (by rfl) h_power_of p_power_of b_power_of rfl (xx_cons (x_var 0) (xx_cons (x_sub (x_cb cal_len (x_var 2) (by rfl) m_len PySem.boot_len) (x_var 1)) xx_nil)))))
    (xb_cons (xs_for (xf_range1 (by rfl) m_range (x_call G_power_of (hr.mono (by decide)) (by rfl) h_power_of p_power_of b_power_of rfl (xx_cons (x_var 0) (xx_cons (x_cb cal_len (x_var 2) (by rfl) m_len PySem.boot_len) xx_nil)))) (pg_name (i := 5) sc_laid_by.nd rfl (.inl rfl)) (gfor1 5) (xb_one (xs_app (fun ho he => ps_expr (pe_bm F.plainAttrs_list F.slot_list_append F.type_list_append mt_append ho (pa_cons he pa_nil))) (x_ix (u1 hr) (x_var 4) (x_div (x_call G_number_by (hr.mono (by decide)) (by rfl) h_number_by p_number_by b_number_by rfl (xx_cons (x_var 0) (xx_cons (x_var 5) (xx_cons (x_var 2) xx_nil)))) (x_var 3)) (fun _ _ => rfl) (fun _ _ => rfl)) (x_var 5))) (fun hi hb => ps_for PassesOwn.never rfl hi (pg_name (i := 5) sc_laid_by.nd rfl (.inl rfl)) hb))
    (xb_one (xs_ret (x_tup (xx_cons (x_var 3) (xx_cons (x_ct cal_tuple (x_frz (xl_comp rfl sc_laid_by.nd (xi_seq (x_var 4)) (blkOk_by (own := [("block", 6)]) (by kernel_rfl)) (gok1 6) (fun _ _ _ _ _ => pg_name (i := 6) sc_laid_by.nd rfl (by first | exact .inl rfl | exact .inr rfl)) (fun _ _ _ _ _ => pts_yes) (fun _ _ _ _ _ => x_ct cal_tuple (x_var 6) (by rfl) m_tuple boot_tuple))) (by rfl) m_tuple boot_tuple) xx_nil)))))))
abbrev s_foreign_digits : Stmt := topS 5
theorem sc_foreign_digits : FnScope ["k", "order", "entry"] ["k", "order"] (defScope s_foreign_digits) := ⟨rfl, rfl, rfl, by decide +kernel, rfl, by decide +kernel, by decide +kernel⟩
theorem ok_foreign_digits {P : Program} {w : World} {K : PySem.W.Frag} {mg : Str → Option Value} {base : Heap} {f : Addr} {fd : FuncData} (Fn : Fun K "foreign_digits" "foreign_digits" s_foreign_digits f fd)
    (m_len : mg "len" = none) :
    FnOk P w K mg base CX0 1 f fd ["k", "order"] (spD 2 Kx.g_foreign_digits) := fn_data Fn sc_foreign_digits rfl rfl fun cdv A outer s H E hr =>
    xb_one (xs_ret (x_cb cal_len (x_frz (xl_comp rfl sc_foreign_digits.nd (xi_seq (x_sl (x_var 1) (xo_some (x_var 0)) xo_none)) (blkOk_by (own := [("entry", 2)]) (by kernel_rfl)) (gok1 2) (fun _ _ _ _ _ => pg_name (i := 2) sc_foreign_digits.nd rfl (by first | exact .inl rfl | exact .inr rfl)) (fun _ _ _ _ _ => pts_if (xt_cmp ck_lt (x_var 2) (x_var 0) (nomark _))) (fun _ _ _ _ _ => x_var 2))) (by rfl) m_len PySem.boot_len))
abbrev s_digit_bound : Stmt := topS 6
theorem sc_digit_bound : FnScope ["m", "k", "order", "many"] ["m", "k", "order"] (defScope s_digit_bound) := ⟨rfl, rfl, rfl, by decide +kernel, rfl, by decide +kernel, by decide +kernel⟩
theorem ok_digit_bound {P : Program} {w : World} {K : PySem.W.Frag} {mg : Str → Option Value} {base : Heap} {f : Addr} {fd : FuncData} (Fn : Fun K "digit_bound" "digit_bound" s_digit_bound f fd)
    {f_power_of : Addr} {d_power_of : FuncData} (G_power_of : FnOk P w K mg base CX0 1 f_power_of d_power_of ["m", "many"] (spD 2 g_power_of)) (h_power_of : mg "power_of" = some (.ref f_power_of)) (p_power_of : PySem.W.keepIn K (.ref f_power_of) = true)
    (b_power_of : Binds K d_power_of ["m", "many"] [])
    {f_foreign_digits : Addr} {d_foreign_digits : FuncData} (G_foreign_digits : FnOk P w K mg base CX0 1 f_foreign_digits d_foreign_digits ["k", "order"] (spD 2 g_foreign_digits)) (h_foreign_digits : mg "foreign_digits" = some (.ref f_foreign_digits)) (p_foreign_digits : PySem.W.keepIn K (.ref f_foreign_digits) = true)
    (b_foreign_digits : Binds K d_foreign_digits ["k", "order"] [])
    (m_len : mg "len" = none) :
    FnOk P w K mg base CX0 2 f fd ["m", "k", "order"] (spD 3 Kx.g_digit_bound) := fn_data Fn sc_digit_bound rfl rfl fun cdv A outer s H E hr =>
    xb_cons (xs_set 3 (fun h => ps_set (i := 3) sc_digit_bound.nd rfl (.inl rfl) h) (x_call G_foreign_digits (hr.mono (by decide)) (by rfl) h_foreign_digits p_foreign_digits b_foreign_digits rfl (xx_cons (x_var 1) (xx_cons (x_var 2) xx_nil))))
    (xb_one (xs_ret (x_if (xt_cmp ck_gt (x_var 3) (x_int) (nomark _)) (x_mul (x_var 3) (x_call G_power_of (hr.mono (by decide)) (by rfl) h_power_of p_power_of b_power_of rfl (xx_cons (x_var 0) (xx_cons (x_sub (x_sub (x_cb cal_len (x_var 2) (by rfl) m_len PySem.boot_len) (x_var 1)) (x_int)) xx_nil)))) (x_int))))
abbrev s_exchanged_order : Stmt := topS 8
theorem sc_exchanged_order : FnScope ["order", "one", "other", "found"] ["order", "one", "other"] (defScope s_exchanged_order) := ⟨rfl, rfl, rfl, by decide +kernel, rfl, by decide +kernel, by decide +kernel⟩
theorem ok_exchanged_order {P : Program} {w : World} {K : PySem.W.Frag} {mg : Str → Option Value} {base : Heap} {f : Addr} {fd : FuncData} (Fn : Fun K "exchanged_order" "exchanged_order" s_exchanged_order f fd)
    (m_tuple : mg "tuple" = none)
    (m_list : mg "list" = none) :
    FnOk P w K mg base CX0 1 f fd ["order", "one", "other"] (spD 3 Kx.g_exchanged_order) := fn_data Fn sc_exchanged_order rfl rfl fun cdv A outer s H E hr =>
    xb_cons (xs_setA 3 (fun h => ps_set (i := 3) sc_exchanged_order.nd rfl (.inl rfl) h) (xa_own (xl_ct cal_list (x_var 0) (by rfl) m_list boot_list)))
    (xb_cons (xs_setIx2 (fun ho ho2 hi hj ha => ps_asg (pe_tup ha) (pg_tup rfl (pgs_cons (pg_sub ho hi set_list) (pgs_cons (pg_sub ho2 hj set_list) pgs_nil)))) (x_var 3) (x_var 3) (x_var 1) (x_var 2) (xx_cons (x_ix (u1 hr) (x_var 0) (x_var 2) (fun _ _ => rfl) (fun _ _ => rfl)) (xx_cons (x_ix (u1 hr) (x_var 0) (x_var 1) (fun _ _ => rfl) (fun _ _ => rfl)) xx_nil)))
    (xb_one (xs_ret (x_ct cal_tuple (x_var 3) (by rfl) m_tuple boot_tuple))))
abbrev s_exchange_row : Stmt := topS 9
theorem sc_exchange_row : FnScope ["m", "k", "order", "inner", "outer", "goal", "step", "row", "block", "who", "digit", "at"] ["m", "k", "order", "inner", "outer"] (defScope s_exchange_row) := ⟨rfl, rfl, rfl, by decide +kernel, rfl, by decide +kernel, by decide +kernel⟩
theorem ok_exchange_row {P : Program} {w : World} {K : PySem.W.Frag} {mg : Str → Option Value} {base : Heap} {f : Addr} {fd : FuncData} (Fn : Fun K "exchange_row" "exchange_row" s_exchange_row f fd)
    {f_power_of : Addr} {d_power_of : FuncData} (G_power_of : FnOk P w K mg base CX0 1 f_power_of d_power_of ["m", "many"] (spD 2 g_power_of)) (h_power_of : mg "power_of" = some (.ref f_power_of)) (p_power_of : PySem.W.keepIn K (.ref f_power_of) = true)
    (b_power_of : Binds K d_power_of ["m", "many"] [])
    {f_laid_by : Addr} {d_laid_by : FuncData} (G_laid_by : FnOk P w K mg base CX0 4 f_laid_by d_laid_by ["m", "k", "order"] (spD 3 g_laid_by)) (h_laid_by : mg "laid_by" = some (.ref f_laid_by)) (p_laid_by : PySem.W.keepIn K (.ref f_laid_by) = true)
    (b_laid_by : Binds K d_laid_by ["m", "k", "order"] [])
    {f_exchanged_order : Addr} {d_exchanged_order : FuncData} (G_exchanged_order : FnOk P w K mg base CX0 1 f_exchanged_order d_exchanged_order ["order", "one", "other"] (spD 3 g_exchanged_order)) (h_exchanged_order : mg "exchanged_order" = some (.ref f_exchanged_order)) (p_exchanged_order : PySem.W.keepIn K (.ref f_exchanged_order) = true)
    (b_exchanged_order : Binds K d_exchanged_order ["order", "one", "other"] [])
    (m_tuple : mg "tuple" = none)
    (m_range : mg "range" = none)
    (m_len : mg "len" = none) :
    FnOk P w K mg base CX0 5 f fd ["m", "k", "order", "inner", "outer"] (spD 5 Kx.g_exchange_row) := fn_data Fn sc_exchange_row rfl rfl fun cdv A outer s H E hr =>
    xb_cons (xs_set 5 (fun h => ps_set (i := 5) sc_exchange_row.nd rfl (.inr rfl) h) (x_ix (u1 hr) (x_call G_laid_by (hr.mono (by decide)) (by rfl) h_laid_by p_laid_by b_laid_by rfl (xx_cons (x_var 0) (xx_cons (x_var 1) (xx_cons (x_call G_exchanged_order (hr.mono (by decide)) (by rfl) h_exchanged_order p_exchanged_order b_exchanged_order rfl (xx_cons (x_var 2) (xx_cons (x_var 3) (xx_cons (x_var 4) xx_nil)))) xx_nil)))) (x_int) (fun _ _ => rfl) (fun _ _ => rfl)))
    (xb_cons (xs_parT2 (fun ha => ps_asg (pe_tup ha) (pg_tup rfl (pgs_cons (pg_name (i := 6) sc_exchange_row.nd rfl (.inr rfl)) (pgs_cons (pg_name (i := 7) sc_exchange_row.nd rfl (.inl rfl)) pgs_nil)))) (xas_cons (xa_v (x_call G_power_of (hr.mono (by decide)) (by rfl) h_power_of p_power_of b_power_of rfl (xx_cons (x_var 0) (xx_cons (x_sub (x_var 4) (x_var 1)) xx_nil)))) (xas_cons (xa_own (xl_lst xx_nil)) xas_nil)))
    (xb_cons (xs_for (xf_range1 (by rfl) m_range (x_cb cal_len (x_var 5) (by rfl) m_len PySem.boot_len)) (pg_name (i := 8) sc_exchange_row.nd rfl (.inr rfl)) (gfor1 8) (xb_one (xs_if (xt_cmp (ck_eq hr.units) (x_mod (x_div (x_var 8) (x_var 6)) (x_var 0)) (x_int) (nomark _)) (xb_cons (xs_set 9 (fun h => ps_set (i := 9) sc_exchange_row.nd rfl (.inl rfl) h) (x_ct cal_tuple (x_frz (xl_comp rfl sc_exchange_row.nd (xf_range1 (by rfl) m_range (x_var 0)).xi (blkOk_by (own := [("digit", 10)]) (by kernel_rfl)) (gok1 10) (fun _ _ _ _ _ => pg_name (i := 10) sc_exchange_row.nd rfl (by first | exact .inl rfl | exact .inr rfl)) (fun _ _ _ _ _ => pts_yes) (fun _ _ _ _ _ => x_add (x_var 8) (x_mul (x_var 10) (x_var 6))))) (by rfl) m_tuple boot_tuple))
    (xb_one (xs_app (fun ho he => ps_expr (pe_bm F.plainAttrs_list F.slot_list_append F.type_list_append mt_append ho (pa_cons he pa_nil))) (x_var 7) (x_tup (xx_cons (x_var 9) (xx_cons (x_ct cal_tuple (x_frz (xl_comp rfl sc_exchange_row.nd (xi_seq (x_var 9)) (blkOk_by (own := [("at", 11)]) (by kernel_rfl)) (gok1 11) (fun _ _ _ _ _ => pg_name (i := 11) sc_exchange_row.nd rfl (by first | exact .inl rfl | exact .inr rfl)) (fun _ _ _ _ _ => pts_yes) (fun _ _ _ _ _ => x_ix (u1 hr) (x_var 5) (x_var 11) (fun _ _ => rfl) (fun _ _ => rfl)))) (by rfl) m_tuple boot_tuple) xx_nil)))))) (xb_nil))) (fun hi hb => ps_for PassesOwn.never rfl hi (pg_name (i := 8) sc_exchange_row.nd rfl (.inr rfl)) hb))
    (xb_one (xs_ret (x_ct cal_tuple (x_var 7) (by rfl) m_tuple boot_tuple)))))
abbrev s_rings_of : Stmt := topS 10
theorem sc_rings_of : FnScope ["names", "found", "seen", "block", "ring", "at"] ["names"] (defScope s_rings_of) := ⟨rfl, rfl, rfl, by decide +kernel, rfl, by decide +kernel, by decide +kernel⟩
theorem ok_rings_of {P : Program} {w : World} {K : PySem.W.Frag} {mg : Str → Option Value} {base : Heap} {f : Addr} {fd : FuncData} (Fn : Fun K "rings_of" "rings_of" s_rings_of f fd)
    (m_range : mg "range" = none)
    (m_len : mg "len" = none) :
    FnOk P w K mg base CX0 1 f fd ["names"] (spD 1 Kx.g_rings_of) := fn_data Fn sc_rings_of rfl rfl fun cdv A outer s H E hr =>
    xb_cons (xs_par2 (fun ha => ps_par rfl sc_rings_of.nd rfl rfl (by decide) rfl rfl ha (by rfl)) (xas_cons (xa_own (xl_lst xx_nil)) (xas_cons (xa_own (xl_lst xx_nil)) xas_nil)))
    (xb_cons (xs_for (xf_range1 (by rfl) m_range (x_cb cal_len (x_var 0) (by rfl) m_len PySem.boot_len)) (pg_name (i := 3) sc_rings_of.nd rfl (.inl rfl)) (gfor1 3) (xb_cons (xs_par2 (fun ha => ps_par rfl sc_rings_of.nd rfl rfl (by decide) rfl rfl ha (by rfl)) (xas_cons (xa_own (xl_lst xx_nil)) (xas_cons (xa_v (x_var 3)) xas_nil)))
    (xb_cons (xs_while PassesOwn.never (xt_cmp ck_notIn (x_var 5) (x_var 2) rfl) (xb_cons (xs_app (fun ho he => ps_expr (pe_bm F.plainAttrs_list F.slot_list_append F.type_list_append mt_append ho (pa_cons he pa_nil))) (x_var 2) (x_var 5))
    (xb_cons (xs_app (fun ho he => ps_expr (pe_bm F.plainAttrs_list F.slot_list_append F.type_list_append mt_append ho (pa_cons he pa_nil))) (x_var 4) (x_var 5))
    (xb_one (xs_set 5 (fun h => ps_set (i := 5) sc_rings_of.nd rfl (.inl rfl) h) (x_ix (u1 hr) (x_var 0) (x_var 5) (fun _ _ => rfl) (fun _ _ => rfl)))))))
    (xb_one (xs_if (xt_tru (x_var 4)) (xb_one (xs_app (fun ho he => ps_expr (pe_bm F.plainAttrs_list F.slot_list_append F.type_list_append mt_append ho (pa_cons he pa_nil))) (x_var 1) (x_var 4))) (xb_nil))))) (fun hi hb => ps_for PassesOwn.never rfl hi (pg_name (i := 3) sc_rings_of.nd rfl (.inl rfl)) hb))
    (xb_one (xs_ret (x_var 1))))
abbrev s_ring_row : Stmt := topS 11
theorem sc_ring_row : FnScope ["blocks", "ring", "m", "row", "part", "told", "who", "at", "block", "inside"] ["blocks", "ring", "m"] (defScope s_ring_row) := ⟨rfl, rfl, rfl, by decide +kernel, rfl, by decide +kernel, by decide +kernel⟩
theorem ok_ring_row {P : Program} {w : World} {K : PySem.W.Frag} {mg : Str → Option Value} {base : Heap} {f : Addr} {fd : FuncData} (Fn : Fun K "ring_row" "ring_row" s_ring_row f fd)
    (m_len : mg "len" = none)
    (m_enumerate : mg "enumerate" = none)
    (m_tuple : mg "tuple" = none)
    (m_sorted : mg "sorted" = none) :
    FnOk P w K mg base CX0 1 f fd ["blocks", "ring", "m"] (spD 3 Kx.g_ring_row) := fn_data Fn sc_ring_row rfl rfl fun cdv A outer s H E hr =>
    xb_cons (xs_setA 3 (fun h => ps_set (i := 3) sc_ring_row.nd rfl (.inl rfl) h) (xa_own (xl_lst xx_nil)))
    (xb_cons (xs_while PassesOwn.never (xt_cmp ck_gt (x_cb cal_len (x_var 1) (by rfl) m_len PySem.boot_len) (x_int) (nomark _)) (xb_cons (xs_set 4 (fun h => ps_set (i := 4) sc_ring_row.nd rfl (.inr rfl) h) (x_sl (x_var 1) xo_none (xo_some (x_var 2))))
    (xb_cons (xs_set 5 (fun h => ps_set (i := 5) sc_ring_row.nd rfl (.inr rfl) h) (x_dc rfl sc_ring_row.nd (xf_enum (by rfl) m_enumerate (x_var 4)).xi (blkOk_by (own := [("at", 7), ("block", 8)]) (by kernel_rfl)) (gok2 (i := 7) (j := 8) (by decide)) (fun _ _ _ _ _ => pg_tup rfl (pgs_cons (pg_name (i := 7) sc_ring_row.nd rfl (by first | exact .inl rfl | exact .inr rfl)) (pgs_cons (pg_name (i := 8) sc_ring_row.nd rfl (by first | exact .inl rfl | exact .inr rfl)) pgs_nil))) (fun _ _ _ _ _ => (x_ix (u1 hr) (x_var 4) (x_mod (x_add (x_var 7) (x_int)) (x_cb cal_len (x_var 4) (by rfl) m_len PySem.boot_len)) (fun _ _ => rfl) (fun _ _ => rfl))) (fun _ _ _ _ _ => (x_ix (u1 hr) (x_var 0) (x_var 8) (fun _ _ => rfl) (fun _ _ => rfl)))))
    (xb_cons (xs_set 6 (fun h => ps_set (i := 6) sc_ring_row.nd rfl (.inl rfl) h) (x_ct cal_tuple (x_frz (xl_cb cal_sorted (x_var 4) (by rfl) m_sorted (by rfl))) (by rfl) m_tuple boot_tuple))
    (xb_cons (xs_app (fun ho he => ps_expr (pe_bm F.plainAttrs_list F.slot_list_append F.type_list_append mt_append ho (pa_cons he pa_nil))) (x_var 3) (x_tup (xx_cons (x_var 6) (xx_cons (x_ct cal_tuple (x_frz (xl_comp rfl sc_ring_row.nd (xi_seq (x_var 6)) (blkOk_by (own := [("block", 8)]) (by kernel_rfl)) (gok1 8) (fun _ _ _ _ _ => pg_name (i := 8) sc_ring_row.nd rfl (by first | exact .inl rfl | exact .inr rfl)) (fun _ _ _ _ _ => pts_yes) (fun _ _ _ _ _ => x_ix (u1 hr) (x_var 5) (x_var 8) (fun _ _ => rfl) (fun _ _ => rfl)))) (by rfl) m_tuple boot_tuple) xx_nil))))
    (xb_cons (xs_set 0 (fun h => ps_set (i := 0) sc_ring_row.nd rfl (.inr rfl) h) (x_ct cal_tuple (x_frz (xl_comp rfl sc_ring_row.nd (xf_enum (by rfl) m_enumerate (x_var 0)).xi (blkOk_by (own := [("block", 8), ("inside", 9)]) (by kernel_rfl)) (gok2 (i := 8) (j := 9) (by decide)) (fun _ _ _ _ _ => pg_tup rfl (pgs_cons (pg_name (i := 8) sc_ring_row.nd rfl (by first | exact .inl rfl | exact .inr rfl)) (pgs_cons (pg_name (i := 9) sc_ring_row.nd rfl (by first | exact .inl rfl | exact .inr rfl)) pgs_nil))) (fun _ _ _ _ _ => pts_yes) (fun _ _ _ _ _ => x_get (u1 hr) (x_var 5) (x_var 8) (x_var 9) ⟨rfl, rfl, rfl, rfl⟩))) (by rfl) m_tuple boot_tuple))
    (xb_one (xs_set 1 (fun h => ps_set (i := 1) sc_ring_row.nd rfl (.inl rfl) h) (x_frz (xl_star1 (x_ix (u1 hr) (x_var 1) (x_int) (fun _ _ => rfl) (fun _ _ => rfl)) (x_sl (x_var 1) (xo_some (x_var 2)) xo_none)))))))))))
    (xb_one (xs_ret (x_var 3))))
abbrev s_renaming_row : Stmt := topS 12
theorem sc_renaming_row : FnScope ["standing", "names", "m", "row", "ring"] ["standing", "names", "m"] (defScope s_renaming_row) := ⟨rfl, rfl, rfl, by decide +kernel, rfl, by decide +kernel, by decide +kernel⟩
theorem ok_renaming_row {P : Program} {w : World} {K : PySem.W.Frag} {mg : Str → Option Value} {base : Heap} {f : Addr} {fd : FuncData} (Fn : Fun K "renaming_row" "renaming_row" s_renaming_row f fd)
    {f_rings_of : Addr} {d_rings_of : FuncData} (G_rings_of : FnOk P w K mg base CX0 1 f_rings_of d_rings_of ["names"] (spD 1 g_rings_of)) (h_rings_of : mg "rings_of" = some (.ref f_rings_of)) (p_rings_of : PySem.W.keepIn K (.ref f_rings_of) = true)
    (b_rings_of : Binds K d_rings_of ["names"] [])
    {f_ring_row : Addr} {d_ring_row : FuncData} (G_ring_row : FnOk P w K mg base CX0 1 f_ring_row d_ring_row ["blocks", "ring", "m"] (spD 3 g_ring_row)) (h_ring_row : mg "ring_row" = some (.ref f_ring_row)) (p_ring_row : PySem.W.keepIn K (.ref f_ring_row) = true)
    (b_ring_row : Binds K d_ring_row ["blocks", "ring", "m"] [])
    (m_tuple : mg "tuple" = none) :
    FnOk P w K mg base CX0 2 f fd ["standing", "names", "m"] (spD 3 Kx.g_renaming_row) := fn_data Fn sc_renaming_row rfl rfl fun cdv A outer s H E hr =>
    xb_cons (xs_setA 3 (fun h => ps_set (i := 3) sc_renaming_row.nd rfl (.inl rfl) h) (xa_own (xl_lst xx_nil)))
    (xb_cons (xs_for (xf_seq (x_call G_rings_of (hr.mono (by decide)) (by rfl) h_rings_of p_rings_of b_rings_of rfl (xx_cons (x_var 1) xx_nil))) (pg_name (i := 4) sc_renaming_row.nd rfl (.inl rfl)) (gfor1 4) (xb_one (xs_ext (fun ho he => ps_expr (pe_bm F.plainAttrs_list F.slot_list_extend F.type_list_extend mt_ext2 ho (pa_cons he pa_nil))) (x_var 3) (x_call G_ring_row (hr.mono (by decide)) (by rfl) h_ring_row p_ring_row b_ring_row rfl (xx_cons (x_ix (u1 hr) (x_var 0) (x_int) (fun _ _ => rfl) (fun _ _ => rfl)) (xx_cons (x_var 4) (xx_cons (x_var 2) xx_nil)))))) (fun hi hb => ps_for PassesOwn.never rfl hi (pg_name (i := 4) sc_renaming_row.nd rfl (.inl rfl)) hb))
    (xb_one (xs_ret (x_ct cal_tuple (x_var 3) (by rfl) m_tuple boot_tuple))))
abbrev s_turned_order : Stmt := topS 14
theorem sc_turned_order : FnScope ["i", "j"] ["i", "j"] (defScope s_turned_order) := ⟨rfl, rfl, rfl, by decide +kernel, rfl, by decide +kernel, by decide +kernel⟩
theorem ok_turned_order {P : Program} {w : World} {K : PySem.W.Frag} {mg : Str → Option Value} {base : Heap} {f : Addr} {fd : FuncData} (Fn : Fun K "turned_order" "turned_order" s_turned_order f fd)
    (m_range : mg "range" = none)
    (m_tuple : mg "tuple" = none) :
    FnOk P w K mg base CX0 1 f fd ["i", "j"] (spD 2 Kx.g_turned_order) := fn_data Fn sc_turned_order rfl rfl fun cdv A outer s H E hr =>
    xb_one (xs_ret (x_ct cal_ptup (x_frz (xl_starR rfl (by rfl) m_range (x_var 1) (x_add (x_var 0) (x_var 1)) (x_var 1))) (by rfl) m_tuple boot_tuple))
abbrev s_to_bring : Stmt := topS 16
theorem sc_to_bring : FnScope ["k", "order", "wanted", "found", "used", "free", "outer", "left", "entry"] ["k", "order"] (defScope s_to_bring) := ⟨rfl, rfl, rfl, by decide +kernel, rfl, by decide +kernel, by decide +kernel⟩
theorem ok_to_bring {P : Program} {w : World} {K : PySem.W.Frag} {mg : Str → Option Value} {base : Heap} {f : Addr} {fd : FuncData} (Fn : Fun K "to_bring" "to_bring" s_to_bring f fd)
    (m_list : mg "list" = none)
    (m_zip : mg "zip" = none)
    (m_range : mg "range" = none)
    (m_len : mg "len" = none) :
    FnOk P w K mg base CX0 1 f fd ["k", "order"] (spD 2 Kx.g_to_bring) := fn_data Fn sc_to_bring rfl rfl fun cdv A outer s H E hr =>
    xb_cons (xs_parT3 (fun ha => ps_asg (pe_tup ha) (pg_tup rfl (pgs_cons (pg_name (i := 2) sc_to_bring.nd rfl (.inr rfl)) (pgs_cons (pg_name (i := 3) sc_to_bring.nd rfl (.inl rfl)) (pgs_cons (pg_name (i := 4) sc_to_bring.nd rfl (.inr rfl)) pgs_nil))))) (xas_cons (xa_v (x_sl (x_var 1) (xo_some (x_var 0)) xo_none)) (xas_cons (xa_own (xl_lst xx_nil)) (xas_cons (xa_own (xl_lst xx_nil)) xas_nil))))
    (xb_cons (xs_comp (ps_setLc (i := 5) rfl sc_to_bring.nd rfl rfl (sw_true rfl rfl rfl (by decide +kernel)) (xf_range2 (by rfl) m_range (x_var 0) (x_cb cal_len (x_var 1) (by rfl) m_len PySem.boot_len)).xi (blkOk_by (own := [("outer", 6)]) (by kernel_rfl)) (fun _ _ _ _ _ => pg_name (i := 6) sc_to_bring.nd rfl (by first | exact .inl rfl | exact .inr rfl)) (fun _ _ _ _ _ => pts_if (xt_cmp ck_notIn (x_var 6) (x_var 2) rfl)) (fun _ _ _ _ _ => x_var 6)) (gok1 6))
    (xb_cons (xs_for (xf_seq (x_var 5)) (pg_name (i := 6) sc_to_bring.nd rfl (.inl rfl)) (gfor1 6) (xb_one (xs_if (xt_cmp ck_lt (x_ix (u1 hr) (x_var 1) (x_var 6) (fun _ _ => rfl) (fun _ _ => rfl)) (x_var 0) (nomark _)) (xb_cons (xs_app (fun ho he => ps_expr (pe_bm F.plainAttrs_list F.slot_list_append F.type_list_append mt_append ho (pa_cons he pa_nil))) (x_var 3) (x_tup (xx_cons (x_ix (u1 hr) (x_var 1) (x_var 6) (fun _ _ => rfl) (fun _ _ => rfl)) (xx_cons (x_var 6) xx_nil))))
    (xb_one (xs_app (fun ho he => ps_expr (pe_bm F.plainAttrs_list F.slot_list_append F.type_list_append mt_append ho (pa_cons he pa_nil))) (x_var 4) (x_ix (u1 hr) (x_var 1) (x_var 6) (fun _ _ => rfl) (fun _ _ => rfl))))) (xb_nil))) (fun hi hb => ps_for PassesOwn.never rfl hi (pg_name (i := 6) sc_to_bring.nd rfl (.inl rfl)) hb))
    (xb_cons (xs_comp (ps_setLc (i := 7) rfl sc_to_bring.nd rfl rfl (sw_true rfl rfl rfl (by decide +kernel)) (xi_seq (x_var 2)) (blkOk_by (own := [("entry", 8)]) (by kernel_rfl)) (fun _ _ _ _ _ => pg_name (i := 8) sc_to_bring.nd rfl (by first | exact .inl rfl | exact .inr rfl)) (fun _ _ _ _ _ => pts_if ((xt_and (xt_cmp ck_lt (x_var 8) (x_var 0) (nomark _)) (xt_and1 (xt_cmp ck_notIn (x_var 8) (x_var 4) rfl))).pt)) (fun _ _ _ _ _ => x_var 8)) (gok1 8))
    (xb_one (xs_ret (x_add (x_var 3) (x_frz (xl_zip rfl (by rfl) m_list (by rfl) m_zip (x_var 7) (x_frz (xl_comp rfl sc_to_bring.nd (xi_seq (x_var 5)) (blkOk_by (own := [("outer", 6)]) (by kernel_rfl)) (gok1 6) (fun _ _ _ _ _ => pg_name (i := 6) sc_to_bring.nd rfl (by first | exact .inl rfl | exact .inr rfl)) (fun _ _ _ _ _ => pts_if (xt_cmp ck_ge (x_ix (u1 hr) (x_var 1) (x_var 6) (fun _ _ => rfl) (fun _ _ => rfl)) (x_var 0) (nomark _))) (fun _ _ _ _ _ => x_var 6)))))))))))
abbrev s_brought : Stmt := topS 17
theorem sc_brought : FnScope ["m", "k", "order", "row", "now", "inner", "outer"] ["m", "k", "order"] (defScope s_brought) := ⟨rfl, rfl, rfl, by decide +kernel, rfl, by decide +kernel, by decide +kernel⟩
theorem ok_brought {P : Program} {w : World} {K : PySem.W.Frag} {mg : Str → Option Value} {base : Heap} {f : Addr} {fd : FuncData} (Fn : Fun K "brought" "brought" s_brought f fd)
    {f_to_bring : Addr} {d_to_bring : FuncData} (G_to_bring : FnOk P w K mg base CX0 1 f_to_bring d_to_bring ["k", "order"] (spD 2 g_to_bring)) (h_to_bring : mg "to_bring" = some (.ref f_to_bring)) (p_to_bring : PySem.W.keepIn K (.ref f_to_bring) = true)
    (b_to_bring : Binds K d_to_bring ["k", "order"] [])
    {f_exchanged_order : Addr} {d_exchanged_order : FuncData} (G_exchanged_order : FnOk P w K mg base CX0 1 f_exchanged_order d_exchanged_order ["order", "one", "other"] (spD 3 g_exchanged_order)) (h_exchanged_order : mg "exchanged_order" = some (.ref f_exchanged_order)) (p_exchanged_order : PySem.W.keepIn K (.ref f_exchanged_order) = true)
    (b_exchanged_order : Binds K d_exchanged_order ["order", "one", "other"] [])
    {f_exchange_row : Addr} {d_exchange_row : FuncData} (G_exchange_row : FnOk P w K mg base CX0 5 f_exchange_row d_exchange_row ["m", "k", "order", "inner", "outer"] (spD 5 g_exchange_row)) (h_exchange_row : mg "exchange_row" = some (.ref f_exchange_row)) (p_exchange_row : PySem.W.keepIn K (.ref f_exchange_row) = true)
    (b_exchange_row : Binds K d_exchange_row ["m", "k", "order", "inner", "outer"] [])
    (m_tuple : mg "tuple" = none)
    (m_range : mg "range" = none)
    (m_len : mg "len" = none) :
    FnOk P w K mg base CX0 6 f fd ["m", "k", "order"] (spD 3 Kx.g_brought) := fn_data Fn sc_brought rfl rfl fun cdv A outer s H E hr =>
    xb_cons (xs_par2 (fun ha => ps_par rfl sc_brought.nd rfl rfl (by decide) rfl rfl ha (by rfl)) (xas_cons (xa_own (xl_lst xx_nil)) (xas_cons (xa_v (x_tupRange rfl (by rfl) m_tuple (by rfl) m_range (x_cb cal_len (x_var 2) (by rfl) m_len PySem.boot_len))) xas_nil)))
    (xb_cons (xs_for (xf_seq (x_call G_to_bring (hr.mono (by decide)) (by rfl) h_to_bring p_to_bring b_to_bring rfl (xx_cons (x_var 1) (xx_cons (x_var 2) xx_nil)))) (pg_tup rfl (pgs_cons (pg_name (i := 5) sc_brought.nd rfl (.inl rfl)) (pgs_cons (pg_name (i := 6) sc_brought.nd rfl (.inl rfl)) pgs_nil))) (gfor2 5 6) (xb_cons (xs_ext (fun ho he => ps_expr (pe_bm F.plainAttrs_list F.slot_list_extend F.type_list_extend mt_ext2 ho (pa_cons he pa_nil))) (x_var 3) (x_call G_exchange_row (hr.mono (by decide)) (by rfl) h_exchange_row p_exchange_row b_exchange_row rfl (xx_cons (x_var 0) (xx_cons (x_var 1) (xx_cons (x_var 4) (xx_cons (x_var 5) (xx_cons (x_var 6) xx_nil)))))))
    (xb_one (xs_set 4 (fun h => ps_set (i := 4) sc_brought.nd rfl (.inl rfl) h) (x_call G_exchanged_order (hr.mono (by decide)) (by rfl) h_exchanged_order p_exchanged_order b_exchanged_order rfl (xx_cons (x_var 4) (xx_cons (x_var 5) (xx_cons (x_var 6) xx_nil))))))) (fun hi hb => ps_for PassesOwn.never rfl hi (pg_tup rfl (pgs_cons (pg_name (i := 5) sc_brought.nd rfl (.inl rfl)) (pgs_cons (pg_name (i := 6) sc_brought.nd rfl (.inl rfl)) pgs_nil))) hb))
    (xb_one (xs_ret (x_tup (xx_cons (x_ct cal_tuple (x_var 3) (by rfl) m_tuple boot_tuple) (xx_cons (x_var 4) xx_nil))))))
abbrev s_names_between : Stmt := topS 18
theorem sc_names_between : FnScope ["m", "k", "now", "order", "found", "block", "name", "place", "entry"] ["m", "k", "now", "order"] (defScope s_names_between) := ⟨rfl, rfl, rfl, by decide +kernel, rfl, by decide +kernel, by decide +kernel⟩
theorem ok_names_between {P : Program} {w : World} {K : PySem.W.Frag} {mg : Str → Option Value} {base : Heap} {f : Addr} {fd : FuncData} (Fn : Fun K "names_between" "names_between" s_names_between f fd)
    {f_power_of : Addr} {d_power_of : FuncData} (G_power_of : FnOk P w K mg base CX0 1 f_power_of d_power_of ["m", "many"] (spD 2 g_power_of)) (h_power_of : mg "power_of" = some (.ref f_power_of)) (p_power_of : PySem.W.keepIn K (.ref f_power_of) = true)
    (b_power_of : Binds K d_power_of ["m", "many"] [])
    {f_digit_of : Addr} {d_digit_of : FuncData} (G_digit_of : FnOk P w K mg base CX0 2 f_digit_of d_digit_of ["m", "x", "place"] (spD 3 g_digit_of)) (h_digit_of : mg "digit_of" = some (.ref f_digit_of)) (p_digit_of : PySem.W.keepIn K (.ref f_digit_of) = true)
    (b_digit_of : Binds K d_digit_of ["m", "x", "place"] [])
    (m_tuple : mg "tuple" = none)
    (m_range : mg "range" = none)
    (m_len : mg "len" = none)
    (m_enumerate : mg "enumerate" = none) :
    FnOk P w K mg base CX0 3 f fd ["m", "k", "now", "order"] (spD 4 Kx.g_names_between) := fn_data Fn sc_names_between rfl rfl fun cdv A outer s H E hr =>
    xb_cons (xs_setA 4 (fun h => ps_set (i := 4) sc_names_between.nd rfl (.inl rfl) h) (xa_own (xl_lst xx_nil)))
    (xb_cons (xs_for (xf_range1 (by rfl) m_range (x_call G_power_of (hr.mono (by decide)) (by rfl) h_power_of p_power_of b_power_of rfl (xx_cons (x_var 0) (xx_cons (x_sub (x_cb cal_len (x_var 3) (by rfl) m_len PySem.boot_len) (x_var 1)) xx_nil)))) (pg_name (i := 5) sc_names_between.nd rfl (.inl rfl)) (gfor1 5) (xb_cons (xs_set 6 (fun h => ps_set (i := 6) sc_names_between.nd rfl (.inl rfl) h) (x_int))
    (xb_cons (xs_for (xf_enum (by rfl) m_enumerate (x_sl (x_var 2) (xo_some (x_var 1)) xo_none)) (pg_tup rfl (pgs_cons (pg_name (i := 7) sc_names_between.nd rfl (.inl rfl)) (pgs_cons (pg_name (i := 8) sc_names_between.nd rfl (.inl rfl)) pgs_nil))) (gfor2 7 8) (xb_one (xs_set 6 (fun h => ps_set (i := 6) sc_names_between.nd rfl (.inl rfl) h) (x_add (x_var 6) (x_mul (x_call G_digit_of (hr.mono (by decide)) (by rfl) h_digit_of p_digit_of b_digit_of rfl (xx_cons (x_var 0) (xx_cons (x_var 5) (xx_cons (x_var 7) xx_nil)))) (x_call G_power_of (hr.mono (by decide)) (by rfl) h_power_of p_power_of b_power_of rfl (xx_cons (x_var 0) (xx_cons (x_sub (x_index (fun ho he => pe_bmp F.plainAttrs_tuple F.slot_tuple_index F.type_tuple_index mt_index ho (pa_cons he pa_nil)) (x_var 3) (x_var 8)) (x_var 1)) xx_nil))))))) (fun hi hb => ps_for PassesOwn.never rfl hi (pg_tup rfl (pgs_cons (pg_name (i := 7) sc_names_between.nd rfl (.inl rfl)) (pgs_cons (pg_name (i := 8) sc_names_between.nd rfl (.inl rfl)) pgs_nil))) hb))
    (xb_one (xs_app (fun ho he => ps_expr (pe_bm F.plainAttrs_list F.slot_list_append F.type_list_append mt_append ho (pa_cons he pa_nil))) (x_var 4) (x_var 6))))) (fun hi hb => ps_for PassesOwn.never rfl hi (pg_name (i := 5) sc_names_between.nd rfl (.inl rfl)) hb))
    (xb_one (xs_ret (x_ct cal_tuple (x_var 4) (by rfl) m_tuple boot_tuple))))
abbrev s_named_digit_row : Stmt := topS 19
theorem sc_named_digit_row : FnScope ["m", "k", "order", "row", "now"] ["m", "k", "order"] (defScope s_named_digit_row) := ⟨rfl, rfl, rfl, by decide +kernel, rfl, by decide +kernel, by decide +kernel⟩
theorem ok_named_digit_row {P : Program} {w : World} {K : PySem.W.Frag} {mg : Str → Option Value} {base : Heap} {f : Addr} {fd : FuncData} (Fn : Fun K "named_digit_row" "named_digit_row" s_named_digit_row f fd)
    {f_names_between : Addr} {d_names_between : FuncData} (G_names_between : FnOk P w K mg base CX0 3 f_names_between d_names_between ["m", "k", "now", "order"] (spD 4 g_names_between)) (h_names_between : mg "names_between" = some (.ref f_names_between)) (p_names_between : PySem.W.keepIn K (.ref f_names_between) = true)
    (b_names_between : Binds K d_names_between ["m", "k", "now", "order"] [])
    {f_brought : Addr} {d_brought : FuncData} (G_brought : FnOk P w K mg base CX0 6 f_brought d_brought ["m", "k", "order"] (spD 3 g_brought)) (h_brought : mg "brought" = some (.ref f_brought)) (p_brought : PySem.W.keepIn K (.ref f_brought) = true)
    (b_brought : Binds K d_brought ["m", "k", "order"] []) :
    FnOk P w K mg base CX0 7 f fd ["m", "k", "order"] (spD 3 Kx.g_named_digit_row) := fn_data Fn sc_named_digit_row rfl rfl fun cdv A outer s H E hr =>
    xb_cons (xs_unp (fun h => ps_asg h (pg_tup rfl (pgs_cons (pg_name (i := 3) sc_named_digit_row.nd rfl (.inl rfl)) (pgs_cons (pg_name (i := 4) sc_named_digit_row.nd rfl (.inl rfl)) pgs_nil)))) (x_call G_brought (hr.mono (by decide)) (by rfl) h_brought p_brought b_brought rfl (xx_cons (x_var 0) (xx_cons (x_var 1) (xx_cons (x_var 2) xx_nil)))))
    (xb_one (xs_ret (x_tup (xx_cons (x_var 3) (xx_cons (x_call G_names_between (hr.mono (by decide)) (by rfl) h_names_between p_names_between b_names_between rfl (xx_cons (x_var 0) (xx_cons (x_var 1) (xx_cons (x_var 4) (xx_cons (x_var 2) xx_nil))))) xx_nil)))))
abbrev s_digit_row : Stmt := topS 20
theorem sc_digit_row : FnScope ["m", "k", "order", "row", "now"] ["m", "k", "order"] (defScope s_digit_row) := ⟨rfl, rfl, rfl, by decide +kernel, rfl, by decide +kernel, by decide +kernel⟩
theorem ok_digit_row {P : Program} {w : World} {K : PySem.W.Frag} {mg : Str → Option Value} {base : Heap} {f : Addr} {fd : FuncData} (Fn : Fun K "digit_row" "digit_row" s_digit_row f fd)
    {f_renaming_row : Addr} {d_renaming_row : FuncData} (G_renaming_row : FnOk P w K mg base CX0 2 f_renaming_row d_renaming_row ["standing", "names", "m"] (spD 3 g_renaming_row)) (h_renaming_row : mg "renaming_row" = some (.ref f_renaming_row)) (p_renaming_row : PySem.W.keepIn K (.ref f_renaming_row) = true)
    (b_renaming_row : Binds K d_renaming_row ["standing", "names", "m"] [])
    {f_names_between : Addr} {d_names_between : FuncData} (G_names_between : FnOk P w K mg base CX0 3 f_names_between d_names_between ["m", "k", "now", "order"] (spD 4 g_names_between)) (h_names_between : mg "names_between" = some (.ref f_names_between)) (p_names_between : PySem.W.keepIn K (.ref f_names_between) = true)
    (b_names_between : Binds K d_names_between ["m", "k", "now", "order"] [])
    {f_laid_by : Addr} {d_laid_by : FuncData} (G_laid_by : FnOk P w K mg base CX0 4 f_laid_by d_laid_by ["m", "k", "order"] (spD 3 g_laid_by)) (h_laid_by : mg "laid_by" = some (.ref f_laid_by)) (p_laid_by : PySem.W.keepIn K (.ref f_laid_by) = true)
    (b_laid_by : Binds K d_laid_by ["m", "k", "order"] [])
    {f_brought : Addr} {d_brought : FuncData} (G_brought : FnOk P w K mg base CX0 6 f_brought d_brought ["m", "k", "order"] (spD 3 g_brought)) (h_brought : mg "brought" = some (.ref f_brought)) (p_brought : PySem.W.keepIn K (.ref f_brought) = true)
    (b_brought : Binds K d_brought ["m", "k", "order"] []) :
    FnOk P w K mg base CX0 7 f fd ["m", "k", "order"] (spD 3 Kx.g_digit_row) := fn_data Fn sc_digit_row rfl rfl fun cdv A outer s H E hr =>
    xb_cons (xs_unp (fun h => ps_asg h (pg_tup rfl (pgs_cons (pg_name (i := 3) sc_digit_row.nd rfl (.inl rfl)) (pgs_cons (pg_name (i := 4) sc_digit_row.nd rfl (.inl rfl)) pgs_nil)))) (x_call G_brought (hr.mono (by decide)) (by rfl) h_brought p_brought b_brought rfl (xx_cons (x_var 0) (xx_cons (x_var 1) (xx_cons (x_var 2) xx_nil)))))
    (xb_one (xs_ret (x_add (x_var 3) (x_call G_renaming_row (hr.mono (by decide)) (by rfl) h_renaming_row p_renaming_row b_renaming_row rfl (xx_cons (x_call G_laid_by (hr.mono (by decide)) (by rfl) h_laid_by p_laid_by b_laid_by rfl (xx_cons (x_var 0) (xx_cons (x_var 1) (xx_cons (x_var 4) xx_nil)))) (xx_cons (x_call G_names_between (hr.mono (by decide)) (by rfl) h_names_between p_names_between b_names_between rfl (xx_cons (x_var 0) (xx_cons (x_var 1) (xx_cons (x_var 4) (xx_cons (x_var 2) xx_nil))))) (xx_cons (x_var 0) xx_nil)))))))
abbrev s_least_turning : Stmt := topS 21
theorem sc_least_turning : FnScope ["m", "i", "j", "k"] ["m", "i", "j", "k"] (defScope s_least_turning) := ⟨rfl, rfl, rfl, by decide +kernel, rfl, by decide +kernel, by decide +kernel⟩
theorem ok_least_turning {P : Program} {w : World} {K : PySem.W.Frag} {mg : Str → Option Value} {base : Heap} {f : Addr} {fd : FuncData} (Fn : Fun K "least_turning" "least_turning" s_least_turning f fd)
    {f_digit_bound : Addr} {d_digit_bound : FuncData} (G_digit_bound : FnOk P w K mg base CX0 2 f_digit_bound d_digit_bound ["m", "k", "order"] (spD 3 g_digit_bound)) (h_digit_bound : mg "digit_bound" = some (.ref f_digit_bound)) (p_digit_bound : PySem.W.keepIn K (.ref f_digit_bound) = true)
    (b_digit_bound : Binds K d_digit_bound ["m", "k", "order"] [])
    {f_turned_order : Addr} {d_turned_order : FuncData} (G_turned_order : FnOk P w K mg base CX0 1 f_turned_order d_turned_order ["i", "j"] (spD 2 g_turned_order)) (h_turned_order : mg "turned_order" = some (.ref f_turned_order)) (p_turned_order : PySem.W.keepIn K (.ref f_turned_order) = true)
    (b_turned_order : Binds K d_turned_order ["i", "j"] []) :
    FnOk P w K mg base CX0 3 f fd ["m", "i", "j", "k"] (spD 4 Kx.g_least_turning) := fn_data Fn sc_least_turning rfl rfl fun cdv A outer s H E hr =>
    xb_one (xs_ret (x_call G_digit_bound (hr.mono (by decide)) (by rfl) h_digit_bound p_digit_bound b_digit_bound rfl (xx_cons (x_var 0) (xx_cons (x_var 3) (xx_cons (x_call G_turned_order (hr.mono (by decide)) (by rfl) h_turned_order p_turned_order b_turned_order rfl (xx_cons (x_var 1) (xx_cons (x_var 2) xx_nil))) xx_nil)))))
abbrev s_law_power : Stmt := topS 27
theorem sc_law_power : FnScope ["_law_m", "_law_many", "_law_found", "_law_turn"] ["_law_m", "_law_many"] (defScope s_law_power) := ⟨rfl, rfl, rfl, by decide +kernel, rfl, by decide +kernel, by decide +kernel⟩
theorem ok_law_power {P : Program} {w : World} {K : PySem.W.Frag} {mg : Str → Option Value} {base : Heap} {f : Addr} {fd : FuncData} (Fn : Fun K "_law_power" "_law_power" s_law_power f fd)
    (m_range : mg "range" = none)
    (m_int : mg "int" = none) :
    FnOk P w K mg base CX0 1 f fd ["_law_m", "_law_many"] (spD 2 Kx.g_law_power) := fn_data Fn sc_law_power rfl rfl fun cdv A outer s H E hr =>
    xb_cons (xs_set 2 (fun h => ps_set (i := 2) sc_law_power.nd rfl (.inl rfl) h) (x_int))
    (xb_cons (xs_for (xf_range1 (by rfl) m_range (x_var 1)) (pg_name (i := 3) sc_law_power.nd rfl (.inl rfl)) (gfor1 3) (xb_one (xs_set 2 (fun h => ps_set (i := 2) sc_law_power.nd rfl (.inl rfl) h) (x_ct cal_int (x_mul (x_var 2) (x_var 0)) (by rfl) m_int (by rfl)))) (fun hi hb => ps_for PassesOwn.never rfl hi (pg_name (i := 3) sc_law_power.nd rfl (.inl rfl)) hb))
    (xb_one (xs_ret (x_var 2))))
abbrev s_law_digits : Stmt := topS 28
theorem sc_law_digits : FnScope ["_law_m", "_law_h", "_law_x", "_law_found", "_law_rest", "_law_turn"] ["_law_m", "_law_h", "_law_x"] (defScope s_law_digits) := ⟨rfl, rfl, rfl, by decide +kernel, rfl, by decide +kernel, by decide +kernel⟩
theorem ok_law_digits {P : Program} {w : World} {K : PySem.W.Frag} {mg : Str → Option Value} {base : Heap} {f : Addr} {fd : FuncData} (Fn : Fun K "_law_digits" "_law_digits" s_law_digits f fd)
    (m_range : mg "range" = none) :
    FnOk P w K mg base CX0 1 f fd ["_law_m", "_law_h", "_law_x"] (spD 3 Kx.g_law_digits) := fn_data Fn sc_law_digits rfl rfl fun cdv A outer s H E hr =>
    xb_cons (xs_par2 (fun ha => ps_par rfl sc_law_digits.nd rfl rfl (by decide) rfl rfl ha (by rfl)) (xas_cons (xa_own (xl_lst xx_nil)) (xas_cons (xa_v (x_var 2)) xas_nil)))
    (xb_cons (xs_for (xf_range1 (by rfl) m_range (x_var 1)) (pg_name (i := 5) sc_law_digits.nd rfl (.inl rfl)) (gfor1 5) (xb_cons (xs_app (fun ho he => ps_expr (pe_bm F.plainAttrs_list F.slot_list_append F.type_list_append mt_append ho (pa_cons he pa_nil))) (x_var 3) (x_mod (x_var 4) (x_var 0)))
    (xb_one (xs_set 4 (fun h => ps_set (i := 4) sc_law_digits.nd rfl (.inl rfl) h) (x_div (x_var 4) (x_var 0))))) (fun hi hb => ps_for PassesOwn.never rfl hi (pg_name (i := 5) sc_law_digits.nd rfl (.inl rfl)) hb))
    (xb_one (xs_ret (x_var 3))))
abbrev s_law_laid : Stmt := topS 29
theorem sc_law_laid : FnScope ["_law_m", "_law_k", "_law_order", "_law_h", "_law_b", "_law_blocks", "_law_x", "_law_digits_here", "_law_y", "_law_t", "_law_block"] ["_law_m", "_law_k", "_law_order"] (defScope s_law_laid) := ⟨rfl, rfl, rfl, by decide +kernel, rfl, by decide +kernel, by decide +kernel⟩
theorem ok_law_laid {P : Program} {w : World} {K : PySem.W.Frag} {mg : Str → Option Value} {base : Heap} {f : Addr} {fd : FuncData} (Fn : Fun K "_law_laid" "_law_laid" s_law_laid f fd)
    {f_law_power : Addr} {d_law_power : FuncData} (G_law_power : FnOk P w K mg base CX0 1 f_law_power d_law_power ["_law_m", "_law_many"] (spD 2 g_law_power)) (h_law_power : mg "_law_power" = some (.ref f_law_power)) (p_law_power : PySem.W.keepIn K (.ref f_law_power) = true)
    (b_law_power : Binds K d_law_power ["_law_m", "_law_many"] [])
    {f_law_digits : Addr} {d_law_digits : FuncData} (G_law_digits : FnOk P w K mg base CX0 1 f_law_digits d_law_digits ["_law_m", "_law_h", "_law_x"] (spD 3 g_law_digits)) (h_law_digits : mg "_law_digits" = some (.ref f_law_digits)) (p_law_digits : PySem.W.keepIn K (.ref f_law_digits) = true)
    (b_law_digits : Binds K d_law_digits ["_law_m", "_law_h", "_law_x"] [])
    (m_tuple : mg "tuple" = none)
    (m_range : mg "range" = none)
    (m_len : mg "len" = none) :
    FnOk P w K mg base CX0 2 f fd ["_law_m", "_law_k", "_law_order"] (spD 3 Kx.g_law_laid) := fn_data Fn sc_law_laid rfl rfl fun cdv A outer s H E hr =>
    xb_cons (xs_par2 (fun ha => ps_par rfl sc_law_laid.nd rfl rfl (by decide) rfl rfl ha (by rfl)) (xas_cons (xa_v (x_cb cal_len (x_var 2) (by rfl) m_len PySem.boot_len)) (xas_cons (xa_v (x_call G_law_power (hr.mono (by decide)) (by rfl) h_law_power p_law_power b_law_power rfl (xx_cons (x_var 0) (xx_cons (x_var 1) xx_nil)))) xas_nil)))
    (xb_cons (xs_rows (fun hi => ps_setLc (i := 5) rfl sc_law_laid.nd rfl rfl (sw_true rfl rfl rfl (by decide +kernel)) hi (blkOk_by (own := [("_law_block", 10)]) (by kernel_rfl)) (fun _ _ _ _ _ => pg_name (i := 10) sc_law_laid.nd rfl (by first | exact .inl rfl | exact .inr rfl)) (fun _ _ _ _ _ => pts_nil) (fun _ _ _ _ _ => pe_lst pa_nil)) (xf_range1 (by rfl) m_range (x_call G_law_power (hr.mono (by decide)) (by rfl) h_law_power p_law_power b_law_power rfl (xx_cons (x_var 0) (xx_cons (x_sub (x_var 3) (x_var 1)) xx_nil)))))
    (xb_cons (xs_for (xf_range1 (by rfl) m_range (x_call G_law_power (hr.mono (by decide)) (by rfl) h_law_power p_law_power b_law_power rfl (xx_cons (x_var 0) (xx_cons (x_var 3) xx_nil)))) (pg_name (i := 6) sc_law_laid.nd rfl (.inl rfl)) (gfor1 6) (xb_cons (xs_par2 (fun ha => ps_par rfl sc_law_laid.nd rfl rfl (by decide) rfl rfl ha (by rfl)) (xas_cons (xa_v (x_call G_law_digits (hr.mono (by decide)) (by rfl) h_law_digits p_law_digits b_law_digits rfl (xx_cons (x_var 0) (xx_cons (x_var 3) (xx_cons (x_var 6) xx_nil))))) (xas_cons (xa_v (x_int)) xas_nil)))
    (xb_cons (xs_for (xf_range1 (by rfl) m_range (x_var 3)) (pg_name (i := 9) sc_law_laid.nd rfl (.inl rfl)) (gfor1 9) (xb_one (xs_set 8 (fun h => ps_set (i := 8) sc_law_laid.nd rfl (.inl rfl) h) (x_add (x_var 8) (x_mul (x_ix (u1 hr) (x_var 7) (x_ix (u1 hr) (x_var 2) (x_var 9) (fun _ _ => rfl) (fun _ _ => rfl)) (fun _ _ => rfl) (fun _ _ => rfl)) (x_call G_law_power (hr.mono (by decide)) (by rfl) h_law_power p_law_power b_law_power rfl (xx_cons (x_var 0) (xx_cons (x_var 9) xx_nil))))))) (fun hi hb => ps_for PassesOwn.never rfl hi (pg_name (i := 9) sc_law_laid.nd rfl (.inl rfl)) hb))
    (xb_one (xs_app (fun ho he => ps_expr (pe_bm F.plainAttrs_list F.slot_list_append F.type_list_append mt_append ho (pa_cons he pa_nil))) (x_ix (u1 hr) (x_var 5) (x_div (x_var 8) (x_var 4)) (fun _ _ => rfl) (fun _ _ => rfl)) (x_var 6))))) (fun hi hb => ps_for PassesOwn.never rfl hi (pg_name (i := 6) sc_law_laid.nd rfl (.inl rfl)) hb))
    (xb_one (xs_ret (x_tup (xx_cons (x_var 4) (xx_cons (x_ct cal_tuple (x_frz (xl_comp rfl sc_law_laid.nd (xi_seq (x_var 5)) (blkOk_by (own := [("_law_block", 10)]) (by kernel_rfl)) (gok1 10) (fun _ _ _ _ _ => pg_name (i := 10) sc_law_laid.nd rfl (by first | exact .inl rfl | exact .inr rfl)) (fun _ _ _ _ _ => pts_yes) (fun _ _ _ _ _ => x_ct cal_tuple (x_var 10) (by rfl) m_tuple boot_tuple))) (by rfl) m_tuple boot_tuple) xx_nil)))))))
abbrev s_law_played : Stmt := topS 30
theorem sc_law_played : FnScope ["_law_standing", "_law_m", "_law_row", "_law_b", "_law_blocks", "_law_pour", "_law_who", "_law_parts", "_law_told", "_law_lain", "_law_at", "_law_part"] ["_law_standing", "_law_m", "_law_row"] (defScope s_law_played) := ⟨rfl, rfl, rfl, by decide +kernel, rfl, by decide +kernel, by decide +kernel⟩
theorem ok_law_played {P : Program} {w : World} {K : PySem.W.Frag} {mg : Str → Option Value} {base : Heap} {f : Addr} {fd : FuncData} (Fn : Fun K "_law_played" "_law_played" s_law_played f fd)
    (m_tuple : mg "tuple" = none)
    (m_zip : mg "zip" = none)
    (m_sorted : mg "sorted" = none)
    (m_list : mg "list" = none)
    (m_len : mg "len" = none)
    (m_isinstance : mg "isinstance" = none)
    (m_set : mg "set" = none) :
    FnOk P w K mg base CX0 1 f fd ["_law_standing", "_law_m", "_law_row"] (spD 3 Kx.g_law_played) := fn_data Fn sc_law_played rfl rfl fun cdv A outer s H E hr =>
    xb_cons (xs_if (xt_not (xt_val (x_isTup (x_var 2) (by rfl) m_isinstance (by rfl) (by rfl) m_tuple))) (xb_one (xs_ret (x_non))) (xb_nil))
    (xb_cons (xs_parT2 (fun ha => ps_asg (pe_tup ha) (pg_tup rfl (pgs_cons (pg_name (i := 3) sc_law_played.nd rfl (.inr rfl)) (pgs_cons (pg_name (i := 4) sc_law_played.nd rfl (.inl rfl)) pgs_nil)))) (xas_cons (xa_v (x_ix (u1 hr) (x_var 0) (x_int) (fun _ _ => rfl) (fun _ _ => rfl))) (xas_cons (xa_own (xl_ct cal_list (x_ix (u1 hr) (x_var 0) (x_int) (fun _ _ => rfl) (fun _ _ => rfl)) (by rfl) m_list boot_list)) xas_nil)))
    (xb_cons (xs_for (xf_seq (x_var 2)) (pg_name (i := 5) sc_law_played.nd rfl (.inl rfl)) (gfor1 5) (xb_cons (xs_if ((xt_or (xt_not (xt_val (x_isTup (x_var 5) (by rfl) m_isinstance (by rfl) (by rfl) m_tuple))) (xt_or (xt_cmp (ck_ne hr.units) (x_cb cal_len (x_var 5) (by rfl) m_len PySem.boot_len) (x_int) (nomark _)) (xt_or (xt_not (xt_val (x_isTup (x_ix (u1 hr) (x_var 5) (x_int) (fun _ _ => rfl) (fun _ _ => rfl)) (by rfl) m_isinstance (by rfl) (by rfl) m_tuple))) (xt_or1 (xt_not (xt_val (x_isTup (x_ix (u1 hr) (x_var 5) (x_int) (fun _ _ => rfl) (fun _ _ => rfl)) (by rfl) m_isinstance (by rfl) (by rfl) m_tuple))))))).pt) (xb_one (xs_ret (x_non))) (xb_nil))
    (xb_cons (xs_unp (fun h => ps_asg h (pg_tup rfl (pgs_cons (pg_name (i := 6) sc_law_played.nd rfl (.inl rfl)) (pgs_cons (pg_name (i := 7) sc_law_played.nd rfl (.inl rfl)) pgs_nil)))) (x_var 5))
    (xb_cons (xs_if ((xt_or (xt_cmp (ck_ne hr.units) (x_cb cal_len (x_var 6) (by rfl) m_len PySem.boot_len) (x_cb cal_len (x_var 7) (by rfl) m_len PySem.boot_len) (nomark _)) (xt_or (xt_cmp ck_lt (x_cb cal_len (x_var 6) (by rfl) m_len PySem.boot_len) (x_int) (nomark _)) (xt_or (xt_cmp ck_gt (x_cb cal_len (x_var 6) (by rfl) m_len PySem.boot_len) (x_var 1) (nomark _)) (xt_or (xt_cmp (ck_ne hr.units) (x_frz (xl_ct cal_list (x_var 6) (by rfl) m_list boot_list)) (x_frz (xl_sortedSet rfl (by rfl) m_sorted (by rfl) (by rfl) m_set (x_var 6))) (nomark _)) (xt_or (xt_cmp ck_lt (x_ix (u1 hr) (x_var 6) (x_int) (fun _ _ => rfl) (fun _ _ => rfl)) (x_int) (nomark _)) (xt_or1 (xt_cmp ck_ge (x_ix (u1 hr) (x_var 6) (x_neg) (fun _ _ => rfl) (fun _ _ => rfl)) (x_cb cal_len (x_var 4) (by rfl) m_len PySem.boot_len) (nomark _)))))))).pt) (xb_one (xs_ret (x_non))) (xb_nil))
    (xb_cons (xs_if (xt_cmp (ck_ne hr.units) (x_frz (xl_comp rfl sc_law_played.nd (xi_seq (x_var 7)) (blkOk_by (own := [("_law_part", 11)]) (by kernel_rfl)) (gok1 11) (fun _ _ _ _ _ => pg_name (i := 11) sc_law_played.nd rfl (by first | exact .inl rfl | exact .inr rfl)) (fun _ _ _ _ _ => pts_if ((xt_or (xt_not (xt_val (x_isTup (x_var 11) (by rfl) m_isinstance (by rfl) (by rfl) m_tuple))) (xt_or (xt_cmp ck_gt (x_cb cal_len (x_var 11) (by rfl) m_len PySem.boot_len) (x_var 3) (nomark _)) (xt_or1 (xt_cmp (ck_ne hr.units) (x_frz (xl_ct cal_list (x_var 11) (by rfl) m_list boot_list)) (x_frz (xl_cb cal_sorted (x_var 11) (by rfl) m_sorted (by rfl))) (nomark _))))).pt)) (fun _ _ _ _ _ => x_var 11))) (x_frz (xl_lst xx_nil)) (nomark _)) (xb_one (xs_ret (x_non))) (xb_nil))
    (xb_cons (xs_par2 (fun ha => ps_par rfl sc_law_played.nd rfl rfl (by decide) rfl rfl ha (by rfl)) (xas_cons (xa_v (x_frz (xl_lst xx_nil))) (xas_cons (xa_v (x_frz (xl_lst xx_nil))) xas_nil)))
    (xb_cons (xs_for (xf_zip (by rfl) m_zip (x_var 6) (x_var 7)) (pg_tup rfl (pgs_cons (pg_name (i := 10) sc_law_played.nd rfl (.inl rfl)) (pgs_cons (pg_name (i := 11) sc_law_played.nd rfl (.inl rfl)) pgs_nil))) (gfor2 10 11) (xb_one (xs_par2 (fun ha => ps_par rfl sc_law_played.nd rfl rfl (by decide) rfl rfl ha (by rfl)) (xas_cons (xa_v (x_add (x_var 8) (x_frz (xl_ct cal_list (x_var 11) (by rfl) m_list boot_list)))) (xas_cons (xa_v (x_add (x_var 9) (x_frz (xl_ct cal_list (x_ix (u1 hr) (x_var 4) (x_var 10) (fun _ _ => rfl) (fun _ _ => rfl)) (by rfl) m_list boot_list)))) xas_nil)))) (fun hi hb => ps_for PassesOwn.never rfl hi (pg_tup rfl (pgs_cons (pg_name (i := 10) sc_law_played.nd rfl (.inl rfl)) (pgs_cons (pg_name (i := 11) sc_law_played.nd rfl (.inl rfl)) pgs_nil))) hb))
    (xb_cons (xs_if (xt_cmp (ck_ne hr.units) (x_frz (xl_cb cal_sorted (x_var 8) (by rfl) m_sorted (by rfl))) (x_frz (xl_cb cal_sorted (x_var 9) (by rfl) m_sorted (by rfl))) (nomark _)) (xb_one (xs_ret (x_non))) (xb_nil))
    (xb_one (xs_for (xf_zip (by rfl) m_zip (x_var 6) (x_var 7)) (pg_tup rfl (pgs_cons (pg_name (i := 10) sc_law_played.nd rfl (.inl rfl)) (pgs_cons (pg_name (i := 11) sc_law_played.nd rfl (.inl rfl)) pgs_nil))) (gfor2 10 11) (xb_one (xs_setIx (fun ho hi he => ps_asg he (pg_sub ho hi set_list)) (x_var 4) (x_var 10) (x_var 11))) (fun hi hb => ps_for PassesOwn.never rfl hi (pg_tup rfl (pgs_cons (pg_name (i := 10) sc_law_played.nd rfl (.inl rfl)) (pgs_cons (pg_name (i := 11) sc_law_played.nd rfl (.inl rfl)) pgs_nil))) hb)))))))))) (fun hi hb => ps_for PassesOwn.never rfl hi (pg_name (i := 5) sc_law_played.nd rfl (.inl rfl)) hb))
    (xb_one (xs_ret (x_tup (xx_cons (x_var 3) (xx_cons (x_ct cal_tuple (x_var 4) (by rfl) m_tuple boot_tuple) xx_nil)))))))
abbrev s_law_count : Stmt := topS 31
theorem sc_law_count : FnScope ["_law_standing", "_law_block"] ["_law_standing"] (defScope s_law_count) := ⟨rfl, rfl, rfl, by decide +kernel, rfl, by decide +kernel, by decide +kernel⟩
theorem ok_law_count {P : Program} {w : World} {K : PySem.W.Frag} {mg : Str → Option Value} {base : Heap} {f : Addr} {fd : FuncData} (Fn : Fun K "_law_count" "_law_count" s_law_count f fd)
    (m_len : mg "len" = none)
    (m_sum : mg "sum" = none) :
    FnOk P w K mg base CX0 1 f fd ["_law_standing"] (spD 1 Kx.g_law_count) := fn_data Fn sc_law_count rfl rfl fun cdv A outer s H E hr =>
    xb_one (xs_ret (x_cb (cal_sum rfl) (x_frz (xl_comp rfl sc_law_count.nd (xi_seq (x_ix (u1 hr) (x_var 0) (x_int) (fun _ _ => rfl) (fun _ _ => rfl))) (blkOk_by (own := [("_law_block", 1)]) (by kernel_rfl)) (gok1 1) (fun _ _ _ _ _ => pg_name (i := 1) sc_law_count.nd rfl (by first | exact .inl rfl | exact .inr rfl)) (fun _ _ _ _ _ => pts_yes) (fun _ _ _ _ _ => x_cb cal_len (x_var 1) (by rfl) m_len PySem.boot_len))) (by rfl) m_sum (by rfl)))
abbrev s_law_places : Stmt := topS 32
theorem sc_law_places : FnScope ["_law_standing", "_law_found", "_law_at", "_law_block", "_law_record"] ["_law_standing"] (defScope s_law_places) := ⟨rfl, rfl, rfl, by decide +kernel, rfl, by decide +kernel, by decide +kernel⟩
theorem ok_law_places {P : Program} {w : World} {K : PySem.W.Frag} {mg : Str → Option Value} {base : Heap} {f : Addr} {fd : FuncData} (Fn : Fun K "_law_places" "_law_places" s_law_places f fd)
    {f_law_count : Addr} {d_law_count : FuncData} (G_law_count : FnOk P w K mg base CX0 1 f_law_count d_law_count ["_law_standing"] (spD 1 g_law_count)) (h_law_count : mg "_law_count" = some (.ref f_law_count)) (p_law_count : PySem.W.keepIn K (.ref f_law_count) = true)
    (b_law_count : Binds K d_law_count ["_law_standing"] [])
    (m_tuple : mg "tuple" = none)
    (m_enumerate : mg "enumerate" = none) :
    FnOk P w K mg base CX0 2 f fd ["_law_standing"] (spD 1 Kx.g_law_places) := fn_data Fn sc_law_places rfl rfl fun cdv A outer s H E hr =>
    xb_cons (xs_setA 1 (fun h => ps_set (i := 1) sc_law_places.nd rfl (.inl rfl) h) (xa_own (xl_rep (x_int) (x_call G_law_count (hr.mono (by decide)) (by rfl) h_law_count p_law_count b_law_count rfl (xx_cons (x_var 0) xx_nil)))))
    (xb_cons (xs_for (xf_enum (by rfl) m_enumerate (x_ix (u1 hr) (x_var 0) (x_int) (fun _ _ => rfl) (fun _ _ => rfl))) (pg_tup rfl (pgs_cons (pg_name (i := 2) sc_law_places.nd rfl (.inl rfl)) (pgs_cons (pg_name (i := 3) sc_law_places.nd rfl (.inl rfl)) pgs_nil))) (gfor2 2 3) (xb_one (xs_for (xf_seq (x_var 3)) (pg_name (i := 4) sc_law_places.nd rfl (.inl rfl)) (gfor1 4) (xb_one (xs_setIx (fun ho hi he => ps_asg he (pg_sub ho hi set_list)) (x_var 1) (x_var 4) (x_var 2))) (fun hi hb => ps_for PassesOwn.never rfl hi (pg_name (i := 4) sc_law_places.nd rfl (.inl rfl)) hb))) (fun hi hb => ps_for PassesOwn.never rfl hi (pg_tup rfl (pgs_cons (pg_name (i := 2) sc_law_places.nd rfl (.inl rfl)) (pgs_cons (pg_name (i := 3) sc_law_places.nd rfl (.inl rfl)) pgs_nil))) hb))
    (xb_one (xs_ret (x_ct cal_tuple (x_var 1) (by rfl) m_tuple boot_tuple))))
abbrev s_law_depths : Stmt := topS 33
theorem sc_law_depths : FnScope ["_law_m", "_law_most", "_law_best", "_law_x", "_law_parts", "_law_low", "_law_many", "_law_later", "_law_total", "_law_tried", "_law_i"] ["_law_m", "_law_most"] (defScope s_law_depths) := ⟨rfl, rfl, rfl, by decide +kernel, rfl, by decide +kernel, by decide +kernel⟩
theorem ok_law_depths {P : Program} {w : World} {K : PySem.W.Frag} {mg : Str → Option Value} {base : Heap} {f : Addr} {fd : FuncData} (Fn : Fun K "_law_depths" "_law_depths" s_law_depths f fd)
    (m_range : mg "range" = none)
    (m_min : mg "min" = none) :
    FnOk P w K mg base CX0 1 f fd ["_law_m", "_law_most"] (spD 2 Kx.g_law_depths) := fn_data Fn sc_law_depths rfl rfl fun cdv A outer s H E hr =>
    xb_cons (xs_setA 2 (fun h => ps_set (i := 2) sc_law_depths.nd rfl (.inr rfl) h) (xa_own (xl_lst (xx_cons (x_int) (xx_cons (x_int) xx_nil)))))
    (xb_cons (xs_for (xf_range2 (by rfl) m_range (x_int) (x_add (x_var 1) (x_int))) (pg_name (i := 3) sc_law_depths.nd rfl (.inr rfl)) (gfor1 3) (xb_cons (xs_set 4 (fun h => ps_set (i := 4) sc_law_depths.nd rfl (.inr rfl) h) (x_sl (x_var 2) xo_none xo_none))
    (xb_cons (xs_set 5 (fun h => ps_set (i := 5) sc_law_depths.nd rfl (.inl rfl) h) (x_non))
    (xb_cons (xs_for (xf_range2 (by rfl) m_range (x_int) (x_add (x_var 0) (x_int))) (pg_name (i := 6) sc_law_depths.nd rfl (.inl rfl)) (gfor1 6) (xb_cons (xs_setA 7 (fun h => ps_set (i := 7) sc_law_depths.nd rfl (.inl rfl) h) (xa_own (xl_rep (x_non) (x_add (x_var 3) (x_int)))))
    (xb_cons (xs_for (xf_range2 (by rfl) m_range (x_var 6) (x_add (x_var 3) (x_int))) (pg_name (i := 8) sc_law_depths.nd rfl (.inr rfl)) (gfor1 8) (xb_cons (xs_comp (ps_setLc (i := 9) rfl sc_law_depths.nd rfl rfl (sw_true rfl rfl rfl (by decide +kernel)) (xf_range2 (by rfl) m_range (x_int) (x_min2 rfl (x_var 3) (x_add (x_sub (x_var 8) (x_var 6)) (x_int)) (by rfl) m_min)).xi (blkOk_by (own := [("_law_i", 10)]) (by kernel_rfl)) (fun _ _ _ _ _ => pg_name (i := 10) sc_law_depths.nd rfl (by first | exact .inl rfl | exact .inr rfl)) (fun _ _ _ _ _ => pts_if ((xt_and (xt_cmp ck_lt (x_sub (x_var 8) (x_var 10)) (x_var 3) (nomark _)) (xt_and1 (xt_notN (x_ix (u1 hr) (x_var 4) (x_sub (x_var 8) (x_var 10)) (fun _ _ => rfl) (fun _ _ => rfl))))).pt)) (fun _ _ _ _ _ => x_add (x_ix (u1 hr) (x_var 2) (x_var 10) (fun _ _ => rfl) (fun _ _ => rfl)) (x_ix (u1 hr) (x_var 4) (x_sub (x_var 8) (x_var 10)) (fun _ _ => rfl) (fun _ _ => rfl)))) (gok1 10))
    (xb_one (xs_setIx (fun ho hi he => ps_asg he (pg_sub ho hi set_list)) (x_var 7) (x_var 8) (x_cb (cal_min rfl) (x_var 9) (by rfl) m_min boot_min)))) (fun hi hb => ps_for PassesOwn.never rfl hi (pg_name (i := 8) sc_law_depths.nd rfl (.inr rfl)) hb))
    (xb_cons (xs_set 4 (fun h => ps_set (i := 4) sc_law_depths.nd rfl (.inr rfl) h) (x_sl (x_var 7) xo_none (xo_some (x_var 3))))
    (xb_one (xs_set 5 (fun h => ps_set (i := 5) sc_law_depths.nd rfl (.inl rfl) h) (x_if ((xt_and (xt_notN (x_ix (u1 hr) (x_var 7) (x_var 3) (fun _ _ => rfl) (fun _ _ => rfl))) (xt_and1 ((xt_or (xt_isN (x_var 5)) (xt_or1 (xt_cmp ck_lt (x_ix (u1 hr) (x_var 7) (x_var 3) (fun _ _ => rfl) (fun _ _ => rfl)) (x_var 5) (nomark _)))).pt))).pt) (x_ix (u1 hr) (x_var 7) (x_var 3) (fun _ _ => rfl) (fun _ _ => rfl)) (x_var 5))))))) (fun hi hb => ps_for PassesOwn.never rfl hi (pg_name (i := 6) sc_law_depths.nd rfl (.inl rfl)) hb))
    (xb_one (xs_app (fun ho he => ps_expr (pe_bm F.plainAttrs_list F.slot_list_append F.type_list_append mt_append ho (pa_cons he pa_nil))) (x_var 2) (x_add (x_var 3) (x_var 5))))))) (fun hi hb => ps_for PassesOwn.never rfl hi (pg_name (i := 3) sc_law_depths.nd rfl (.inr rfl)) hb))
    (xb_one (xs_ret (x_var 2))))
abbrev s_law_bounds : Stmt := topS 34
theorem sc_law_bounds : FnScope ["_law_m", "_law_first", "_law_wish", "_law_b", "_law_blocks", "_law_best", "_law_before", "_law_now", "_law_block", "_law_wished", "_law_many", "_law_depth", "_law_goal", "_law_turns", "_law_record", "_law_at"] ["_law_m", "_law_first", "_law_wish"] (defScope s_law_bounds) := ⟨rfl, rfl, rfl, by decide +kernel, rfl, by decide +kernel, by decide +kernel⟩
theorem ok_law_bounds {P : Program} {w : World} {K : PySem.W.Frag} {mg : Str → Option Value} {base : Heap} {f : Addr} {fd : FuncData} (Fn : Fun K "_law_bounds" "_law_bounds" s_law_bounds f fd)
    {f_law_power : Addr} {d_law_power : FuncData} (G_law_power : FnOk P w K mg base CX0 1 f_law_power d_law_power ["_law_m", "_law_many"] (spD 2 g_law_power)) (h_law_power : mg "_law_power" = some (.ref f_law_power)) (p_law_power : PySem.W.keepIn K (.ref f_law_power) = true)
    (b_law_power : Binds K d_law_power ["_law_m", "_law_many"] [])
    {f_law_depths : Addr} {d_law_depths : FuncData} (G_law_depths : FnOk P w K mg base CX0 1 f_law_depths d_law_depths ["_law_m", "_law_most"] (spD 2 t_law_depths)) (h_law_depths : mg "_law_depths" = some (.ref f_law_depths)) (p_law_depths : PySem.W.keepIn K (.ref f_law_depths) = true)
    (b_law_depths : Binds K d_law_depths ["_law_m", "_law_most"] [])
    (m_len : mg "len" = none)
    (m_sorted : mg "sorted" = none)
    (m_set : mg "set" = none) :
    FnOk P w K mg base CX0 2 f fd ["_law_m", "_law_first", "_law_wish"] (spD 3 Kx.g_law_bounds) := fn_data Fn sc_law_bounds rfl rfl fun cdv A outer s H E hr =>
    xb_cons (xs_unp (fun h => ps_asg h (pg_tup rfl (pgs_cons (pg_name (i := 3) sc_law_bounds.nd rfl (.inl rfl)) (pgs_cons (pg_name (i := 4) sc_law_bounds.nd rfl (.inl rfl)) pgs_nil)))) (x_var 1))
    (xb_cons (xs_par3 (fun ha => ps_par3 rfl sc_law_bounds.nd rfl rfl rfl (by decide) (by decide) (by decide) rfl rfl rfl ha (by rfl)) (xas_cons (xa_v (x_call G_law_depths (hr.mono (by decide)) (by rfl) h_law_depths p_law_depths b_law_depths rfl (xx_cons (x_var 0) (xx_cons (x_var 3) xx_nil)))) (xas_cons (xa_v (x_int)) (xas_cons (xa_v (x_int)) xas_nil))))
    (xb_cons (xs_for (xf_seq (x_var 4)) (pg_name (i := 8) sc_law_bounds.nd rfl (.inl rfl)) (gfor1 8) (xb_cons (xs_set 9 (fun h => ps_set (i := 9) sc_law_bounds.nd rfl (.inr rfl) h) (x_frz (xl_comp rfl sc_law_bounds.nd (xi_seq (x_var 8)) (blkOk_by (own := [("_law_record", 14)]) (by kernel_rfl)) (gok1 14) (fun _ _ _ _ _ => pg_name (i := 14) sc_law_bounds.nd rfl (by first | exact .inl rfl | exact .inr rfl)) (fun _ _ _ _ _ => pts_yes) (fun _ _ _ _ _ => x_ix (u1 hr) (x_var 2) (x_var 14) (fun _ _ => rfl) (fun _ _ => rfl)))))
    (xb_one (xs_for (xf_seq (x_frz (xl_comp rfl sc_law_bounds.nd (xi_seq (x_frz (xl_sortedSet rfl (by rfl) m_sorted (by rfl) (by rfl) m_set (x_var 9)))) (blkOk_by (own := [("_law_at", 15)]) (by kernel_rfl)) (gok1 15) (fun _ _ _ _ _ => pg_name (i := 15) sc_law_bounds.nd rfl (by first | exact .inl rfl | exact .inr rfl)) (fun _ _ _ _ _ => pts_yes) (fun _ _ _ _ _ => x_count (fun ho he => pe_bm F.plainAttrs_list F.slot_list_count F.type_list_count mt_lcount ho (pa_cons he pa_nil)) (x_var 9) (x_var 15))))) (pg_name (i := 10) sc_law_bounds.nd rfl (.inl rfl)) (gfor1 10) (xb_one (xs_par2 (fun ha => ps_par rfl sc_law_bounds.nd rfl rfl (by decide) rfl rfl ha (by rfl)) (xas_cons (xa_v (x_add (x_var 6) (x_ix (u1 hr) (x_var 5) (x_var 10) (fun _ _ => rfl) (fun _ _ => rfl)))) (xas_cons (xa_v (x_mul (x_var 7) (x_call G_law_power (hr.mono (by decide)) (by rfl) h_law_power p_law_power b_law_power rfl (xx_cons (x_var 10) (xx_cons (x_var 10) xx_nil))))) xas_nil)))) (fun hi hb => ps_for PassesOwn.never rfl hi (pg_name (i := 10) sc_law_bounds.nd rfl (.inl rfl)) hb)))) (fun hi hb => ps_for PassesOwn.never rfl hi (pg_name (i := 8) sc_law_bounds.nd rfl (.inl rfl)) hb))
    (xb_cons (xs_set 11 (fun h => ps_set (i := 11) sc_law_bounds.nd rfl (.inl rfl) h) (x_div (x_sub (x_add (x_sub (x_mul (x_cb cal_len (x_var 4) (by rfl) m_len PySem.boot_len) (x_ix (u1 hr) (x_var 5) (x_var 3) (fun _ _ => rfl) (fun _ _ => rfl))) (x_var 6)) (x_mul (x_var 0) (x_var 3))) (x_int)) (x_mul (x_var 0) (x_var 3))))
    (xb_cons (xs_par2 (fun ha => ps_par rfl sc_law_bounds.nd rfl rfl (by decide) rfl rfl ha (by rfl)) (xas_cons (xa_v (x_call G_law_power (hr.mono (by decide)) (by rfl) h_law_power p_law_power b_law_power rfl (xx_cons (x_var 3) (xx_cons (x_mul (x_var 3) (x_cb cal_len (x_var 4) (by rfl) m_len PySem.boot_len)) xx_nil)))) (xas_cons (xa_v (x_int)) xas_nil)))
    (xb_cons (xs_while PassesOwn.never (xt_cmp ck_lt (x_var 7) (x_var 12) (nomark _)) (xb_one (xs_par2 (fun ha => ps_par rfl sc_law_bounds.nd rfl rfl (by decide) rfl rfl ha (by rfl)) (xas_cons (xa_v (x_mul (x_var 7) (x_call G_law_power (hr.mono (by decide)) (by rfl) h_law_power p_law_power b_law_power rfl (xx_cons (x_var 0) (xx_cons (x_mul (x_var 0) (x_var 3)) xx_nil))))) (xas_cons (xa_v (x_add (x_var 13) (x_int))) xas_nil)))))
    (xb_one (xs_ret (x_frz (xl_lst (xx_cons (x_var 11) (xx_cons (x_var 13) xx_nil)))))))))))
abbrev s_law_shares : Stmt := topS 35
theorem sc_law_shares : FnScope ["_law_b", "_law_many", "_law_records", "_law_found", "_law_record", "_law_later", "_law_parts", "_law_block", "_law_at"] ["_law_b", "_law_many", "_law_records"] (defScope s_law_shares) := ⟨rfl, rfl, rfl, by decide +kernel, rfl, by decide +kernel, by decide +kernel⟩
theorem ok_law_shares {P : Program} {w : World} {K : PySem.W.Frag} {mg : Str → Option Value} {base : Heap} {f : Addr} {fd : FuncData} (Fn : Fun K "_law_shares" "_law_shares" s_law_shares f fd)
    (m_len : mg "len" = none)
    (m_range : mg "range" = none)
    (m_tuple : mg "tuple" = none) :
    FnOk P w K mg base CX0 1 f fd ["_law_b", "_law_many", "_law_records"] (spD 3 Kx.g_law_shares) := fn_data Fn sc_law_shares rfl rfl fun cdv A outer s H E hr =>
    xb_cons (xs_set 3 (fun h => ps_set (i := 3) sc_law_shares.nd rfl (.inl rfl) h) (x_frz (xl_lst (xx_cons (x_ct cal_tuple (x_frz (xl_comp rfl sc_law_shares.nd (xf_range1 (by rfl) m_range (x_var 1)).xi (blkOk_by (own := [("_law_block", 7)]) (by kernel_rfl)) (gok1 7) (fun _ _ _ _ _ => pg_name (i := 7) sc_law_shares.nd rfl (by first | exact .inl rfl | exact .inr rfl)) (fun _ _ _ _ _ => pts_yes) (fun _ _ _ _ _ => x_tup xx_nil))) (by rfl) m_tuple boot_tuple) xx_nil))))
    (xb_cons (xs_for (xf_seq (x_var 2)) (pg_name (i := 4) sc_law_shares.nd rfl (.inr rfl)) (gfor1 4) (xb_cons (xs_set 5 (fun h => ps_set (i := 5) sc_law_shares.nd rfl (.inl rfl) h) (x_frz (xl_lst xx_nil)))
    (xb_cons (xs_for (xf_seq (x_var 3)) (pg_name (i := 6) sc_law_shares.nd rfl (.inr rfl)) (gfor1 6) (xb_one (xs_set 5 (fun h => ps_set (i := 5) sc_law_shares.nd rfl (.inl rfl) h) (x_add (x_var 5) (x_frz (xl_comp rfl sc_law_shares.nd (xf_range1 (by rfl) m_range (x_var 1)).xi (blkOk_by (own := [("_law_at", 8)]) (by kernel_rfl)) (gok1 8) (fun _ _ _ _ _ => pg_name (i := 8) sc_law_shares.nd rfl (by first | exact .inl rfl | exact .inr rfl)) (fun _ _ _ _ _ => pts_if (xt_cmp ck_lt (x_cb cal_len (x_ix (u1 hr) (x_var 6) (x_var 8) (fun _ _ => rfl) (fun _ _ => rfl)) (by rfl) m_len PySem.boot_len) (x_var 0) (nomark _))) (fun _ _ _ _ _ => x_add (x_add (x_sl (x_var 6) xo_none (xo_some (x_var 8))) (x_tup (xx_cons (x_add (x_ix (u1 hr) (x_var 6) (x_var 8) (fun _ _ => rfl) (fun _ _ => rfl)) (x_tup (xx_cons (x_var 4) xx_nil))) xx_nil))) (x_sl (x_var 6) (xo_some (x_add (x_var 8) (x_int))) xo_none))))))) (fun hi hb => ps_for PassesOwn.never rfl hi (pg_name (i := 6) sc_law_shares.nd rfl (.inr rfl)) hb))
    (xb_one (xs_set 3 (fun h => ps_set (i := 3) sc_law_shares.nd rfl (.inl rfl) h) (x_var 5))))) (fun hi hb => ps_for PassesOwn.never rfl hi (pg_name (i := 4) sc_law_shares.nd rfl (.inr rfl)) hb))
    (xb_one (xs_ret (x_var 3))))
abbrev s_law_lots : Stmt := topS 36
theorem sc_law_lots : FnScope ["_law_many", "_law_m", "_law_found", "_law_at", "_law_lot"] ["_law_many", "_law_m"] (defScope s_law_lots) := ⟨rfl, rfl, rfl, by decide +kernel, rfl, by decide +kernel, by decide +kernel⟩
theorem ok_law_lots {P : Program} {w : World} {K : PySem.W.Frag} {mg : Str → Option Value} {base : Heap} {f : Addr} {fd : FuncData} (Fn : Fun K "_law_lots" "_law_lots" s_law_lots f fd)
    (m_len : mg "len" = none)
    (m_range : mg "range" = none) :
    FnOk P w K mg base CX0 1 f fd ["_law_many", "_law_m"] (spD 2 Kx.g_law_lots) := fn_data Fn sc_law_lots rfl rfl fun cdv A outer s H E hr =>
    xb_cons (xs_set 2 (fun h => ps_set (i := 2) sc_law_lots.nd rfl (.inl rfl) h) (x_frz (xl_lst (xx_cons (x_tup xx_nil) xx_nil))))
    (xb_cons (xs_for (xf_range1 (by rfl) m_range (x_var 0)) (pg_name (i := 3) sc_law_lots.nd rfl (.inr rfl)) (gfor1 3) (xb_one (xs_set 2 (fun h => ps_set (i := 2) sc_law_lots.nd rfl (.inl rfl) h) (x_add (x_var 2) (x_frz (xl_comp rfl sc_law_lots.nd (xi_seq (x_var 2)) (blkOk_by (own := [("_law_lot", 4)]) (by kernel_rfl)) (gok1 4) (fun _ _ _ _ _ => pg_name (i := 4) sc_law_lots.nd rfl (by first | exact .inl rfl | exact .inr rfl)) (fun _ _ _ _ _ => pts_if (xt_cmp ck_lt (x_cb cal_len (x_var 4) (by rfl) m_len PySem.boot_len) (x_var 1) (nomark _))) (fun _ _ _ _ _ => x_add (x_var 4) (x_tup (xx_cons (x_var 3) xx_nil)))))))) (fun hi hb => ps_for PassesOwn.never rfl hi (pg_name (i := 3) sc_law_lots.nd rfl (.inr rfl)) hb))
    (xb_one (xs_ret (x_frz (xl_comp rfl sc_law_lots.nd (xi_seq (x_var 2)) (blkOk_by (own := [("_law_lot", 4)]) (by kernel_rfl)) (gok1 4) (fun _ _ _ _ _ => pg_name (i := 4) sc_law_lots.nd rfl (by first | exact .inl rfl | exact .inr rfl)) (fun _ _ _ _ _ => pts_if (xt_cmp ck_gt (x_cb cal_len (x_var 4) (by rfl) m_len PySem.boot_len) (x_int) (nomark _))) (fun _ _ _ _ _ => x_var 4))))))
abbrev s_law_uniform : Stmt := topS 37
theorem sc_law_uniform : FnScope ["_law_b", "_law_blocks", "_law_m", "_law_known", "_law_fresh", "_law_turn", "_law_later", "_law_some", "_law_who", "_law_pool", "_law_at", "_law_parts", "_law_now", "_law_part", "_law_block"] ["_law_b", "_law_blocks", "_law_m"] (defScope s_law_uniform) := ⟨rfl, rfl, rfl, by decide +kernel, rfl, by decide +kernel, by decide +kernel⟩
theorem ok_law_uniform {P : Program} {w : World} {K : PySem.W.Frag} {mg : Str → Option Value} {base : Heap} {f : Addr} {fd : FuncData} (Fn : Fun K "_law_uniform" "_law_uniform" s_law_uniform f fd)
    {f_law_lots : Addr} {d_law_lots : FuncData} (G_law_lots : FnOk P w K mg base CX0 1 f_law_lots d_law_lots ["_law_many", "_law_m"] (spD 2 g_law_lots)) (h_law_lots : mg "_law_lots" = some (.ref f_law_lots)) (p_law_lots : PySem.W.keepIn K (.ref f_law_lots) = true)
    (b_law_lots : Binds K d_law_lots ["_law_many", "_law_m"] [])
    {f_law_shares : Addr} {d_law_shares : FuncData} (G_law_shares : FnOk P w K mg base CX0 1 f_law_shares d_law_shares ["_law_b", "_law_many", "_law_records"] (spD 3 g_law_shares)) (h_law_shares : mg "_law_shares" = some (.ref f_law_shares)) (p_law_shares : PySem.W.keepIn K (.ref f_law_shares) = true)
    (b_law_shares : Binds K d_law_shares ["_law_b", "_law_many", "_law_records"] [])
    (m_len : mg "len" = none)
    (m_set : mg "set" = none)
    (m_sorted : mg "sorted" = none)
    (m_tuple : mg "tuple" = none)
    (m_zip : mg "zip" = none)
    (m_list : mg "list" = none) :
    FnOk P w K mg base CX0 2 f fd ["_law_b", "_law_blocks", "_law_m"] (spD 3 Kx.g_law_uniform) := fn_data Fn sc_law_uniform rfl rfl fun cdv A outer s H E hr =>
    xb_cons (xs_par3 (fun ha => ps_par3 rfl sc_law_uniform.nd rfl rfl rfl (by decide) (by decide) (by decide) rfl rfl rfl ha (by rfl)) (xas_cons (xa_key (u9 hr) (x_var 1)) (xas_cons (xa_v (x_frz (xl_lst (xx_cons (x_var 1) xx_nil)))) (xas_cons (xa_v (x_int)) xas_nil))))
    (xb_cons (xs_while PassesOwn.never (xt_cmp (ck_eq hr.units) (x_frz (xl_comp rfl sc_law_uniform.nd (xi_seq (x_var 4)) (blkOk_by (own := [("_law_some", 7)]) (by kernel_rfl)) (gok1 7) (fun _ _ _ _ _ => pg_name (i := 7) sc_law_uniform.nd rfl (by first | exact .inl rfl | exact .inr rfl)) (fun _ _ _ _ _ => pts_if (xt_cmp (ck_eq hr.units) (x_frz (xl_comp rfl sc_law_uniform.nd (xi_seq (x_var 7)) (blkOk_by (own := [("_law_block", 14)]) (by kernel_rfl)) (gok1 14) (fun _ _ _ _ _ => pg_name (i := 14) sc_law_uniform.nd rfl (by first | exact .inl rfl | exact .inr rfl)) (fun _ _ _ _ _ => pts_if (xt_cmp ck_gt (x_lenSet rfl (by rfl) m_len (by rfl) m_set (x_var 14)) (x_int) (nomark _))) (fun _ _ _ _ _ => x_var 14))) (x_frz (xl_lst xx_nil)) (nomark _))) (fun _ _ _ _ _ => x_var 7))) (x_frz (xl_lst xx_nil)) (nomark _)) (xb_cons (xs_par2 (fun ha => ps_par rfl sc_law_uniform.nd rfl rfl (by decide) rfl rfl ha (by rfl)) (xas_cons (xa_v (x_add (x_var 5) (x_int))) (xas_cons (xa_own (xl_lst xx_nil)) xas_nil)))
    (xb_cons (xs_for (xf_seq (x_var 4)) (pg_name (i := 7) sc_law_uniform.nd rfl (.inl rfl)) (gfor1 7) (xb_one (xs_for (xf_seq (x_call G_law_lots (hr.mono (by decide)) (by rfl) h_law_lots p_law_lots b_law_lots rfl (xx_cons (x_cb cal_len (x_var 7) (by rfl) m_len PySem.boot_len) (xx_cons (x_var 2) xx_nil)))) (pg_name (i := 8) sc_law_uniform.nd rfl (.inl rfl)) (gfor1 8) (xb_cons (xs_set 9 (fun h => ps_set (i := 9) sc_law_uniform.nd rfl (.inl rfl) h) (x_frz (xl_lst xx_nil)))
    (xb_cons (xs_for (xf_seq (x_var 8)) (pg_name (i := 10) sc_law_uniform.nd rfl (.inl rfl)) (gfor1 10) (xb_one (xs_set 9 (fun h => ps_set (i := 9) sc_law_uniform.nd rfl (.inl rfl) h) (x_add (x_var 9) (x_frz (xl_ct cal_list (x_ix (u1 hr) (x_var 7) (x_var 10) (fun _ _ => rfl) (fun _ _ => rfl)) (by rfl) m_list boot_list))))) (fun hi hb => ps_for PassesOwn.never rfl hi (pg_name (i := 10) sc_law_uniform.nd rfl (.inl rfl)) hb))
    (xb_one (xs_for (xf_seq (x_call G_law_shares (hr.mono (by decide)) (by rfl) h_law_shares p_law_shares b_law_shares rfl (xx_cons (x_var 0) (xx_cons (x_cb cal_len (x_var 8) (by rfl) m_len PySem.boot_len) (xx_cons (x_frz (xl_cb cal_sorted (x_var 9) (by rfl) m_sorted (by rfl))) xx_nil))))) (pg_name (i := 11) sc_law_uniform.nd rfl (.inl rfl)) (gfor1 11) (xb_cons (xs_setA 12 (fun h => ps_set (i := 12) sc_law_uniform.nd rfl (.inl rfl) h) (xa_own (xl_ct cal_list (x_var 7) (by rfl) m_list boot_list)))
    (xb_cons (xs_for (xf_zip (by rfl) m_zip (x_var 8) (x_var 11)) (pg_tup rfl (pgs_cons (pg_name (i := 10) sc_law_uniform.nd rfl (.inl rfl)) (pgs_cons (pg_name (i := 13) sc_law_uniform.nd rfl (.inl rfl)) pgs_nil))) (gfor2 10 13) (xb_one (xs_setIx (fun ho hi he => ps_asg he (pg_sub ho hi set_list)) (x_var 12) (x_var 10) (x_var 13))) (fun hi hb => ps_for PassesOwn.never rfl hi (pg_tup rfl (pgs_cons (pg_name (i := 10) sc_law_uniform.nd rfl (.inl rfl)) (pgs_cons (pg_name (i := 13) sc_law_uniform.nd rfl (.inl rfl)) pgs_nil))) hb))
    (xb_one (xs_if (xt_cmp (ck_notInK (u9 hr)) (x_ct cal_tuple (x_var 12) (by rfl) m_tuple boot_tuple) (x_var 3) rfl) (xb_cons (xs_key (fun ho hi => ps_asg pe_bl (pg_sub ho hi (set_key (u9 hr)))) (x_var 3) (x_ct cal_tuple (x_var 12) (by rfl) m_tuple boot_tuple))
    (xb_one (xs_app (fun ho he => ps_expr (pe_bm F.plainAttrs_list F.slot_list_append F.type_list_append mt_append ho (pa_cons he pa_nil))) (x_var 6) (x_ct cal_tuple (x_var 12) (by rfl) m_tuple boot_tuple)))) (xb_nil))))) (fun hi hb => ps_for PassesOwn.never rfl hi (pg_name (i := 11) sc_law_uniform.nd rfl (.inl rfl)) hb))))) (fun hi hb => ps_for PassesOwn.never rfl hi (pg_name (i := 8) sc_law_uniform.nd rfl (.inl rfl)) hb))) (fun hi hb => ps_for PassesOwn.never rfl hi (pg_name (i := 7) sc_law_uniform.nd rfl (.inl rfl)) hb))
    (xb_one (xs_move 4 (fun h => ps_set (i := 4) sc_law_uniform.nd rfl (.inl rfl) h) (x_var 6))))))
    (xb_one (xs_ret (x_var 5))))
abbrev s_law_rings : Stmt := topS 38
theorem sc_law_rings : FnScope ["_law_names", "_law_sizes", "_law_seen", "_law_block", "_law_size", "_law_at"] ["_law_names"] (defScope s_law_rings) := ⟨rfl, rfl, rfl, by decide +kernel, rfl, by decide +kernel, by decide +kernel⟩
theorem ok_law_rings {P : Program} {w : World} {K : PySem.W.Frag} {mg : Str → Option Value} {base : Heap} {f : Addr} {fd : FuncData} (Fn : Fun K "_law_rings" "_law_rings" s_law_rings f fd)
    (m_range : mg "range" = none)
    (m_len : mg "len" = none) :
    FnOk P w K mg base CX0 1 f fd ["_law_names"] (spD 1 Kx.g_law_rings) := fn_data Fn sc_law_rings rfl rfl fun cdv A outer s H E hr =>
    xb_cons (xs_par2 (fun ha => ps_par rfl sc_law_rings.nd rfl rfl (by decide) rfl rfl ha (by rfl)) (xas_cons (xa_own (xl_lst xx_nil)) (xas_cons (xa_own (xl_lst xx_nil)) xas_nil)))
    (xb_cons (xs_for (xf_range1 (by rfl) m_range (x_cb cal_len (x_var 0) (by rfl) m_len PySem.boot_len)) (pg_name (i := 3) sc_law_rings.nd rfl (.inl rfl)) (gfor1 3) (xb_cons (xs_par2 (fun ha => ps_par rfl sc_law_rings.nd rfl rfl (by decide) rfl rfl ha (by rfl)) (xas_cons (xa_v (x_int)) (xas_cons (xa_v (x_var 3)) xas_nil)))
    (xb_cons (xs_while PassesOwn.never (xt_cmp ck_notIn (x_var 5) (x_var 2) rfl) (xb_cons (xs_app (fun ho he => ps_expr (pe_bm F.plainAttrs_list F.slot_list_append F.type_list_append mt_append ho (pa_cons he pa_nil))) (x_var 2) (x_var 5))
    (xb_one (xs_par2 (fun ha => ps_par rfl sc_law_rings.nd rfl rfl (by decide) rfl rfl ha (by rfl)) (xas_cons (xa_v (x_add (x_var 4) (x_int))) (xas_cons (xa_v (x_ix (u1 hr) (x_var 0) (x_var 5) (fun _ _ => rfl) (fun _ _ => rfl))) xas_nil))))))
    (xb_one (xs_if (xt_cmp ck_gt (x_var 4) (x_int) (nomark _)) (xb_one (xs_app (fun ho he => ps_expr (pe_bm F.plainAttrs_list F.slot_list_append F.type_list_append mt_append ho (pa_cons he pa_nil))) (x_var 1) (x_var 4))) (xb_nil))))) (fun hi hb => ps_for PassesOwn.never rfl hi (pg_name (i := 3) sc_law_rings.nd rfl (.inl rfl)) hb))
    (xb_one (xs_ret (x_var 1))))
abbrev s_law_both : Stmt := topS 39
theorem sc_law_both : FnScope ["_law_m", "_law_k", "_law_order", "_law_h", "_law_first", "_law_goal", "_law_row", "_law_names", "_law_behind", "_law_own", "_law_at", "_law_size", "_law_t"] ["_law_m", "_law_k", "_law_order"] (defScope s_law_both) := ⟨rfl, rfl, rfl, by decide +kernel, rfl, by decide +kernel, by decide +kernel⟩
theorem ok_law_both {P : Program} {w : World} {K : PySem.W.Frag} {mg : Str → Option Value} {base : Heap} {f : Addr} {fd : FuncData} (Fn : Fun K "_law_both" "_law_both" s_law_both f fd)
    {f_law_rings : Addr} {d_law_rings : FuncData} (G_law_rings : FnOk P w K mg base CX0 1 f_law_rings d_law_rings ["_law_names"] (spD 1 g_law_rings)) (h_law_rings : mg "_law_rings" = some (.ref f_law_rings)) (p_law_rings : PySem.W.keepIn K (.ref f_law_rings) = true)
    (b_law_rings : Binds K d_law_rings ["_law_names"] [])
    {f_law_played : Addr} {d_law_played : FuncData} (G_law_played : FnOk P w K mg base CX0 1 f_law_played d_law_played ["_law_standing", "_law_m", "_law_row"] (spD 3 g_law_played)) (h_law_played : mg "_law_played" = some (.ref f_law_played)) (p_law_played : PySem.W.keepIn K (.ref f_law_played) = true)
    (b_law_played : Binds K d_law_played ["_law_standing", "_law_m", "_law_row"] [])
    {f_digit_row : Addr} {d_digit_row : FuncData} (G_digit_row : FnOk P w K mg base CX0 7 f_digit_row d_digit_row ["m", "k", "order"] (spD 3 g_digit_row)) (h_digit_row : mg "digit_row" = some (.ref f_digit_row)) (p_digit_row : PySem.W.keepIn K (.ref f_digit_row) = true)
    (q_digit_row : KB3 K d_digit_row)
    {f_law_bounds : Addr} {d_law_bounds : FuncData} (G_law_bounds : FnOk P w K mg base CX0 2 f_law_bounds d_law_bounds ["_law_m", "_law_first", "_law_wish"] (spD 3 g_law_bounds)) (h_law_bounds : mg "_law_bounds" = some (.ref f_law_bounds)) (p_law_bounds : PySem.W.keepIn K (.ref f_law_bounds) = true)
    (b_law_bounds : Binds K d_law_bounds ["_law_m", "_law_first", "_law_wish"] [])
    {f_law_places : Addr} {d_law_places : FuncData} (G_law_places : FnOk P w K mg base CX0 2 f_law_places d_law_places ["_law_standing"] (spD 1 g_law_places)) (h_law_places : mg "_law_places" = some (.ref f_law_places)) (p_law_places : PySem.W.keepIn K (.ref f_law_places) = true)
    (b_law_places : Binds K d_law_places ["_law_standing"] [])
    {f_named_digit_row : Addr} {d_named_digit_row : FuncData} (G_named_digit_row : FnOk P w K mg base CX0 7 f_named_digit_row d_named_digit_row ["m", "k", "order"] (spD 3 g_named_digit_row)) (h_named_digit_row : mg "named_digit_row" = some (.ref f_named_digit_row)) (p_named_digit_row : PySem.W.keepIn K (.ref f_named_digit_row) = true)
    (q_named_digit_row : KB3 K d_named_digit_row)
    {f_law_laid : Addr} {d_law_laid : FuncData} (G_law_laid : FnOk P w K mg base CX0 2 f_law_laid d_law_laid ["_law_m", "_law_k", "_law_order"] (spD 3 g_law_laid)) (h_law_laid : mg "_law_laid" = some (.ref f_law_laid)) (p_law_laid : PySem.W.keepIn K (.ref f_law_laid) = true)
    (b_law_laid : Binds K d_law_laid ["_law_m", "_law_k", "_law_order"] [])
    (m_range : mg "range" = none)
    (m_len : mg "len" = none)
    (m_sum : mg "sum" = none)
    (m_tuple : mg "tuple" = none)
    (m_sorted : mg "sorted" = none)
    (m_list : mg "list" = none)
    (m_isinstance : mg "isinstance" = none) :
    FnOk P w K mg base CX0 8 f fd ["_law_m", "_law_k", "_law_order"] (spD 3 Kx.g_law_both) := fn_data Fn sc_law_both rfl rfl fun cdv A outer s H E hr =>
    xb_cons (xs_set 3 (fun h => ps_set (i := 3) sc_law_both.nd rfl (.inl rfl) h) (x_cb cal_len (x_var 2) (by rfl) m_len PySem.boot_len))
    (xb_cons (xs_parT2 (fun ha => ps_asg (pe_tup ha) (pg_tup rfl (pgs_cons (pg_name (i := 4) sc_law_both.nd rfl (.inl rfl)) (pgs_cons (pg_name (i := 5) sc_law_both.nd rfl (.inr rfl)) pgs_nil)))) (xas_cons (xa_v (x_call G_law_laid (hr.mono (by decide)) (by rfl) h_law_laid p_law_laid b_law_laid rfl (xx_cons (x_var 0) (xx_cons (x_var 1) (xx_cons (x_tupRange rfl (by rfl) m_tuple (by rfl) m_range (x_var 3)) xx_nil))))) (xas_cons (xa_v (x_call G_law_laid (hr.mono (by decide)) (by rfl) h_law_laid p_law_laid b_law_laid rfl (xx_cons (x_var 0) (xx_cons (x_var 1) (xx_cons (x_var 2) xx_nil))))) xas_nil)))
    (xb_cons (xs_unp (fun h => ps_asg h (pg_tup rfl (pgs_cons (pg_name (i := 6) sc_law_both.nd rfl (.inl rfl)) (pgs_cons (pg_name (i := 7) sc_law_both.nd rfl (.inr rfl)) pgs_nil)))) (x_call3 G_named_digit_row (hr.mono (by decide)) (by rfl) h_named_digit_row p_named_digit_row q_named_digit_row (x_var 2) (x_var 1) (x_var 0)))
    (xb_cons (xs_set 8 (fun h => ps_set (i := 8) sc_law_both.nd rfl (.inl rfl) h) (x_call G_law_played (hr.mono (by decide)) (by rfl) h_law_played p_law_played b_law_played rfl (xx_cons (x_var 4) (xx_cons (x_var 0) (xx_cons (x_var 6) xx_nil)))))
    (xb_cons (xs_if ((xt_or (xt_isN (x_var 8)) (xt_or (xt_not (xt_val (x_isTup (x_var 7) (by rfl) m_isinstance (by rfl) (by rfl) m_tuple))) (xt_or1 (xt_cmp (ck_ne hr.units) (x_frz (xl_cb cal_sorted (x_var 7) (by rfl) m_sorted (by rfl))) (x_frz (xl_range rfl (by rfl) m_list (by rfl) m_range (x_cb cal_len (x_ix (u1 hr) (x_var 4) (x_int) (fun _ _ => rfl) (fun _ _ => rfl)) (by rfl) m_len PySem.boot_len))) (nomark _))))).pt) (xb_one (xs_ret (x_bl))) (xb_nil))
    (xb_cons (xs_if (xt_cmp (ck_ne hr.units) (x_ix (u1 hr) (x_var 8) (x_int) (fun _ _ => rfl) (fun _ _ => rfl)) (x_ct cal_tuple (x_frz (xl_comp rfl sc_law_both.nd (xf_range1 (by rfl) m_range (x_cb cal_len (x_var 7) (by rfl) m_len PySem.boot_len)).xi (blkOk_by (own := [("_law_at", 10)]) (by kernel_rfl)) (gok1 10) (fun _ _ _ _ _ => pg_name (i := 10) sc_law_both.nd rfl (by first | exact .inl rfl | exact .inr rfl)) (fun _ _ _ _ _ => pts_yes) (fun _ _ _ _ _ => x_ix (u1 hr) (x_ix (u1 hr) (x_var 5) (x_int) (fun _ _ => rfl) (fun _ _ => rfl)) (x_ix (u1 hr) (x_var 7) (x_var 10) (fun _ _ => rfl) (fun _ _ => rfl)) (fun _ _ => rfl) (fun _ _ => rfl)))) (by rfl) m_tuple boot_tuple) (nomark _)) (xb_one (xs_ret (x_bl))) (xb_nil))
    (xb_cons (xs_if (xt_cmp (ck_ne hr.units) (x_call G_law_bounds (hr.mono (by decide)) (by rfl) h_law_bounds p_law_bounds b_law_bounds rfl (xx_cons (x_var 0) (xx_cons (x_var 4) (xx_cons (x_call G_law_places (hr.mono (by decide)) (by rfl) h_law_places p_law_places b_law_places rfl (xx_cons (x_var 5) xx_nil)) xx_nil)))) (x_frz (xl_lst (xx_cons (x_cb cal_len (x_var 6) (by rfl) m_len PySem.boot_len) (xx_cons (x_cb cal_len (x_var 6) (by rfl) m_len PySem.boot_len) xx_nil)))) (nomark _)) (xb_one (xs_ret (x_bl))) (xb_nil))
    (xb_cons (xs_set 9 (fun h => ps_set (i := 9) sc_law_both.nd rfl (.inl rfl) h) (x_call3 G_digit_row (hr.mono (by decide)) (by rfl) h_digit_row p_digit_row q_digit_row (x_var 2) (x_var 1) (x_var 0)))
    (xb_cons (xs_if ((xt_or (xt_cmp (ck_ne hr.units) (x_call G_law_played (hr.mono (by decide)) (by rfl) h_law_played p_law_played b_law_played rfl (xx_cons (x_var 4) (xx_cons (x_var 0) (xx_cons (x_var 9) xx_nil)))) (x_var 5) (nomark _)) (xt_or1 (xt_cmp (ck_ne hr.units) (x_cb cal_len (x_var 9) (by rfl) m_len PySem.boot_len) (x_add (x_cb cal_len (x_var 6) (by rfl) m_len PySem.boot_len) (x_cb (cal_sum rfl) (x_frz (xl_comp rfl sc_law_both.nd (xi_seq (x_call G_law_rings (hr.mono (by decide)) (by rfl) h_law_rings p_law_rings b_law_rings rfl (xx_cons (x_var 7) xx_nil))) (blkOk_by (own := [("_law_size", 11)]) (by kernel_rfl)) (gok1 11) (fun _ _ _ _ _ => pg_name (i := 11) sc_law_both.nd rfl (by first | exact .inl rfl | exact .inr rfl)) (fun _ _ _ _ _ => pts_yes) (fun _ _ _ _ _ => x_div (x_sub (x_add (x_var 11) (x_var 0)) (x_int)) (x_sub (x_var 0) (x_int))))) (by rfl) m_sum (by rfl))) (nomark _)))).pt) (xb_one (xs_ret (x_bl))) (xb_nil))
    (xb_one (xs_ret (x_or (x_cmp (ck_eq hr.units) (x_cb cal_len (x_var 9) (by rfl) m_len PySem.boot_len) (x_cb cal_len (x_var 6) (by rfl) m_len PySem.boot_len) (nomark _)) (x_one (x_cmp (ck_ne hr.units) (x_frz (xl_comp rfl sc_law_both.nd (xf_range2 (by rfl) m_range (x_var 1) (x_var 3)).xi (blkOk_by (own := [("_law_t", 12)]) (by kernel_rfl)) (gok1 12) (fun _ _ _ _ _ => pg_name (i := 12) sc_law_both.nd rfl (by first | exact .inl rfl | exact .inr rfl)) (fun _ _ _ _ _ => pts_if ((xt_and (xt_cmp ck_ge (x_ix (u1 hr) (x_var 2) (x_var 12) (fun _ _ => rfl) (fun _ _ => rfl)) (x_var 1) (nomark _)) (xt_and1 (xt_cmp (ck_ne hr.units) (x_ix (u1 hr) (x_var 2) (x_var 12) (fun _ _ => rfl) (fun _ _ => rfl)) (x_var 12) (nomark _)))).pt)) (fun _ _ _ _ _ => x_var 12))) (x_frz (xl_lst xx_nil)) (nomark _))))))))))))))
abbrev s_law_turned : Stmt := topS 40
theorem sc_law_turned : FnScope ["_law_m", "_law_i", "_law_j", "_law_k", "_law_order", "_law_d", "_law_many"] ["_law_m", "_law_i", "_law_j", "_law_k"] (defScope s_law_turned) := ⟨rfl, rfl, rfl, by decide +kernel, rfl, by decide +kernel, by decide +kernel⟩
theorem ok_law_turned {P : Program} {w : World} {K : PySem.W.Frag} {mg : Str → Option Value} {base : Heap} {f : Addr} {fd : FuncData} (Fn : Fun K "_law_turned" "_law_turned" s_law_turned f fd)
    {f_digit_row : Addr} {d_digit_row : FuncData} (G_digit_row : FnOk P w K mg base CX0 7 f_digit_row d_digit_row ["m", "k", "order"] (spD 3 g_digit_row)) (h_digit_row : mg "digit_row" = some (.ref f_digit_row)) (p_digit_row : PySem.W.keepIn K (.ref f_digit_row) = true)
    (b_digit_row : Binds K d_digit_row ["m", "k", "order"] [])
    {f_least_turning : Addr} {d_least_turning : FuncData} (G_least_turning : FnOk P w K mg base CX0 3 f_least_turning d_least_turning ["m", "i", "j", "k"] (spD 4 g_least_turning)) (h_least_turning : mg "least_turning" = some (.ref f_least_turning)) (p_least_turning : PySem.W.keepIn K (.ref f_least_turning) = true)
    (b_least_turning : Binds K d_least_turning ["m", "i", "j", "k"] [])
    (q_least_turning : KB4 K d_least_turning)
    {f_named_digit_row : Addr} {d_named_digit_row : FuncData} (G_named_digit_row : FnOk P w K mg base CX0 7 f_named_digit_row d_named_digit_row ["m", "k", "order"] (spD 3 g_named_digit_row)) (h_named_digit_row : mg "named_digit_row" = some (.ref f_named_digit_row)) (p_named_digit_row : PySem.W.keepIn K (.ref f_named_digit_row) = true)
    (b_named_digit_row : Binds K d_named_digit_row ["m", "k", "order"] [])
    {f_law_power : Addr} {d_law_power : FuncData} (G_law_power : FnOk P w K mg base CX0 1 f_law_power d_law_power ["_law_m", "_law_many"] (spD 2 g_law_power)) (h_law_power : mg "_law_power" = some (.ref f_law_power)) (p_law_power : PySem.W.keepIn K (.ref f_law_power) = true)
    (b_law_power : Binds K d_law_power ["_law_m", "_law_many"] [])
    {f_turned_order : Addr} {d_turned_order : FuncData} (G_turned_order : FnOk P w K mg base CX0 1 f_turned_order d_turned_order ["i", "j"] (spD 2 g_turned_order)) (h_turned_order : mg "turned_order" = some (.ref f_turned_order)) (p_turned_order : PySem.W.keepIn K (.ref f_turned_order) = true)
    (b_turned_order : Binds K d_turned_order ["i", "j"] [])
    (m_len : mg "len" = none)
    (m_repr : mg "repr" = none)
    (m_min : mg "min" = none) :
    FnOk P w K mg base CX0 8 f fd ["_law_m", "_law_i", "_law_j", "_law_k"] (spD 4 Kx.g_law_turned) := fn_data Fn sc_law_turned rfl rfl fun cdv A outer s H E hr =>
    xb_cons (xs_par3 (fun ha => ps_par3 rfl sc_law_turned.nd rfl rfl rfl (by decide) (by decide) (by decide) rfl rfl rfl ha (by rfl)) (xas_cons (xa_v (x_call G_turned_order (hr.mono (by decide)) (by rfl) h_turned_order p_turned_order b_turned_order rfl (xx_cons (x_var 1) (xx_cons (x_var 2) xx_nil)))) (xas_cons (xa_v (x_min4 rfl (by rfl) m_min (xx_cons (x_var 1) (xx_cons (x_var 2) (xx_cons (x_var 3) (xx_cons (x_sub (x_add (x_var 1) (x_var 2)) (x_var 3)) xx_nil)))))) (xas_cons (xa_v (x_int)) xas_nil))))
    (xb_cons (xs_if (xt_cmp ck_gt (x_var 5) (x_int) (nomark _)) (xb_one (xs_set 6 (fun h => ps_set (i := 6) sc_law_turned.nd rfl (.inl rfl) h) (x_mul (x_var 5) (x_call G_law_power (hr.mono (by decide)) (by rfl) h_law_power p_law_power b_law_power rfl (xx_cons (x_var 0) (xx_cons (x_sub (x_sub (x_add (x_var 1) (x_var 2)) (x_var 3)) (x_int)) xx_nil)))))) (xb_nil))
    (xb_cons (xs_if ((xt_or (xt_cmp ck_neR (x_cb cal_repr (x_call4 G_least_turning (hr.mono (by decide)) (by rfl) h_least_turning p_least_turning q_least_turning (x_var 3) (x_var 2) (x_var 1) (x_var 0)) (by rfl) m_repr (by rfl)) (x_cb cal_repr (x_var 6) (by rfl) m_repr (by rfl)) (nomark _)) (xt_or1 (xt_cmp (ck_ne hr.units) (x_cb cal_len (x_ix (u1 hr) (x_call G_named_digit_row (hr.mono (by decide)) (by rfl) h_named_digit_row p_named_digit_row b_named_digit_row rfl (xx_cons (x_var 0) (xx_cons (x_var 3) (xx_cons (x_var 4) xx_nil)))) (x_int) (fun _ _ => rfl) (fun _ _ => rfl)) (by rfl) m_len PySem.boot_len) (x_var 6) (nomark _)))).pt) (xb_one (xs_ret (x_bl))) (xb_nil))
    (xb_cons (xs_if (xt_cmp ck_neR (x_cb cal_repr (x_call G_least_turning (hr.mono (by decide)) (by rfl) h_least_turning p_least_turning b_least_turning rfl (xx_cons (x_var 0) (xx_cons (x_var 1) (xx_cons (x_var 2) (xx_cons (x_var 3) xx_nil))))) (by rfl) m_repr (by rfl)) (x_cb cal_repr (x_var 6) (by rfl) m_repr (by rfl)) (nomark _)) (xb_one (xs_ret (x_bl))) (xb_nil))
    (xb_one (xs_ret (x_or (x_cmp ck_gt (x_var 1) (x_var 3) (nomark _)) (x_or (x_cmp ck_gt (x_var 2) (x_var 3) (nomark _)) (x_one (x_cmp (ck_eq hr.units) (x_cb cal_len (x_call G_digit_row (hr.mono (by decide)) (by rfl) h_digit_row p_digit_row b_digit_row rfl (xx_cons (x_var 0) (xx_cons (x_var 3) (xx_cons (x_var 4) xx_nil)))) (by rfl) m_len PySem.boot_len) (x_var 6) (nomark _))))))))))
end Kx

/-! KxL: the draws, by hand. -/
namespace Kx
open PySem L2 PyProof.Rows
/-! ### the deal: two lists, [the numbers, a number] -/
structure Deal (H : Hp) (aD aL : Addr) (ns : List Int) (bl : Int) : Prop where
  d : H aD = some (.lst [.ref aL, .int bl])
  l : H aL = some (.lst (ns.map V.int))
  ne : aD ≠ aL
  few : ns.length ≤ 48
def But2 (a b : Addr) (H H' : Hp) : Prop := ∀ c o, c ≠ a → c ≠ b → H c = some o → H' c = some o
theorem But2.refl (a b : Addr) (H : Hp) : But2 a b H H := fun _ _ _ _ e => e
theorem But2.trans {a b : Addr} {H1 H2 H3 : Hp} (x : But2 a b H1 H2) (y : But2 a b H2 H3) : But2 a b H1 H3 := fun c o h1 h2 e => y c o h1 h2 (x c o h1 h2 e)
theorem But2.new {a b : Addr} {H : Hp} {p : Addr} {o : HO} (h : H p = none) : But2 a b H (L2.upd H p o) := fun c u _ _ e => by
  rw [L2.upd_ne (fun z => by subst z; rw [h] at e; cases e)]
  exact e
theorem But2.l {a b : Addr} {H : Hp} {o : HO} : But2 a b H (L2.upd H a o) := fun c u h1 _ e => by rw [L2.upd_ne h1]; exact e
theorem But2.r {a b : Addr} {H : Hp} {o : HO} : But2 a b H (L2.upd H b o) := fun c u _ h2 e => by rw [L2.upd_ne h2]; exact e
theorem Deal.new {H : Hp} {aD aL : Addr} {ns : List Int} {bl : Int} (x : Deal H aD aL ns bl) {p : Addr} {o : HO} (h : H p = none) : Deal (L2.upd H p o) aD aL ns bl :=
  ⟨by rw [L2.upd_ne (fun z => by have := x.d; rw [z, h] at this; cases this)]; exact x.d, by rw [L2.upd_ne (fun z => by have := x.l; rw [z, h] at this; cases this)]; exact x.l, x.ne, x.few⟩
theorem Deal.setL {H : Hp} {aD aL : Addr} {ns ms : List Int} {bl : Int} (x : Deal H aD aL ns bl) (h : ms.length ≤ 48) : Deal (L2.upd H aL (.lst (ms.map V.int))) aD aL ms bl :=
  ⟨by rw [L2.upd_ne x.ne]; exact x.d, L2.upd_same, x.ne, h⟩
theorem Deal.setD {H : Hp} {aD aL : Addr} {ns : List Int} {bl bl' : Int} (x : Deal H aD aL ns bl) : Deal (L2.upd H aD (.lst [.ref aL, .int bl'])) aD aL ns bl' :=
  ⟨L2.upd_same, by rw [L2.upd_ne x.ne.symm]; exact x.l, x.ne, x.few⟩
theorem py_ints (k : Nat) : ∀ ns : List Int, allB (pyOk (k + 1)) (ofI ns) = true
  | [] => rfl
  | n :: r => py_ints k r
/-- xs != [] -/
theorem ne_nil {K : PySem.W.Frag} {H : Hp} {a p : Addr} {ns : List Int} {Q : VK} (ha : H a = some (.lst (ns.map V.int))) (hp : H p = some (.lst [])) (q : Q (.bl (!ns.isEmpty)) H) : rNeD K (.ref a) (.ref p) H Q := by
  have h1 : pyOk 7 (.lst (ofI ns)) = true := py_ints 5 ns
  have h2 : pyOk 7 (.lst []) = true := rfl
  have d1 := dp_of (K := K) (Same.refl H) 7 (.lst (ofI ns)) (.ref a) h1 (.lst ha (is_ints ns))
  have d2 := dp_of (K := K) (Same.refl H) 7 (.lst []) (.ref p) h2 (.lst hp .nil)
  refine ⟨_, _, d1, d2, py_shape (by decide) h1, py_shape (by decide) h2, ?_⟩
  rw [py_eqv 7 _ _ h1 h2]
  have e : (!eqT 7 (.lst (ofI ns)) (.lst [])) = !ns.isEmpty := by cases ns <;> rfl
  rw [e]
  exact q
theorem last_int {ns : List Int} {z : Int} (h : ns.getLast? = some z) : atI (ns.map V.int) (-1) = some (.int z) := by
  have hne : ns ≠ [] := fun e => by rw [e] at h; cases h
  have hz : ns.map V.int = ns.dropLast.map V.int ++ [.int (ns.getLast hne)] := by
    rw [← List.map_singleton, ← List.map_append, List.dropLast_concat_getLast]
  rw [List.getLast?_eq_getLast hne] at h
  cases h
  rw [hz]
  exact atI_last _ _
theorem pop_int {ns : List Int} {z : Int} (h : ns.getLast? = some z) : (ns.map V.int)[(ns.map V.int).length - 1]? = some (.int z) := by
  rw [List.length_map, List.getElem?_map, ← List.getLast?_eq_getElem?, h]
  rfl
theorem dropLast_int (ns : List Int) : (ns.map V.int).dropLast = ns.dropLast.map V.int := by rw [List.map_dropLast]
section
variable {K : PySem.W.Frag} {σ : L2.St} {H : Hp} {aD aL : Addr} {ns : List Int} {bl : Int}
theorem ix_l {Q : VK} (hs : σ[0]? = some (some (.ref aD))) (d : Deal H aD aL ns bl) (q : Q (.ref aL) H) : tOp (rIxL K) (tVar 0) (tC (.int 0)) σ H Q := ⟨.ref aD, hs, aD, _, 0, .ref aL, rfl, rfl, SqL.of d.d, rfl, q⟩
theorem ix_b {Q : VK} (hs : σ[0]? = some (some (.ref aD))) (d : Deal H aD aL ns bl) (q : Q (.int bl) H) : tOp (rIxL K) (tVar 0) (tC (.int 1)) σ H Q := ⟨.ref aD, hs, aD, _, 1, .int bl, rfl, rfl, SqL.of d.d, rfl, q⟩
/-- deal[0] != [] -/
theorem ne_l {Q : Bool → Hp → Prop} (hs : σ[0]? = some (some (.ref aD))) (d : Deal H aD aL ns bl) (q : ∀ p, H p = none → Q (!ns.isEmpty) (L2.upd H p (.lst []))) : tTest (tOp (rNeD K) (tOp (rIxL K) (tVar 0) (tC (.int 0))) (tLst tNil)) σ H Q :=
  ix_l hs d ⟨Nat.zero_le _, fun p np => ne_nil (d.new np).l L2.upd_same ⟨_, rfl, q p np⟩⟩
/-- deal[0].pop() -/
theorem pop_l {Q : VK} {z : Int} (hs : σ[0]? = some (some (.ref aD))) (d : Deal H aD aL ns bl) (hz : ns.getLast? = some z) (q : Deal (L2.upd H aL (.lst (ns.dropLast.map V.int))) aD aL ns.dropLast bl → Q (.int z) (L2.upd H aL (.lst (ns.dropLast.map V.int)))) :
    tBM0 K "list" rPop (tOp (rIxL K) (tVar 0) (tC (.int 0))) σ H Q := by
  refine ix_l hs d ⟨.inl ⟨rfl, _, SqL.of d.l⟩, aL, _, .int z, rfl, rfl, d.l, pop_int hz, ?_⟩
  rw [dropLast_int]
  exact q (d.setL (by have := d.few; rw [List.length_dropLast]; omega))
theorem any_while {D : Ends} (hs : σ[0]? = some (some (.ref aD))) (d : Deal H aD aL ns bl) (rest : ∀ H2 ns2, But2 aD aL H H2 → Deal H2 aD aL ns2 bl → D.nx σ H2) :
    tWhile (L2.tAnd (tTest (tOp (rNeD K) (tOp (rIxL K) (tVar 0) (tC (.int 0))) (tLst tNil))) (tTest (tOp rEq (tOp (rIxL K) (tOp (rIxL K) (tVar 0) (tC (.int 0))) (tUn (rU fun i => .int (-i)) (tC (.int 1)))) (tC (.int 0)))))
      (tDrop (tBM0 K "list" rPop (tOp (rIxL K) (tVar 0) (tC (.int 0))))) D σ H := by
  refine ⟨fun m σ' H' => σ' = σ ∧ ∃ ns', But2 aD aL H H' ∧ Deal H' aD aL ns' bl ∧ m = ns'.length, ⟨ns.length, rfl, ns, .refl _ _ _, d, rfl⟩, fun m σ' H' hW => ?_⟩
  obtain ⟨rfl, ns', hb, hD, rfl⟩ := hW
  refine ne_l hs hD fun p np => ?_
  have hb1 := hb.trans (.new (o := .lst []) np)
  have hD1 := hD.new (o := .lst []) np
  cases hn : ns'.isEmpty with
  | true => exact iteF (iteF (rest _ _ hb1 hD1))
  | false =>
    refine iteT ?_
    obtain ⟨z, hz⟩ : ∃ z, ns'.getLast? = some z := by
      cases hg : ns'.getLast? with
      | none => rw [List.getLast?_eq_none_iff] at hg; rw [hg] at hn; cases hn
      | some z => exact ⟨z, rfl⟩
    refine ix_l hs hD1 ⟨1, rfl, aL, _, -1, .int z, rfl, rfl, SqL.of hD1.l, last_int hz, rfl, _, rfl, ?_⟩
    by_cases h0 : z = 0
    · rw [decide_eq_true (by rw [h0])]
      refine iteT ⟨fun σ2 H2 => σ2 = σ' ∧ ∃ ns2, But2 aD aL H H2 ∧ Deal H2 aD aL ns2 bl ∧ ns2.length < ns'.length, fun σ2 H2 hN => ?_, ?_⟩
      · obtain ⟨e, ns2, b2, d2, l2⟩ := hN
        exact ⟨ns2.length, l2, e, ns2, b2, d2, rfl⟩
      · refine pop_l hs hD1 hz fun d2 => ⟨rfl, _, hb1.trans .r, d2, ?_⟩
        have : ns' ≠ [] := fun e => by rw [e] at hn; cases hn
        have := List.length_pos_iff.mpr this
        rw [List.length_dropLast]
        omega
    · rw [decide_eq_false (fun e => h0 (V.int.inj e))]
      exact iteF (rest _ _ hb1 hD1)
end
section
variable {P : Program} {w : World} {K : PySem.W.Frag} {mg : Str → Option Value} {base : Heap}
abbrev s_any : Stmt := topS 24
theorem sc_any : FnScope ["_law_deal", "_law_bound", "_law_rest"] ["_law_deal", "_law_bound"] (defScope s_any) := ⟨rfl, rfl, rfl, by decide +kernel, rfl, by decide +kernel, by decide +kernel⟩
def spAny : Sp := fun vs H Q _ => ∃ aD aL ns bl n, vs = [.ref aD, .int n] ∧ Deal H aD aL ns bl ∧ 0 < n ∧ n ≤ 1000 ∧ ∀ H' ns' bl' r, But2 aD aL H H' → Deal H' aD aL ns' bl' → 0 ≤ r → r < n → Q (.int r) H'
theorem ok_any {f : Addr} {fd : FuncData} {k : Nat} (Fn : Fun K "_law_any" "_law_any" s_any f fd) (m_int : mg "int" = none) : FnOk P w K mg base CX0 (k + 1) f fd ["_law_deal", "_law_bound"] spAny := by
  refine Fn.ok sc_any (fun vs H Q E h => ?_) (fun cdv A outer s H vs Q E hr h => ?_)
  · obtain ⟨aD, aL, ns, bl, n, rfl, _⟩ := h
    rfl
  · obtain ⟨aD, aL, ns, bl, n, rfl, hD, n0, n1, q⟩ := h
    refine ⟨_, pss_cons (ps_while PassesOwn.never (pw_and (pt_cmpR (op_neD hr.units) (pe_ix ix_list (pv 0) pe_int (fun _ _ => rfl)) (pe_lst pa_nil) (nomark _))
          (pw_and1 (pt_cmpR op_eq (pe_ix ix_list (pe_ix ix_list (pv 0) pe_int (fun _ _ => rfl)) (pe_un un_neg pe_int) (fun _ _ => rfl)) pe_int (nomark _)))).pt
        (pss_one (ps_expr (pe_bm0 PySem.F.plainAttrs_list PySem.F.slot_list_pop PySem.F.type_list_pop mt_pop (pe_ix ix_list (pv 0) pe_int (fun _ _ => rfl))))))
      (pss_cons (ps_if (pt_cmpR (op_neD hr.units) (pe_ix ix_list (pv 0) pe_int (fun _ _ => rfl)) (pe_lst pa_nil) (nomark _))
        (pss_cons (ps_set (i := 2) sc_any.nd rfl (.inl rfl) (pe_callTy call_int1 (by rfl) m_int (by rfl) (pa_cons (pe_bm0 PySem.F.plainAttrs_list PySem.F.slot_list_pop PySem.F.type_list_pop mt_pop (pe_ix ix_list (pv 0) pe_int (fun _ _ => rfl))) pa_nil)))
        (pss_cons (ps_expr (pe_bm PySem.F.plainAttrs_list PySem.F.slot_list_append PySem.F.type_list_append mt_append (pe_ix ix_list (pv 0) pe_int (fun _ _ => rfl)) (pa_cons (pe_op op_fdiv (pv 2) (pv 1)) pa_nil)))
        (pss_one (ps_ret (pe_op op_mod (pv 2) (pv 1)))))) pss_nil)
      (pss_cons (ps_asg (pe_op op_mod (pe_callTy call_int1 (by rfl) m_int (by rfl) (pa_cons (pe_op op_add (pe_op op_mul (pe_ix ix_list (pv 0) pe_int (fun _ _ => rfl)) pe_int) pe_int) pa_nil)) pe_int) (pg_sub (pv 0) pe_int set_list))
      (pss_one (ps_ret (pe_op op_mod (pe_callTy call_int1 (by rfl) m_int (by rfl) (pa_cons (pe_op op_fdiv (pe_ix ix_list (pv 0) pe_int (fun _ _ => rfl)) pe_int) pa_nil)) (pv 1)))))), ?_⟩
    refine any_while rfl hD fun H2 ns2 hb2 d2 => ?_
    refine ne_l rfl d2 fun p np => ?_
    have hb3 := hb2.trans (.new (o := .lst []) np)
    have d3 := d2.new (o := .lst []) np
    cases hn : ns2.isEmpty with
    | false =>
      refine iteT ?_
      obtain ⟨z, hz⟩ : ∃ z, ns2.getLast? = some z := by
        cases hg : ns2.getLast? with
        | none => rw [List.getLast?_eq_none_iff] at hg; rw [hg] at hn; cases hn
        | some z => exact ⟨z, rfl⟩
      have hpos : 0 < ns2.length := List.length_pos_iff.mpr fun e => by rw [e] at hn; cases hn
      -- rest = int(deal[0].pop())
      refine pop_l rfl d3 hz fun d4 => .inl ⟨z, rfl, ?_⟩
      -- deal[0].append(rest // bound)
      refine ix_l rfl d4 ⟨.inl ⟨rfl, _, SqL.of d4.l⟩, .int z, rfl, .int n, rfl, z, n, rfl, rfl, ⟨n0, by omega⟩, aL, _, .int (z / n), rfl, rfl, d4.l, ?_, ?_⟩
      · rw [List.length_map, List.length_dropLast]
        have := d3.few
        exact line_gt (by omega)
      · -- return rest % bound
        refine ⟨.int z, rfl, .int n, rfl, z, n, rfl, rfl, n0, ?_⟩
        have e : ns2.dropLast.map V.int ++ [V.int (z / n)] = (ns2.dropLast ++ [z / n]).map V.int := by rw [List.map_append]; rfl
        rw [e]
        refine q _ _ _ _ ((hb3.trans .r).trans .r) (d4.setL ?_) (Int.emod_nonneg z (by omega)) (Int.emod_lt_of_pos z n0)
        rw [List.length_append, List.length_dropLast]
        have := d3.few
        show _ + 1 ≤ 48
        omega
    | true =>
      refine iteF ?_
      -- deal[1] = int(deal[1] * 40693 + 71) % 2147483647
      refine ix_b rfl d3 ⟨bl, 40693, rfl, rfl, .inr (by constructor <;> decide), bl * 40693, 71, rfl, rfl, .inl ⟨_, rfl, _, 2147483647, rfl, rfl, (show (0 : Int) < 2147483647 by decide), .ref aD, rfl, aD, _, 1, 1, rfl, rfl, d3.d, rfl, ?_⟩⟩
      have d4 := d3.setD (bl' := (bl * 40693 + 71) % 2147483647)
      -- return int(deal[1] // 64) % bound
      refine ix_b rfl d4 ⟨_, 64, rfl, rfl, ⟨by decide, by decide⟩, .inl ⟨_, rfl, .int n, rfl, _, n, rfl, rfl, n0, ?_⟩⟩
      exact q _ _ _ _ (hb3.trans .l) d4 (Int.emod_nonneg _ (by omega)) (Int.emod_lt_of_pos _ n0)

/-! ### mixed -/
/-- all that taking one after the other may give -/
def mixes : Nat → List Int → List (List Int)
  | 0, _ => [[]]
  | n + 1, l => (List.range l.length).flatMap fun r => match l[r]? with
    | some x => (mixes n (l.eraseIdx r)).map (x :: ·)
    | none => []
theorem mixes_cons {n r : Nat} {l t : List Int} {x : Int} (h : l[r]? = some x) (ht : t ∈ mixes n (l.eraseIdx r)) : x :: t ∈ mixes (n + 1) l := by
  have hr : r < l.length := (List.getElem?_eq_some_iff.mp h).1
  refine List.mem_flatMap.mpr ⟨r, List.mem_range.mpr hr, ?_⟩
  rw [h]
  exact List.mem_map.mpr ⟨t, ht, rfl⟩
theorem seqIx {r : Int} {n : Nat} (h0 : 0 ≤ r) (h1 : r < n) : seqIndex? r n = some r.toNat := by
  unfold seqIndex?
  have h2 : ¬ r < 0 := by omega
  simp only [h2, if_false]
  rw [if_pos (by rw [Bool.and_eq_true, decide_eq_true_eq, decide_eq_true_eq]; exact ⟨h0, h1⟩)]
theorem erase_int : ∀ (ls : List Int) (k : Nat), (ls.map V.int).eraseIdx k = (ls.eraseIdx k).map V.int
  | [], k => by simp
  | a :: r, 0 => by simp
  | a :: r, k + 1 => by
    have ih := erase_int r k
    simp [ih]
abbrev s_mixed : Stmt := topS 26
theorem sc_mixed : FnScope ["_law_deal", "_law_some", "_law_left", "_law_found"] ["_law_deal", "_law_some"] (defScope s_mixed) := ⟨rfl, rfl, rfl, by decide +kernel, rfl, by decide +kernel, by decide +kernel⟩
def spMixed (K : PySem.W.Frag) : Sp := fun vs H Q _ => ∃ aD aL ns bl aS xs, vs = [.ref aD, .ref aS] ∧ Deal H aD aL ns bl ∧ H aS = some (.lst (xs.map V.int)) ∧ xs.length ≤ 10 ∧
  ∀ H' ns' bl' p ys, But2 aD aL H H' → Deal H' aD aL ns' bl' → H p = none → H' p = some (.lst (ys.map V.int)) → ys ∈ mixes xs.length xs → Q (.ref p) H'
theorem ok_mixed {f : Addr} {fd : FuncData} (Fn : Fun K "_law_mixed" "_law_mixed" s_mixed f fd) {fA : Addr} {dA : FuncData} (GA : FnOk P w K mg base CX0 1 fA dA ["_law_deal", "_law_bound"] spAny) (hA : mg "_law_any" = some (.ref fA)) (pA : PySem.W.keepIn K (.ref fA) = true) (bA : Binds K dA ["_law_deal", "_law_bound"] [])
    (m_list : mg "list" = none) (m_len : mg "len" = none) : FnOk P w K mg base CX0 2 f fd ["_law_deal", "_law_some"] (spMixed K) := by
  refine Fn.ok sc_mixed (fun vs H Q E h => ?_) (fun cdv A outer s H vs Q E hr h => ?_)
  · obtain ⟨aD, aL, ns, bl, aS, xs, rfl, _⟩ := h
    rfl
  · obtain ⟨aD, aL, ns, bl, aS, xs, rfl, hD, hS, hx, q⟩ := h
    refine ⟨_, pss_cons (ps_par (i := 2) (j := 3) rfl sc_mixed.nd rfl rfl (by decide) rfl rfl (pa_cons (pe_callTy call_list_of (by rfl) m_list boot_list (pa_cons (pv 1) pa_nil)) (pa_cons (pe_lst pa_nil) pa_nil)) (by rfl))
      (pss_cons (ps_while PassesOwn.never (pt_cmpR (op_neD hr.units) (pv 2) (pe_lst pa_nil) (nomark _))
        (pss_one (ps_expr (pe_bm PySem.F.plainAttrs_list PySem.F.slot_list_append PySem.F.type_list_append mt_append (pv 3) (pa_cons (pe_bm PySem.F.plainAttrs_list PySem.F.slot_list_pop PySem.F.type_list_pop mt_popAt (pv 2)
          (pa_cons (pe_call GA hr (by rfl) hA pA bA .nil pass0 (pa_cons (pv 0) (pa_cons (pe_callB call_len_seq (by rfl) m_len PySem.boot_len (pa_cons (pv 2) pa_nil)) pa_nil))) pa_nil)) pa_nil)))))
      (pss_one (ps_ret (pv 3)))), ?_⟩
    -- left, found = list(some), []
    refine ⟨.ref aS, rfl, aS, _, rfl, .inl (SqL.of hS), fun l nl => ⟨Nat.zero_le _, fun g ng => ⟨.ref l, .ref g, rfl, ?_⟩⟩⟩
    have hlg : l ≠ g := fun e => by rw [← e, L2.upd_same] at ng; cases ng
    have ng0 : H g = none := by rw [L2.upd_ne hlg.symm] at ng; exact ng
    have lD : l ≠ aD := fun e => by have := hD.d; rw [← e, nl] at this; cases this
    have lL : l ≠ aL := fun e => by have := hD.l; rw [← e, nl] at this; cases this
    have gD : g ≠ aD := fun e => by have := hD.d; rw [← e, ng0] at this; cases this
    have gL : g ≠ aL := fun e => by have := hD.l; rw [← e, ng0] at this; cases this
    refine ⟨fun m σ H' => σ = [some (.ref aD), some (.ref aS), some (.ref l), some (.ref g)] ∧ ∃ ns' bl' ls fs, But2 aD aL H H' ∧ Deal H' aD aL ns' bl' ∧ H' l = some (.lst (ls.map V.int)) ∧ H' g = some (.lst (fs.map V.int)) ∧ m = ls.length ∧ ls.length ≤ 10 ∧ fs.length + ls.length ≤ 10 ∧ (∀ t, t ∈ mixes ls.length ls → fs ++ t ∈ mixes xs.length xs),
      ⟨xs.length, rfl, ns, bl, xs, [], (But2.new nl).trans (.new ng), (hD.new nl).new ng, by rw [L2.upd_ne hlg, L2.upd_same], L2.upd_same, rfl, hx, by simpa using hx, fun t ht => ht⟩, fun m σ H' hW => ?_⟩
    obtain ⟨rfl, ns', bl', ls, fs, hb, hD', hl, hg, rfl, h10, h10', hm⟩ := hW
    refine ⟨.ref l, rfl, Nat.zero_le _, fun p np => ne_nil (ns := ls) (by rw [L2.upd_ne (fun e => by rw [e, np] at hl; cases hl)]; exact hl) L2.upd_same ⟨_, rfl, ?_⟩⟩
    have pl : l ≠ p := fun e => by rw [e, np] at hl; cases hl
    have pg : g ≠ p := fun e => by rw [e, np] at hg; cases hg
    have hb1 := hb.trans (.new (o := .lst []) np)
    have hD1 := hD'.new (o := .lst []) np
    have hl1 : L2.upd H' p (.lst []) l = some (.lst (ls.map V.int)) := by rw [L2.upd_ne pl]; exact hl
    have hg1 : L2.upd H' p (.lst []) g = some (.lst (fs.map V.int)) := by rw [L2.upd_ne pg]; exact hg
    cases hn : ls.isEmpty with
    | true =>
      refine iteF ⟨.ref g, rfl, ?_⟩
      have e : ls = [] := List.isEmpty_iff.mp hn
      subst e
      have hf := hm [] (List.mem_singleton.mpr rfl)
      rw [List.append_nil] at hf
      exact q _ _ _ _ fs hb1 hD1 ng0 hg1 hf
    | false =>
      have hpos : 0 < ls.length := List.length_pos_iff.mpr fun e => by rw [e] at hn; cases hn
      refine iteT ⟨fun σ2 H2 => σ2 = [some (.ref aD), some (.ref aS), some (.ref l), some (.ref g)] ∧ ∃ ns' bl' ls2 fs2, But2 aD aL H H2 ∧ Deal H2 aD aL ns' bl' ∧ H2 l = some (.lst (ls2.map V.int)) ∧ H2 g = some (.lst (fs2.map V.int)) ∧ ls2.length < ls.length ∧ fs2.length + ls2.length ≤ 10 ∧ (∀ t, t ∈ mixes ls2.length ls2 → fs2 ++ t ∈ mixes xs.length xs), fun σ2 H2 hN => ?_, ?_⟩
      · obtain ⟨e, n2, b2, ls2, fs2, k1, k2, k3, k4, k5, k6, k7⟩ := hN
        exact ⟨ls2.length, k5, e, n2, b2, ls2, fs2, k1, k2, k3, k4, rfl, by omega, k6, k7⟩
      · refine ⟨.ref g, rfl, .inl ⟨rfl, _, SqL.of hg1⟩, .ref l, rfl, .inl ⟨rfl, _, SqL.of hl1⟩, .ref aD, rfl, .ref l, rfl, l, _, rfl, .inl (SqL.of hl1), ?_⟩
        refine ⟨aD, aL, ns', bl', (ls.length : Int), ?_, hD1, by omega, by omega, fun H3 n3 b3 r hb3 hD3 r0 r1 => ?_⟩
        · rw [List.length_map]
          rfl
        have hl3 := hb3 _ _ lD lL hl1
        have hg3 := hb3 _ _ gD gL hg1
        obtain ⟨x, hxr⟩ : ∃ x, ls[r.toNat]? = some x := ⟨_, List.getElem?_eq_getElem (by omega)⟩
        refine ⟨l, _, r, r.toNat, .int x, rfl, rfl, hl3, by omega, by omega, ?_, by rw [List.getElem?_map, hxr]; rfl, ?_⟩
        · rw [List.length_map]
          exact seqIx r0 r1
        rw [erase_int]
        have hle : (ls.eraseIdx r.toNat).length = ls.length - 1 := by
          rw [List.length_eraseIdx]
          rw [if_pos (by omega)]
        refine ⟨g, _, .int x, rfl, rfl, by rw [L2.upd_ne hlg.symm]; exact hg3, ?_, rfl, n3, b3, ls.eraseIdx r.toNat, fs ++ [x], ?_, ?_, ?_, ?_, by omega, ?_, fun t ht => ?_⟩
        · rw [List.length_map]
          exact line_gt (by omega)
        · intro c o c1 c2 e
          rw [L2.upd_ne (fun z => by rw [z, ng0] at e; cases e), L2.upd_ne (fun z => by rw [z, nl] at e; cases e)]
          exact (hb1.trans hb3) c o c1 c2 e
        · exact ⟨by rw [L2.upd_ne gD.symm, L2.upd_ne lD.symm]; exact hD3.d, by rw [L2.upd_ne gL.symm, L2.upd_ne lL.symm]; exact hD3.l, hD3.ne, hD3.few⟩
        · rw [L2.upd_ne hlg, L2.upd_same]
        · rw [L2.upd_same, List.map_append]; rfl
        · rw [List.length_append]
          show fs.length + 1 + _ ≤ 10
          omega
        · rw [List.append_assoc]
          refine hm (x :: t) ?_
          have e : ls.length = (ls.eraseIdx r.toNat).length + 1 := by omega
          rw [e]
          exact mixes_cons hxr ht
end
end Kx

/-! KxH: the deal's making, by hand. -/
namespace Kx
open PySem L2 PyProof.Rows
/-- a comprehension over a list of ints, whose items are ints again -/
theorem lc_intsAny {K : PySem.W.Frag} {a : Addr} {ns : List Int} {tt : TT} {te : TE} {j : Nat} {σ : L2.St} {H1 : Hp} {Q : VK} (hS : SqL K H1 a (ns.map V.int)) (hlen : ns.length ≤ 48) (hj : j < σ.length)
    (ht : ∀ (k : Int) (σ' : L2.St) (H' : Hp) (G : Bool → Hp → Prop), σ'[j]? = some (some (.int k)) → (∀ b, G b H') → tt σ' H' G) (he : ∀ (k : Int) (σ' : L2.St) (H' : Hp) (G : VK), σ'[j]? = some (some (.int k)) → (∀ i : Int, G (.int i) H') → te σ' H' G)
    (q : ∀ D H' (ms : List Int), Same H1 H' → H1 D = none → H' D = some (.lst (ms.map V.int)) → ms.length ≤ 48 → Q (.ref D) H') :
    ∀ D, H1 D = none → ∃ W : Nat → Nat → Hp → Prop, (∃ m, W 0 m (upd H1 D (.lst []))) ∧ ∀ i m H, W i m H →
      ((Itl K a).stop i H ∧ Q (.ref D) H) ∨ ((Itl K a).go i H ∧ ∃ Nx : Hp → Prop, (∀ H', Nx H' → ∃ m', m' < m ∧ W (i + 1) m' H') ∧ ∀ x H', (Itl K a).yld i H x H' → gName j x (wipe σ [j]) H' fun σ2 H2 => wipe σ2 [j] = wipe σ [j] ∧ tt σ2 H2 fun b H3 =>
        if b = true then te σ2 H3 fun y H4 => ∃ acc, H4 D = some (.lst acc) ∧ acc.length < sizeLine ∧ Nx (upd H4 D (.lst (acc ++ [y]))) else Nx H3) := by
  intro D nD
  have hsame : ∀ {H : Hp}, (∀ c o, c ≠ D → H1 c = some o → H c = some o) → Same H1 H := fun h c o e => h c o (fun z => by rw [z, nD] at e; cases e) e
  refine lc_list (xs := ns.map V.int) (fun i H => (∀ c o, c ≠ D → H1 c = some o → H c = some o) ∧ ∃ ms : List Int, ms.length ≤ i ∧ H D = some (.lst (ms.map V.int))) ⟨fun c o hc e => by rw [L2.upd_ne hc]; exact e, [], Nat.le_refl _, L2.upd_same⟩
    (fun i H hi hP => (hsame hP.1).seq hS) (fun i x H hx hP => ?_) (fun H hP => ?_)
  · obtain ⟨hk, ms, hm, hD⟩ := hP
    obtain ⟨k, hk2, rfl⟩ : ∃ k, ns[i]? = some k ∧ x = .int k := by
      rw [List.getElem?_map] at hx
      cases e : ns[i]? with
      | none => rw [e] at hx; cases hx
      | some k => rw [e] at hx; exact ⟨k, rfl, (Option.some.inj hx).symm⟩
    have hi : i < ns.length := (List.getElem?_eq_some_iff.mp hk2).1
    show (wipe ((wipe σ [j]).set j (some (.int k))) [j]) = wipe σ [j] ∧ tt ((wipe σ [j]).set j (some (.int k))) H _
    rw [wipe1]
    have hs : (σ.set j (some (.int k)))[j]? = some (some (.int k)) := by rw [List.getElem?_set_self hj]
    refine ⟨?_, ht k _ H _ hs fun b => ?_⟩
    · show ((σ.set j (some (.int k))).set j none) = σ.set j none
      rw [List.set_set]
    · cases b with
      | false => exact iteF ⟨hk, ms, Nat.le_succ_of_le hm, hD⟩
      | true =>
        refine iteT (he k _ H _ hs fun z => ⟨_, hD, ?_, fun c o hc e => by rw [L2.upd_ne hc]; exact hk c o hc e, ms ++ [z], ?_, ?_⟩)
        · rw [List.length_map]
          exact line_gt (by omega)
        · rw [List.length_append]
          show ms.length + 1 ≤ i + 1
          omega
        · rw [L2.upd_same, List.map_append]
          rfl
  · obtain ⟨hk, ms, hm, hD⟩ := hP
    rw [List.length_map] at hm
    exact q D H ms (hsame hk) nD hD (by omega)
def LcB (J : It) (g : TG) (tt : TT) (te : TE) (vs : List Nat) (σ : L2.St) (H1 : Hp) (Q : VK) : Prop := ∀ D, H1 D = none → ∃ W : Nat → Nat → Hp → Prop, (∃ m, W 0 m (upd H1 D (.lst []))) ∧ ∀ i m H, W i m H →
  (J.stop i H ∧ Q (.ref D) H) ∨ (J.go i H ∧ ∃ Nx : Hp → Prop, (∀ H', Nx H' → ∃ m', m' < m ∧ W (i + 1) m' H') ∧ ∀ x H', J.yld i H x H' → g x (wipe σ vs) H' fun σ2 H2 => wipe σ2 vs = wipe σ vs ∧ tt σ2 H2 fun b H3 =>
    if b = true then te σ2 H3 fun y H4 => ∃ acc, H4 D = some (.lst acc) ∧ acc.length < sizeLine ∧ Nx (upd H4 D (.lst (acc ++ [y]))) else Nx H3)
theorem tLc_of {wi : TI} {g : TG} {tt : TT} {te : TE} {vs : List Nat} {σ : L2.St} {H : Hp} {Q : VK} (h : wi σ H fun J H1 => LcB J g tt te vs σ H1 Q) : tLc wi g tt te vs σ H Q := h
theorem lcB_ints {K : PySem.W.Frag} {a : Addr} {ns : List Int} {tt : TT} {te : TE} {j : Nat} {σ : L2.St} {H1 : Hp} {Q : VK} (hS : SqL K H1 a (ns.map V.int)) (hlen : ns.length ≤ 48) (hj : j < σ.length)
    (ht : ∀ (k : Int) (σ' : L2.St) (H' : Hp) (G : Bool → Hp → Prop), σ'[j]? = some (some (.int k)) → (∀ b, G b H') → tt σ' H' G) (he : ∀ (k : Int) (σ' : L2.St) (H' : Hp) (G : VK), σ'[j]? = some (some (.int k)) → (∀ i : Int, G (.int i) H') → te σ' H' G)
    (q : ∀ D H' (ms : List Int), Same H1 H' → H1 D = none → H' D = some (.lst (ms.map V.int)) → ms.length ≤ 48 → Q (.ref D) H') : LcB (Itl K a) (gName j) tt te [j] σ H1 Q := lc_intsAny hS hlen hj ht he q
theorem seq_of {t u : TS} {D : Ends} {σ : L2.St} {H : Hp} (h : t { D with nx := u D } σ H) : tSeq t u D σ H := h
theorem asg_of {t : TE} {g : TG} {D : Ends} {σ : L2.St} {H : Hp} (h : t σ H fun x H1 => g x σ H1 D.nx) : tAsg t g D σ H := h
theorem rev_of {K : PySem.W.Frag} {t : TE} {σ : L2.St} {H : Hp} {Q : VK} (h : t σ H fun x H1 => ∃ a xs, x = .ref a ∧ SqL K H1 a xs ∧ ∀ p, H1 p = none → Q (.ref p) (upd H1 p (.lst xs.reverse))) : tRevL K t σ H Q := h
theorem retlst_of {ta : TE} {tr : TA} {D : Ends} {σ : L2.St} {H : Hp} (h : ta σ H fun x H1 => tr σ H1 fun xs H2 => (x :: xs).length ≤ sizeLine ∧ ∀ p, H2 p = none → D.rt (.ref p) (upd H2 p (.lst (x :: xs)))) : tRet (tLst (tCons ta tr)) D σ H := h
section
variable {P : Program} {w : World} {K : PySem.W.Frag} {mg : Str → Option Value} {base : Heap}
abbrev s_draw : Stmt := topS 23
theorem sc_draw : FnScope ["_law_script", "_law_salt", "_law_cells", "_law_blend", "_law_cell"] ["_law_script", "_law_salt"] (defScope s_draw) := ⟨rfl, rfl, rfl, by decide +kernel, rfl, by decide +kernel, by decide +kernel⟩
def spDraw (K : PySem.W.Frag) : Sp := fun vs H Q _ => ∃ (a : Addr) (ns : List Int), vs = [.ref a, .int 26] ∧ SqL K H a (ns.map V.int) ∧ ∀ H' aD aL ms bl, Same H H' → H aD = none → H aL = none → Deal H' aD aL ms bl → Q (.ref aD) H'
theorem cut48 (ns : List Int) : cutV (ns.map V.int) none (some 48) = (ns.take 48).map V.int := by
  unfold cutV
  rw [HT.sIx_none, show HT.sIx (ns.map V.int).length (ns.map V.int).length (some 48) = min 48 (ns.map V.int).length from HT.sIx_nat _ _ 48, Nat.sub_zero, List.drop_zero, List.length_map, List.map_take]
  by_cases h : 48 ≤ ns.length
  · rw [Nat.min_eq_left h]
  · rw [Nat.min_eq_right (by omega), List.take_of_length_le (by rw [List.length_map]; exact Nat.le_refl _), List.take_of_length_le (by rw [List.length_map]; omega)]
theorem ok_draw {f : Addr} {fd : FuncData} {k : Nat} (Fn : Fun K "_law_draw" "_law_draw" s_draw f fd) (m_int : mg "int" = none) (m_abs : mg "abs" = none) : FnOk P w K mg base CX0 (k + 1) f fd ["_law_script", "_law_salt"] (spDraw K) := by
  refine Fn.ok sc_draw (fun vs H Q E h => ?_) (fun cdv A outer s H vs Q E hr h => ?_)
  · obtain ⟨a, ns, rfl, _⟩ := h
    rfl
  · obtain ⟨a, ns, rfl, hS, q⟩ := h
    refine ⟨_, pss_cons (ps_setLc (i := 2) rfl sc_draw.nd rfl rfl (sw_true rfl rfl rfl (by decide +kernel)) (pi_list (pe_slice sl_list (pv 0) po_none (po_some pe_int))) (blkOk_by (own := [("_law_cell", 4)]) (by kernel_rfl))
        (fun _ _ _ _ _ => pg_name (i := 4) sc_draw.nd rfl (.inl rfl)) (fun _ _ _ _ _ => pts_nil)
        (fun _ _ _ _ _ => pe_callB call_abs (by rfl) m_abs (by rfl) (pa_cons (pe_callTy call_int1 (by rfl) m_int (by rfl) (pa_cons (pv 4) pa_nil)) pa_nil)))
      (pss_cons (ps_set (i := 3) sc_draw.nd rfl (.inl rfl) (pe_op op_add pe_int (pe_op op_mul pe_int (pv 1))))
      (pss_cons (ps_for PassesOwn.never rfl (pi_list (pv 2)) (pg_name (i := 4) sc_draw.nd rfl (.inl rfl))
        (pss_one (ps_set (i := 3) sc_draw.nd rfl (.inl rfl) (pe_op op_mod (pe_callTy call_int1 (by rfl) m_int (by rfl) (pa_cons (pe_op op_add (pe_op op_add (pe_op op_mul (pv 3) pe_int) (pe_op op_mod (pv 4) pe_int)) pe_int) pa_nil)) pe_int))))
      (pss_one (ps_ret (pe_lst (pa_cons (pe_revL (pe_lc rfl sc_draw.nd (pi_list (pv 2)) (blkOk_by (own := [("_law_cell", 4)]) (by kernel_rfl)) (fun _ _ _ _ _ => pg_name (i := 4) sc_draw.nd rfl (.inl rfl))
        (fun _ _ _ _ _ => pts_one (pt_cmpR op_ge (pv 4) (pe_op op_pow pe_int pe_int) (nomark _))) (fun _ _ _ _ _ => pv 4))) (pa_cons (pv 3) pa_nil))))))), ?_⟩
    -- cells
    refine seq_of (asg_of (tLc_of ⟨.ref a, rfl, 48, rfl, a, _, rfl, hS, fun l nl => ⟨l, rfl, ⟨_, SqL.of L2.upd_same⟩, ?_⟩⟩))
    rw [cut48]
    have s1 : Same H (L2.upd H l (.lst ((ns.take 48).map V.int))) := same_new nl
    refine lcB_ints (j := 4) (ns := ns.take 48) (SqL.of L2.upd_same) (by rw [List.length_take]; omega) (show 4 < 5 by decide) (fun k σ' H' G hs g => g true)
      (fun k σ' H' G hs g => ⟨.int k, hs, .inl ⟨k, rfl, k, rfl, g _⟩⟩) fun C H2 cs s2 nC hC hcl => ?_
    have s12 := s1.trans s2
    -- blend
    refine ⟨.int 26, rfl, 104729, 26, rfl, rfl, .inl (by constructor <;> decide), 7919, _, rfl, rfl, ?_⟩
    have hSq : ∀ {H' : Hp}, Same H2 H' → SqL K H' C (cs.map V.int) := fun e => SqL.of (e _ _ hC)
    -- for cell in cells
    refine ⟨.ref C, rfl, C, rfl, ⟨_, SqL.of hC⟩, fun i m σ H3 => H3 = H2 ∧ m = cs.length - i ∧ i ≤ cs.length ∧ ∃ (b : Int) (x4 : Option V), σ = [some (.ref a), some (.int 26), some (.ref C), some (.int b), x4], ⟨cs.length, rfl, by omega, Nat.zero_le _, _, none, rfl⟩, fun i m σ H3 hW => ?_⟩
    obtain ⟨rfl, rfl, hi, b, x4, rfl⟩ := hW
    by_cases hlt : i < cs.length
    · have g : (cs.map V.int)[i]? = some (.int cs[i]) := by
        rw [List.getElem?_map, List.getElem?_eq_getElem hlt]
        rfl
      refine .inr ⟨⟨_, _, hSq (Same.refl _), g⟩, fun σ' H' => H' = H3 ∧ ∃ (b : Int) (x4 : Option V), σ' = [some (.ref a), some (.int 26), some (.ref C), some (.int b), x4], fun σ' H' hN => ?_, fun v H' hy => ?_⟩
      · obtain ⟨e1, b', x', e2⟩ := hN
        exact ⟨cs.length - (i + 1), by omega, e1, rfl, hlt, b', x', e2⟩
      · obtain ⟨rfl, fv⟩ := hy
        have ev : v = .int cs[i] := Option.some.inj ((fv _ (hSq (Same.refl _))).symm.trans g)
        subst ev
        exact ⟨.int b, rfl, b, 48271, rfl, rfl, .inr (by constructor <;> decide), .int cs[i], rfl, cs[i], 2147483549, rfl, rfl, (show (0 : Int) < 2147483549 by decide), _, _, rfl, rfl, _, 11, rfl, rfl, .inl ⟨_, rfl, _, 2147483647, rfl, rfl, (show (0 : Int) < 2147483647 by decide), rfl, _, _, rfl⟩⟩
    · refine .inl ⟨⟨_, hSq (Same.refl _), by rw [List.length_map]; omega⟩, ?_⟩
      -- return [[..][::-1], blend]
      dsimp only
      refine retlst_of ?_
      refine rev_of ?_
      refine tLc_of ?_
      refine ⟨.ref C, rfl, C, rfl, ⟨_, hSq (Same.refl _)⟩, ?_⟩
      refine lcB_ints (j := 4) (ns := cs) (hSq (Same.refl _)) hcl (show 4 < 5 by decide)
        (fun k σ' H' G hs g => ⟨.int k, hs, 10, 18, rfl, rfl, ⟨by decide, by decide, by decide⟩, k, _, rfl, rfl, _, rfl, g _⟩)
        (fun k σ' H' G hs g => ⟨.int k, hs, g _⟩) fun D2 H4 ds s4 nD2 hD2 hdl => ?_
      refine ⟨D2, _, rfl, SqL.of hD2, fun L nL => ⟨.int b, rfl, by show 2 ≤ sizeLine; decide, fun aD nD => ?_⟩⟩
      have e : (ds.map V.int).reverse = ds.reverse.map V.int := by rw [List.map_reverse]
      rw [e] at nD ⊢
      have sAll : Same H H4 := s12.trans s4
      have hLD : L ≠ aD := fun z => by rw [← z, L2.upd_same] at nD; cases nD
      refine q _ aD L ds.reverse b ((sAll.trans (same_new nL)).trans (same_new nD)) ?_ (sAll.free nL) ⟨L2.upd_same, by rw [L2.upd_ne hLD, L2.upd_same], hLD.symm, by rw [List.length_reverse]; exact hdl⟩
      rw [L2.upd_ne hLD.symm] at nD
      exact sAll.free nD
end
end Kx

/-! KxB: the law's own def, by hand; printed by lawtext.py. -/
namespace Kx
open PySem L2 PyProof.Rows
/-! ### what is to be computed -/
def rgI (h : Int) : List Int := (List.range h.toNat).map fun (i : Nat) => (i : Int)
def Size (m h : Int) : Prop := (m = 2 ∧ 1 ≤ h ∧ h ≤ 4) ∨ (m = 3 ∧ 1 ≤ h ∧ h ≤ 3)
noncomputable def tailSt (h k : Int) (p : List Int) : S := ⟨[none, none, none, some (.int h), some (.int k), none, some (.ptup (ofI p)), none, none, none, none, none, none], [], 0⟩
structure Done : Prop where
  both : ∀ m h k p, Size m h → 0 ≤ k → k ≤ h → p ∈ mixes h.toNat (rgI h) → g_law_both [.int m, .int k, .ptup (ofI p)] = some (.bl true)
  turn : ∀ m h i, Size m h → 0 ≤ i → i ≤ h → ∃ p, p ∈ mixes h.toNat (rgI h) ∧ g_turned_order [.int i, .int (h - i)] = some (.ptup (ofI p))
  turned : ∀ m h i k, Size m h → 0 ≤ i → i ≤ h → 0 ≤ k → k ≤ h → g_law_turned [.int m, .int i, .int (h - i), .int k] = some (.bl true)
  tail : ∀ h k p, 1 ≤ h → h ≤ 3 → 0 ≤ k → k ≤ h → p ∈ mixes h.toNat (rgI h) → ∃ s, b_tail (tailSt h k p) = .rt (.bl true) s
theorem rgV_rgI (h : Int) : rgV 0 h = (rgI h).map V.int := by
  unfold rgV rgI
  rw [Int.sub_zero, List.map_map]
  refine List.map_congr_left fun i _ => ?_
  show V.int (0 + (i : Int)) = V.int (i : Int)
  rw [Int.zero_add]
theorem rgI_len (h : Int) : (rgI h).length = h.toNat := by unfold rgI; rw [List.length_map, List.length_range]
/-! ### states -/
section
variable {P : Program} {w : World} {σ : L2.St} {H H' F F' F0 H0 : Hp} {sl sl' : List (Option D)} {aD aL : Addr} {rho : Nat → Addr}
structure LR (P : Program) (w : World) (σ : L2.St) (H F : Hp) (sl : List (Option D)) (aD aL : Addr) : Prop where
  rel : Rel P w F H F (fun _ => 0) ⟨sl, [], 0⟩ σ H
  deal : ∃ ns bl, Deal H aD aL ns bl
  fd : F aD = none
  fl : F aL = none
theorem LR.next (L : LR P w σ H F sl aD aL) (t : Step F H F' H') : LR P w σ H' F' sl aD aL := by
  obtain ⟨ns, bl, d⟩ := L.deal
  have R := L.rel.step t
  exact ⟨⟨R.sub, Same.refl _, Same.refl _, fun b o e => .inl (by rw [e]; exact fun z => nomatch z), R.sl, R.ln, (fun n o e => nomatch e), (fun n m o p e => nomatch e)⟩,
    ⟨ns, bl, t.h _ _ d.d, t.h _ _ d.l, d.ne, d.few⟩, t.keep L.fd d.d, t.keep L.fl d.l⟩
theorem LR.any (L : LR P w σ H F sl aD aL) (b : But2 aD aL H H') {ns : List Int} {bl : Int} (d : Deal H' aD aL ns bl) : LR P w σ H' F sl aD aL :=
  ⟨⟨fun c o e => b c o (fun z => by rw [z, L.fd] at e; cases e) (fun z => by rw [z, L.fl] at e; cases e) (L.rel.sub c o e), Same.refl _, Same.refl _, fun b o e => .inl (by rw [e]; exact fun z => nomatch z), L.rel.sl, L.rel.ln, (fun n o e => nomatch e), (fun n m o p e => nomatch e)⟩, ⟨ns, bl, d⟩, L.fd, L.fl⟩
theorem LR.put (L : LR P w σ H F sl aD aL) {i : Nat} {d : D} {v : V} (iv : Is F d v) : LR P w (σ.set i (some v)) H F (stl sl i (some d)) aD aL :=
  ⟨L.rel.put (i := i) (d := d) (IsV.of iv), L.deal, L.fd, L.fl⟩
theorem LR.weak (L : LR P w σ H F sl aD aL) (hl : sl'.length = sl.length) (h : ∀ i d, getS sl' i = some d → getS sl i = some d) : LR P w σ H F sl' aD aL :=
  ⟨⟨L.rel.sub, L.rel.sub0, L.rel.old, L.rel.fre, fun i d e => L.rel.sl i d (h i d e), hl.trans L.rel.ln, L.rel.ob, L.rel.inj⟩, L.deal, L.fd, L.fl⟩
end
theorem after_rt {P : Program} {w : World} {F0 H0 F : Hp} {r : R} {s' : S} {D : Ends} (e : r = .rt (.bl true) s') (q : ∀ (F' : Hp) (σ' : L2.St) H', D.rt (.bl true) H') : After P w F0 H0 F r D := by
  subst e
  intro F' rho' σ' H' v R' ef iv
  rw [v_bl iv]
  exact q F' σ' H'
/-! ### tests -/
theorem test7 (uT uB uO : Fn) (m h k i : Int) (q : List D) (x0 x1 x6 : Option D) (r : List (Option D)) (hT : uT [.int m, .int i, .int (h - i), .int k] = some (.bl true)) (hO : uO [.int i, .int (h - i)] = some (.ptup q)) (hB : uB [.int m, .int k, .ptup q] = some (.bl true)) :
    tOr (tNot (tV (eCall uT [eVar 2, eVar 5, eSub (eVar 3) (eVar 5), eVar 4]))) (tNot (tV (eCall uB [eVar 2, eVar 4, eCall uO [eVar 5, eSub (eVar 3) (eVar 5)]]))) ⟨x0 :: x1 :: some (.int m) :: some (.int h) :: some (.int k) :: some (.int i) :: x6 :: r, [], 0⟩ = some false := by
  rw [← subI_eq] at hT hO
  generalize hs : (⟨x0 :: x1 :: some (.int m) :: some (.int h) :: some (.int k) :: some (.int i) :: x6 :: r, [], 0⟩ : S) = s
  have e1 : eCall uT [eVar 2, eVar 5, eSub (eVar 3) (eVar 5), eVar 4] s = some (.bl true) := by rw [← hs]; exact hT
  have e2 : eCall uO [eVar 5, eSub (eVar 3) (eVar 5)] s = some (.ptup q) := by rw [← hs]; exact hO
  have e3 : eCall uB [eVar 2, eVar 4, eCall uO [eVar 5, eSub (eVar 3) (eVar 5)]] s = some (.bl true) := by
    have a2 : eVar 2 s = some (.int m) := by rw [← hs]; rfl
    have a4 : eVar 4 s = some (.int k) := by rw [← hs]; rfl
    show (oB (oB (eVar 2 s) fun x => oB (oB (eVar 4 s) fun x => oB (oB (eCall uO [eVar 5, eSub (eVar 3) (eVar 5)] s) fun x => oB (some []) fun xs => some (x :: xs)) fun xs => some (x :: xs)) fun xs => some (x :: xs)) fun xs => ck (clAll xs) (uB xs)) = _
    rw [e2, a2, a4]
    exact hB
  have n1 : ∀ e : Ex, e s = some (.bl true) → tNot (tV e) s = some false := fun e he => by
    show (oB (oB (e s) fun d => gB d some) fun c => some (!c)) = _
    rw [he]
    rfl
  show (oB (tNot (tV (eCall uT [eVar 2, eVar 5, eSub (eVar 3) (eVar 5), eVar 4])) s) fun c => @Bool.rec (fun _ => Option Bool) (tNot (tV (eCall uB [eVar 2, eVar 4, eCall uO [eVar 5, eSub (eVar 3) (eVar 5)]])) s) (some true) c) = _
  rw [n1 _ e1]
  exact n1 _ e3
/-- nothing is known yet -/
theorem rep_none {d : D} : ∀ (n i : Nat), getS (List.replicate n none) i = some d → False
  | 0, _, e => by cases e
  | _ + 1, 0, e => by cases e
  | n + 1, i + 1, e => rep_none n i e
theorem rel0 {P : Program} {w : World} {σ : L2.St} {H : Hp} {n : Nat} (hl : n = σ.length) : Rel P w (fun _ => none) H (fun _ => none) (fun _ => 0) ⟨List.replicate n none, [], 0⟩ σ H :=
  ⟨(fun b o e => nomatch e), (fun b o e => nomatch e), Same.refl _, (fun b o e => nomatch e), (fun i d e => (rep_none _ _ e).elim), (by show (List.replicate n none).length = _; rw [List.length_replicate]; exact hl), (fun n o e => nomatch e), (fun n m o p e => nomatch e)⟩
section
variable {P : Program} {w : World} {K : PySem.W.Frag} {mg : Str → Option Value} {base : Heap}
abbrev s_law : Stmt := topS 41
theorem sc_law : FnScope ["_law_script", "_law_deal", "_law_m", "_law_h", "_law_k", "_law_i", "_law_order", "_law_b", "_law_blocks", "_law_wish", "_law_start", "_law_block", "_law_record"] ["_law_script"] (defScope s_law) := ⟨rfl, rfl, rfl, by decide +kernel, rfl, by decide +kernel, by decide +kernel⟩
def spLaw (K : PySem.W.Frag) : Sp := fun vs H Q _ => ∃ (a : Addr) (ns : List Int), vs = [.ref a] ∧ SqL K H a (ns.map V.int) ∧ ∀ H', Q (.bl true) H'
theorem ok_law (W : Done) {f : Addr} {fd : FuncData} (Fn : Fun K "law" "law" s_law f fd)
    {f_law_both : Addr} {d_law_both : FuncData} (G_law_both : FnOk P w K mg base CX0 8 f_law_both d_law_both ["_law_m", "_law_k", "_law_order"] (spD 3 g_law_both)) (h_law_both : mg "_law_both" = some (.ref f_law_both)) (p_law_both : PySem.W.keepIn K (.ref f_law_both) = true) (b_law_both : Binds K d_law_both ["_law_m", "_law_k", "_law_order"] [])
    {f_law_turned : Addr} {d_law_turned : FuncData} (G_law_turned : FnOk P w K mg base CX0 8 f_law_turned d_law_turned ["_law_m", "_law_i", "_law_j", "_law_k"] (spD 4 g_law_turned)) (h_law_turned : mg "_law_turned" = some (.ref f_law_turned)) (p_law_turned : PySem.W.keepIn K (.ref f_law_turned) = true) (b_law_turned : Binds K d_law_turned ["_law_m", "_law_i", "_law_j", "_law_k"] [])
    {f_turned_order : Addr} {d_turned_order : FuncData} (G_turned_order : FnOk P w K mg base CX0 1 f_turned_order d_turned_order ["i", "j"] (spD 2 g_turned_order)) (h_turned_order : mg "turned_order" = some (.ref f_turned_order)) (p_turned_order : PySem.W.keepIn K (.ref f_turned_order) = true) (b_turned_order : Binds K d_turned_order ["i", "j"] [])
    {f_law_laid : Addr} {d_law_laid : FuncData} (G_law_laid : FnOk P w K mg base CX0 2 f_law_laid d_law_laid ["_law_m", "_law_k", "_law_order"] (spD 3 g_law_laid)) (h_law_laid : mg "_law_laid" = some (.ref f_law_laid)) (p_law_laid : PySem.W.keepIn K (.ref f_law_laid) = true) (b_law_laid : Binds K d_law_laid ["_law_m", "_law_k", "_law_order"] [])
    {f_law_places : Addr} {d_law_places : FuncData} (G_law_places : FnOk P w K mg base CX0 2 f_law_places d_law_places ["_law_standing"] (spD 1 g_law_places)) (h_law_places : mg "_law_places" = some (.ref f_law_places)) (p_law_places : PySem.W.keepIn K (.ref f_law_places) = true) (b_law_places : Binds K d_law_places ["_law_standing"] [])
    {f_law_uniform : Addr} {d_law_uniform : FuncData} (G_law_uniform : FnOk P w K mg base CX0 2 f_law_uniform d_law_uniform ["_law_b", "_law_blocks", "_law_m"] (spD 3 g_law_uniform)) (h_law_uniform : mg "_law_uniform" = some (.ref f_law_uniform)) (p_law_uniform : PySem.W.keepIn K (.ref f_law_uniform) = true) (b_law_uniform : Binds K d_law_uniform ["_law_b", "_law_blocks", "_law_m"] [])
    {f_named_digit_row : Addr} {d_named_digit_row : FuncData} (G_named_digit_row : FnOk P w K mg base CX0 7 f_named_digit_row d_named_digit_row ["m", "k", "order"] (spD 3 g_named_digit_row)) (h_named_digit_row : mg "named_digit_row" = some (.ref f_named_digit_row)) (p_named_digit_row : PySem.W.keepIn K (.ref f_named_digit_row) = true) (b_named_digit_row : Binds K d_named_digit_row ["m", "k", "order"] [])
    {f_draw : Addr} {d_draw : FuncData} (G_draw : FnOk P w K mg base CX0 1 f_draw d_draw ["_law_script", "_law_salt"] (spDraw K)) (h_draw : mg "_law_draw" = some (.ref f_draw)) (p_draw : PySem.W.keepIn K (.ref f_draw) = true) (b_draw : Binds K d_draw ["_law_script", "_law_salt"] [])
    {f_any : Addr} {d_any : FuncData} (G_any : FnOk P w K mg base CX0 1 f_any d_any ["_law_deal", "_law_bound"] spAny) (h_any : mg "_law_any" = some (.ref f_any)) (p_any : PySem.W.keepIn K (.ref f_any) = true) (b_any : Binds K d_any ["_law_deal", "_law_bound"] [])
    {f_mixed : Addr} {d_mixed : FuncData} (G_mixed : FnOk P w K mg base CX0 2 f_mixed d_mixed ["_law_deal", "_law_some"] (spMixed K)) (h_mixed : mg "_law_mixed" = some (.ref f_mixed)) (p_mixed : PySem.W.keepIn K (.ref f_mixed) = true) (b_mixed : Binds K d_mixed ["_law_deal", "_law_some"] [])
    (m_len : mg "len" = none)
    (m_sorted : mg "sorted" = none)
    (m_tuple : mg "tuple" = none)
    (m_range : mg "range" = none)
    (m_list : mg "list" = none) :
    FnOk P w K mg base CX0 9 f fd ["_law_script"] (spLaw K) := by
  refine Fn.ok sc_law (fun vs H Q E h => ?_) (fun cdv A outer s H vs Q E hr h => ?_)
  · obtain ⟨a, ns, rfl, _⟩ := h
    rfl
  · obtain ⟨a, ns, rfl, hS, q⟩ := h
    refine ⟨_, pss_cons (ps_set (i := 1) sc_law.nd rfl (.inl rfl) (pe_call G_draw (hr.mono (by decide)) (by rfl) h_draw p_draw b_draw .nil pass0 (pa_cons (pv 0) (pa_cons pe_int pa_nil))))
      (pss_cons (ps_set (i := 2) sc_law.nd rfl (.inl rfl) (pe_op op_add pe_int (pe_call G_any (hr.mono (by decide)) (by rfl) h_any p_any b_any .nil pass0 (pa_cons (pv 1) (pa_cons pe_int pa_nil)))))
      (pss_cons (ps_set (i := 3) sc_law.nd rfl (.inl rfl) (pe_op op_add pe_int (pe_call G_any (hr.mono (by decide)) (by rfl) h_any p_any b_any .nil pass0 (pa_cons (pv 1) (pa_cons (pe_op op_sub pe_int (pv 2)) pa_nil)))))
      (pss_cons (ps_set (i := 4) sc_law.nd rfl (.inl rfl) (pe_call G_any (hr.mono (by decide)) (by rfl) h_any p_any b_any .nil pass0 (pa_cons (pv 1) (pa_cons (pe_op op_add (pv 3) pe_int) pa_nil))))
      (pss_cons (ps_if (pt_not (pt_val (pe_call G_law_both (hr.mono (by decide)) (by rfl) h_law_both p_law_both b_law_both .nil pass0 (pa_cons (pv 2) (pa_cons (pv 4) (pa_cons (pe_callTy call_ptup (by rfl) m_tuple boot_tuple (pa_cons (pe_call G_mixed (hr.mono (by decide)) (by rfl) h_mixed p_mixed b_mixed .nil pass0 (pa_cons (pv 1) (pa_cons (pe_listRg rfl (by rfl) m_list (prg_1 (by rfl) m_range (pv 3))) pa_nil))) pa_nil)) pa_nil)))))) (pss_one (ps_ret pe_bl)) pss_nil)
      (pss_cons (ps_set (i := 5) sc_law.nd rfl (.inl rfl) (pe_call G_any (hr.mono (by decide)) (by rfl) h_any p_any b_any .nil pass0 (pa_cons (pv 1) (pa_cons (pe_op op_add (pv 3) pe_int) pa_nil))))
      (pss_cons (ps_if (xt_or (xt_not (xt_val (x_call G_law_turned (hr.mono (by decide)) (by rfl) h_law_turned p_law_turned b_law_turned rfl (xx_cons (x_var 2) (xx_cons (x_var 5) (xx_cons (x_sub (x_var 3) (x_var 5)) (xx_cons (x_var 4) xx_nil))))))) (xt_or1 (xt_not (xt_val (x_call G_law_both (hr.mono (by decide)) (by rfl) h_law_both p_law_both b_law_both rfl (xx_cons (x_var 2) (xx_cons (x_var 4) (xx_cons (x_call G_turned_order (hr.mono (by decide)) (by rfl) h_turned_order p_turned_order b_turned_order rfl (xx_cons (x_var 5) (xx_cons (x_sub (x_var 3) (x_var 5)) xx_nil))) xx_nil)))))))).pt (pss_one (ps_ret pe_bl)) pss_nil)
      (pss_cons (ps_set (i := 3) sc_law.nd rfl (.inl rfl) (pe_op op_add pe_int (pe_call G_any (hr.mono (by decide)) (by rfl) h_any p_any b_any .nil pass0 (pa_cons (pv 1) (pa_cons pe_int pa_nil)))))
      (pss_cons (ps_par (i := 4) (j := 6) rfl sc_law.nd rfl rfl (by decide) rfl rfl (pa_cons (pe_call G_any (hr.mono (by decide)) (by rfl) h_any p_any b_any .nil pass0 (pa_cons (pv 1) (pa_cons (pe_op op_add (pv 3) pe_int) pa_nil))) (pa_cons (pe_callTy call_ptup (by rfl) m_tuple boot_tuple (pa_cons (pe_call G_mixed (hr.mono (by decide)) (by rfl) h_mixed p_mixed b_mixed .nil pass0 (pa_cons (pv 1) (pa_cons (pe_listRg rfl (by rfl) m_list (prg_1 (by rfl) m_range (pv 3))) pa_nil))) pa_nil)) pa_nil)) (by rfl))
      (xb_cons (xs_unp (fun h => ps_asg h (pg_tup rfl (pgs_cons (pg_name (i := 7) sc_law.nd rfl (.inl rfl)) (pgs_cons (pg_name (i := 8) sc_law.nd rfl (.inl rfl)) pgs_nil)))) (x_call G_law_laid (hr.mono (by decide)) (by rfl) h_law_laid p_law_laid b_law_laid rfl (xx_cons (x_int) (xx_cons (x_var 4) (xx_cons (x_tupRange rfl (by rfl) m_tuple (by rfl) m_range (x_var 3)) xx_nil)))))
    (xb_cons (xs_set 9 (fun h => ps_set (i := 9) sc_law.nd rfl (.inr rfl) h) (x_call G_law_places (hr.mono (by decide)) (by rfl) h_law_places p_law_places b_law_places rfl (xx_cons (x_call G_law_laid (hr.mono (by decide)) (by rfl) h_law_laid p_law_laid b_law_laid rfl (xx_cons (x_int) (xx_cons (x_var 4) (xx_cons (x_var 6) xx_nil)))) xx_nil)))
    (xb_cons (xs_set 10 (fun h => ps_set (i := 10) sc_law.nd rfl (.inl rfl) h) (x_ct cal_tuple (x_frz (xl_comp rfl sc_law.nd (xi_seq (x_var 8)) (blkOk_by (own := [("_law_block", 11)]) (by kernel_rfl)) (gok1 11) (fun _ _ _ _ _ => pg_name (i := 11) sc_law.nd rfl (by first | exact .inl rfl | exact .inr rfl)) (fun _ _ _ _ _ => pts_yes) (fun _ _ _ _ _ => x_ct cal_tuple (x_frz (xl_cb cal_sorted (x_frz (xl_comp rfl sc_law.nd (xi_seq (x_var 11)) (blkOk_by (own := [("_law_record", 12)]) (by kernel_rfl)) (gok1 12) (fun _ _ _ _ _ => pg_name (i := 12) sc_law.nd rfl (by first | exact .inl rfl | exact .inr rfl)) (fun _ _ _ _ _ => pts_yes) (fun _ _ _ _ _ => x_ix (u1 hr) (x_var 9) (x_var 12) (fun _ _ => rfl) (fun _ _ => rfl)))) (by rfl) m_sorted (by rfl))) (by rfl) m_tuple boot_tuple))) (by rfl) m_tuple boot_tuple))
    (xb_one (xs_ret (x_cmp (ck_eq hr.units) (x_call G_law_uniform (hr.mono (by decide)) (by rfl) h_law_uniform p_law_uniform b_law_uniform rfl (xx_cons (x_var 7) (xx_cons (x_var 10) (xx_cons (x_int) xx_nil)))) (x_cb cal_len (x_ix (u1 hr) (x_call G_named_digit_row (hr.mono (by decide)) (by rfl) h_named_digit_row p_named_digit_row b_named_digit_row rfl (xx_cons (x_int) (xx_cons (x_var 4) (xx_cons (x_var 6) xx_nil)))) (x_int) (fun _ _ => rfl) (fun _ _ => rfl)) (by rfl) m_len PySem.boot_len) (nomark _))))))))))))))), ?_⟩
    -- deal = draw(script, 26)
    refine ⟨.ref a, rfl, a, ns, rfl, hS, fun H1 aD aL ms bl s1 nD nL d1 => ?_⟩
    have L1 : LR P w [some (.ref a), some (.ref aD), none, none, none, none, none, none, none, none, none, none, none] H1 (fun _ => none) [none, none, none, none, none, none, none, none, none, none, none, none, none] aD aL :=
      ⟨rel0 (n := 13) rfl, ⟨ms, bl, d1⟩, rfl, rfl⟩
    -- m = 2 + any(deal, 2)
    refine ⟨.ref aD, rfl, aD, aL, ms, bl, 2, rfl, d1, by decide, by decide, fun H2 n2 b2 r2 u2 d2 r20 r21 => ⟨2, r2, rfl, rfl, ?_⟩⟩
    have L2' := (L1.any u2 d2).put (i := 2) (.int (2 + r2))
    -- h = 1 + any(deal, 6 - m)
    refine ⟨.ref aD, rfl, .int (2 + r2), rfl, 6, (2 + r2), rfl, rfl, aD, aL, n2, b2, 6 - (2 + r2), rfl, d2, by omega, by omega, fun H3 n3 b3 r3 u3 d3 r30 r31 => ⟨1, r3, rfl, rfl, ?_⟩⟩
    have hsz : Size (2 + r2) (1 + r3) := by unfold Size; omega
    have L3 := (L2'.any u3 d3).put (i := 3) (.int (1 + r3))
    -- k = any(deal, h + 1)
    refine ⟨.ref aD, rfl, .int (1 + r3), rfl, (1 + r3), 1, rfl, rfl, aD, aL, n3, b3, (1 + r3) + 1, rfl, d3, by omega, by omega, fun H4 n4 b4 k u4 d4 k0 k1 => ?_⟩
    have L4 := (L3.any u4 d4).put (i := 4) (.int k)
    have hk : k ≤ (1 + r3) := by omega
    have h10 : (1 + r3) ≤ 10 := by unfold Size at hsz; omega
    have h0 : 0 ≤ (1 + r3) := by unfold Size at hsz; omega
    -- if not both(m, k, tuple(mixed(deal, list(range(h)))))
    refine ⟨.int (2 + r2), rfl, .int k, rfl, .ref aD, rfl, .int (1 + r3), rfl, (1 + r3), rfl, ⟨by omega, by omega, by omega, by omega, by omega⟩, fun l nl => ?_⟩
    have L5 := L4.next (Step.own L4.rel.sub nl (o := .lst (rgV 0 (1 + r3))))
    obtain ⟨n5, b5, d5⟩ := L5.deal
    refine ⟨aD, aL, n5, b5, l, rgI (1 + r3), rfl, d5, by rw [L2.upd_same, rgV_rgI], by rw [rgI_len]; omega, fun H6 n6 b6 p ys u6 d6 np hp hy => ⟨p, _, rfl, SqL.of hp, fun t o nt oc od => ?_⟩⟩
    rw [rgI_len] at hy
    have L6a := L5.any u6 d6
    have L6 := L6a.next (Step.lay L6a.rel.sub nt (o := .frz o (.tup (ys.map V.int))))
    refine ⟨_, [.int (2 + r2), .int k, .ptup (ofI ys)], .bl true, rfl, L6.rel.sub, .cons (.int (2 + r2)) (.cons (.int k) (.cons (.ptup L2.upd_same oc od (is_ints ys)) .nil)), W.both (2 + r2) (1 + r3) k ys hsz k0 hk hy, fun F7 H7 v st iv => ⟨true, iv.bl_eq, iteF ?_⟩⟩
    have L7 := L6.next st
    obtain ⟨n7, b7, d7⟩ := L7.deal
    -- i = any(deal, h + 1)
    refine ⟨.ref aD, rfl, .int (1 + r3), rfl, (1 + r3), 1, rfl, rfl, aD, aL, n7, b7, (1 + r3) + 1, rfl, d7, by omega, by omega, fun H8 n8 b8 i u8 d8 i0 i1 => ?_⟩
    have L8 := (L7.any u8 d8).put (i := 5) (.int i)
    have hi : i ≤ (1 + r3) := by omega
    -- if not turned(..) or not both(..)
    obtain ⟨pt, hpt, ept⟩ := W.turn (2 + r2) (1 + r3) i hsz i0 hi
    refine ⟨_, _, _, _, _, false, L8.rel, test7 _ _ _ (2 + r2) (1 + r3) k i (ofI pt) _ _ _ _ (W.turned (2 + r2) (1 + r3) i k hsz i0 hi k0 hk) ept (W.both (2 + r2) (1 + r3) k pt hsz k0 hk hpt), fun F9 H9 st9 => iteF ?_⟩
    have L9 := L8.next st9
    obtain ⟨n9, b9, d9⟩ := L9.deal
    -- h = 1 + any(deal, 3)
    refine ⟨.ref aD, rfl, aD, aL, n9, b9, 3, rfl, d9, by decide, by decide, fun HA nA bA' rA uA dA rA0 rA1 => ⟨1, rA, rfl, rfl, ?_⟩⟩
    have LA := (L9.any uA dA).put (i := 3) (.int (1 + rA))
    -- k, order = any(deal, h + 1), tuple(mixed(deal, list(range(h))))
    refine ⟨.ref aD, rfl, .int (1 + rA), rfl, (1 + rA), 1, rfl, rfl, aD, aL, nA, bA', (1 + rA) + 1, rfl, dA, by omega, by omega, fun HB nB bB' k2 uB dB k20 k21 => ?_⟩
    have LB := LA.any uB dB
    refine ⟨.ref aD, rfl, .int (1 + rA), rfl, (1 + rA), rfl, ⟨by omega, by omega, by omega, by omega, by omega⟩, fun l2 nl2 => ?_⟩
    have LC := LB.next (Step.own LB.rel.sub nl2 (o := .lst (rgV 0 (1 + rA))))
    obtain ⟨nC, bC', dC⟩ := LC.deal
    refine ⟨aD, aL, nC, bC', l2, rgI (1 + rA), rfl, dC, by rw [L2.upd_same, rgV_rgI], by rw [rgI_len]; omega, fun HD nD' bD' p2 zs uD dD np2 hp2 hz => ⟨p2, _, rfl, SqL.of hp2, fun t2 o2 nt2 oc2 od2 => ⟨.int k2, .ref t2, rfl, ?_⟩⟩⟩
    rw [rgI_len] at hz
    have LDa := LC.any uD dD
    have LD := LDa.next (Step.lay LDa.rel.sub nt2 (o := .frz o2 (.tup (zs.map V.int))))
    have LE := (LD.put (i := 4) (.int k2)).put (i := 6) (.ptup L2.upd_same oc2 od2 (is_ints zs))
    obtain ⟨sE, eE⟩ := W.tail (1 + rA) k2 zs (by omega) (by omega) k20 (by omega) hz
    have LT := LE.weak (sl' := (tailSt (1 + rA) k2 zs).sl) rfl (fun i d e => by
      match i, e with
      | 0, e => cases e
      | 1, e => cases e
      | 2, e => cases e
      | 3, e => exact e
      | 4, e => exact e
      | 5, e => cases e
      | 6, e => exact e
      | 7, e => cases e
      | 8, e => cases e
      | 9, e => cases e
      | 10, e => cases e
      | 11, e => cases e
      | 12, e => cases e
      | i + 13, e => cases e)
    refine ⟨_, _, _, _, tailSt (1 + rA) k2 zs, LT.rel, ?_⟩
    refine after_rt eE fun F' σ' H' => q H'
end
end Kx

/-! KxF: the finite facts, run by the kernel; printed by fin.py. -/
namespace Kx
open PySem L2
noncomputable def isYes (o : Option D) : Bool := @Option.rec D (fun _ => Bool) false (fun d => dC d false (fun b => b) (fun _ => false) (fun _ => false) (fun _ => false) (fun _ => false) (fun _ => false) (fun _ => false) (fun _ => false)) o
theorem isYes_eq {o : Option D} (h : isYes o = true) : o = some (.bl true) := by
  cases o with
  | none => cases h
  | some d => cases d <;> first | (cases h; done) | exact congrArg (fun b => some (D.bl b)) h
noncomputable def bothOk (m k : Int) (p : List Int) : Bool := isYes (g_law_both [.int m, .int k, .ptup (ofI p)])
noncomputable def turnedOk (m h i k : Int) : Bool := isYes (g_law_turned [.int m, .int i, .int (h - i), .int k])
noncomputable def rtYes (r : R) : Bool := @R.casesOn (fun _ => Bool) r false (fun _ => false) (fun d _ => isYes (some d))
theorem rtYes_eq {r : R} (h : rtYes r = true) : ∃ s, r = .rt (.bl true) s := by
  cases r with
  | bad => cases h
  | nx s => cases h
  | rt d s =>
    have e := isYes_eq (o := some d) h
    cases e
    exact ⟨s, rfl⟩
noncomputable def tailOk (h k : Int) (p : List Int) : Bool := rtYes (b_tail (tailSt h k p))
theorem both_of {m k h : Int} {p : List Int} (H : ((mixes h.toNat (rgI h)).all (bothOk m k)) = true) (hp : p ∈ mixes h.toNat (rgI h)) : g_law_both [.int m, .int k, .ptup (ofI p)] = some (.bl true) := isYes_eq (List.all_eq_true.mp H p hp)
theorem tail_of {k h : Int} {p : List Int} (H : ((mixes h.toNat (rgI h)).all (tailOk h k)) = true) (hp : p ∈ mixes h.toNat (rgI h)) : ∃ s, b_tail (tailSt h k p) = .rt (.bl true) s := rtYes_eq (List.all_eq_true.mp H p hp)
theorem tab2_le {g : Fn} : ∀ {t : List ((Int × Int) × D)}, (∀ e ∈ t, g [.int e.1.1, .int e.1.2] = some e.2) → ∀ {ds : List D} {r : D}, tab2 t ds = some r → g ds = some r
  | [], _, ds, r, h => by
    obtain ⟨x, y, rfl, h1⟩ := two_some h
    obtain ⟨i, rfl, h2⟩ := gI_some h1
    obtain ⟨j, rfl, h3⟩ := gI_some h2
    cases h3
  | e :: t, H, ds, r, h => by
    obtain ⟨x, y, rfl, h1⟩ := two_some h
    obtain ⟨i, rfl, h2⟩ := gI_some h1
    obtain ⟨j, rfl, h3⟩ := gI_some h2
    have ih := tab2_le (t := t) (fun e he => H e (List.mem_cons_of_mem _ he)) (ds := [.int i, .int j]) (r := r)
    have h4 : @Bool.rec (fun _ => Option D) (tab2 t [.int i, .int j]) (@Bool.rec (fun _ => Option D) (tab2 t [.int i, .int j]) (some e.2) (eqI e.1.2 j)) (eqI e.1.1 i) = some r := h3
    rw [eqI_eq, eqI_eq] at h4
    by_cases e1 : e.1.1 = i
    · rw [decide_eq_true e1] at h4
      by_cases e2 : e.1.2 = j
      · rw [decide_eq_true e2] at h4
        have z := H e List.mem_cons_self
        rw [e1, e2] at z
        rw [z]
        exact h4
      · rw [decide_eq_false e2] at h4
        exact ih h4
    · rw [decide_eq_false e1] at h4
      exact ih h4
theorem dep_2_1 : g_law_depths [.int 2, .int 1] = some (.lst (ofI [0, 0])) := by kernel_rfl
theorem dep_2_2 : g_law_depths [.int 2, .int 2] = some (.lst (ofI [0, 0, 2])) := by kernel_rfl
theorem dep_2_4 : g_law_depths [.int 2, .int 4] = some (.lst (ofI [0, 0, 2, 5, 8])) := by kernel_rfl
theorem dep_2_8 : g_law_depths [.int 2, .int 8] = some (.lst (ofI [0, 0, 2, 5, 8, 12, 16, 20, 24])) := by kernel_rfl
theorem dep_2_16 : g_law_depths [.int 2, .int 16] = some (.lst (ofI [0, 0, 2, 5, 8, 12, 16, 20, 24, 29, 34, 39, 44, 49, 54, 59, 64])) := by kernel_rfl
theorem dep_3_1 : g_law_depths [.int 3, .int 1] = some (.lst (ofI [0, 0])) := by kernel_rfl
theorem dep_3_3 : g_law_depths [.int 3, .int 3] = some (.lst (ofI [0, 0, 2, 3])) := by kernel_rfl
theorem dep_3_9 : g_law_depths [.int 3, .int 9] = some (.lst (ofI [0, 0, 2, 3, 6, 8, 11, 13, 16, 18])) := by kernel_rfl
theorem dep_3_27 : g_law_depths [.int 3, .int 27] = some (.lst (ofI [0, 0, 2, 3, 6, 8, 11, 13, 16, 18, 22, 25, 29, 32, 36, 39, 43, 46, 50, 53, 57, 60, 64, 67, 71, 74, 78, 81])) := by kernel_rfl
theorem depths_le : ∀ ds r, t_law_depths ds = some r → g_law_depths ds = some r := fun ds r h => by
  refine tab2_le (t := t_list) (fun e he => ?_) h
  simp only [t_list, List.mem_cons, List.not_mem_nil, or_false] at he
  rcases he with rfl | rfl | rfl | rfl | rfl | rfl | rfl | rfl | rfl
  · exact dep_2_1
  · exact dep_2_2
  · exact dep_2_4
  · exact dep_2_8
  · exact dep_2_16
  · exact dep_3_1
  · exact dep_3_3
  · exact dep_3_9
  · exact dep_3_27
theorem fb_2_1_0 : ((mixes (1 : Int).toNat (rgI 1)).all (bothOk 2 0)) = true := by decide +kernel
theorem fb_2_1_1 : ((mixes (1 : Int).toNat (rgI 1)).all (bothOk 2 1)) = true := by decide +kernel
theorem fb_2_2_0 : ((mixes (2 : Int).toNat (rgI 2)).all (bothOk 2 0)) = true := by decide +kernel
theorem fb_2_2_1 : ((mixes (2 : Int).toNat (rgI 2)).all (bothOk 2 1)) = true := by decide +kernel
theorem fb_2_2_2 : ((mixes (2 : Int).toNat (rgI 2)).all (bothOk 2 2)) = true := by decide +kernel
theorem fb_2_3_0 : ((mixes (3 : Int).toNat (rgI 3)).all (bothOk 2 0)) = true := by decide +kernel
theorem fb_2_3_1 : ((mixes (3 : Int).toNat (rgI 3)).all (bothOk 2 1)) = true := by decide +kernel
theorem fb_2_3_2 : ((mixes (3 : Int).toNat (rgI 3)).all (bothOk 2 2)) = true := by decide +kernel
theorem fb_2_3_3 : ((mixes (3 : Int).toNat (rgI 3)).all (bothOk 2 3)) = true := by decide +kernel
theorem fb_2_4_0 : ((mixes (4 : Int).toNat (rgI 4)).all (bothOk 2 0)) = true := by decide +kernel
theorem fb_2_4_1 : ((mixes (4 : Int).toNat (rgI 4)).all (bothOk 2 1)) = true := by decide +kernel
theorem fb_2_4_2 : ((mixes (4 : Int).toNat (rgI 4)).all (bothOk 2 2)) = true := by decide +kernel
theorem fb_2_4_3 : ((mixes (4 : Int).toNat (rgI 4)).all (bothOk 2 3)) = true := by decide +kernel
theorem fb_2_4_4 : ((mixes (4 : Int).toNat (rgI 4)).all (bothOk 2 4)) = true := by decide +kernel
theorem fb_3_1_0 : ((mixes (1 : Int).toNat (rgI 1)).all (bothOk 3 0)) = true := by decide +kernel
theorem fb_3_1_1 : ((mixes (1 : Int).toNat (rgI 1)).all (bothOk 3 1)) = true := by decide +kernel
theorem fb_3_2_0 : ((mixes (2 : Int).toNat (rgI 2)).all (bothOk 3 0)) = true := by decide +kernel
theorem fb_3_2_1 : ((mixes (2 : Int).toNat (rgI 2)).all (bothOk 3 1)) = true := by decide +kernel
theorem fb_3_2_2 : ((mixes (2 : Int).toNat (rgI 2)).all (bothOk 3 2)) = true := by decide +kernel
theorem fb_3_3_0 : ((mixes (3 : Int).toNat (rgI 3)).all (bothOk 3 0)) = true := by decide +kernel
theorem fb_3_3_1 : ((mixes (3 : Int).toNat (rgI 3)).all (bothOk 3 1)) = true := by decide +kernel
theorem fb_3_3_2 : ((mixes (3 : Int).toNat (rgI 3)).all (bothOk 3 2)) = true := by decide +kernel
theorem fb_3_3_3 : ((mixes (3 : Int).toNat (rgI 3)).all (bothOk 3 3)) = true := by decide +kernel
theorem ft_2_1_0_0 : turnedOk 2 1 0 0 = true := by decide +kernel
theorem ft_2_1_0_1 : turnedOk 2 1 0 1 = true := by decide +kernel
theorem ft_2_1_1_0 : turnedOk 2 1 1 0 = true := by decide +kernel
theorem ft_2_1_1_1 : turnedOk 2 1 1 1 = true := by decide +kernel
theorem ft_2_2_0_0 : turnedOk 2 2 0 0 = true := by decide +kernel
theorem ft_2_2_0_1 : turnedOk 2 2 0 1 = true := by decide +kernel
theorem ft_2_2_0_2 : turnedOk 2 2 0 2 = true := by decide +kernel
theorem ft_2_2_1_0 : turnedOk 2 2 1 0 = true := by decide +kernel
theorem ft_2_2_1_1 : turnedOk 2 2 1 1 = true := by decide +kernel
theorem ft_2_2_1_2 : turnedOk 2 2 1 2 = true := by decide +kernel
theorem ft_2_2_2_0 : turnedOk 2 2 2 0 = true := by decide +kernel
theorem ft_2_2_2_1 : turnedOk 2 2 2 1 = true := by decide +kernel
theorem ft_2_2_2_2 : turnedOk 2 2 2 2 = true := by decide +kernel
theorem ft_2_3_0_0 : turnedOk 2 3 0 0 = true := by decide +kernel
theorem ft_2_3_0_1 : turnedOk 2 3 0 1 = true := by decide +kernel
theorem ft_2_3_0_2 : turnedOk 2 3 0 2 = true := by decide +kernel
theorem ft_2_3_0_3 : turnedOk 2 3 0 3 = true := by decide +kernel
theorem ft_2_3_1_0 : turnedOk 2 3 1 0 = true := by decide +kernel
theorem ft_2_3_1_1 : turnedOk 2 3 1 1 = true := by decide +kernel
theorem ft_2_3_1_2 : turnedOk 2 3 1 2 = true := by decide +kernel
theorem ft_2_3_1_3 : turnedOk 2 3 1 3 = true := by decide +kernel
theorem ft_2_3_2_0 : turnedOk 2 3 2 0 = true := by decide +kernel
theorem ft_2_3_2_1 : turnedOk 2 3 2 1 = true := by decide +kernel
theorem ft_2_3_2_2 : turnedOk 2 3 2 2 = true := by decide +kernel
theorem ft_2_3_2_3 : turnedOk 2 3 2 3 = true := by decide +kernel
theorem ft_2_3_3_0 : turnedOk 2 3 3 0 = true := by decide +kernel
theorem ft_2_3_3_1 : turnedOk 2 3 3 1 = true := by decide +kernel
theorem ft_2_3_3_2 : turnedOk 2 3 3 2 = true := by decide +kernel
theorem ft_2_3_3_3 : turnedOk 2 3 3 3 = true := by decide +kernel
theorem ft_2_4_0_0 : turnedOk 2 4 0 0 = true := by decide +kernel
theorem ft_2_4_0_1 : turnedOk 2 4 0 1 = true := by decide +kernel
theorem ft_2_4_0_2 : turnedOk 2 4 0 2 = true := by decide +kernel
theorem ft_2_4_0_3 : turnedOk 2 4 0 3 = true := by decide +kernel
theorem ft_2_4_0_4 : turnedOk 2 4 0 4 = true := by decide +kernel
theorem ft_2_4_1_0 : turnedOk 2 4 1 0 = true := by decide +kernel
theorem ft_2_4_1_1 : turnedOk 2 4 1 1 = true := by decide +kernel
theorem ft_2_4_1_2 : turnedOk 2 4 1 2 = true := by decide +kernel
theorem ft_2_4_1_3 : turnedOk 2 4 1 3 = true := by decide +kernel
theorem ft_2_4_1_4 : turnedOk 2 4 1 4 = true := by decide +kernel
theorem ft_2_4_2_0 : turnedOk 2 4 2 0 = true := by decide +kernel
theorem ft_2_4_2_1 : turnedOk 2 4 2 1 = true := by decide +kernel
theorem ft_2_4_2_2 : turnedOk 2 4 2 2 = true := by decide +kernel
theorem ft_2_4_2_3 : turnedOk 2 4 2 3 = true := by decide +kernel
theorem ft_2_4_2_4 : turnedOk 2 4 2 4 = true := by decide +kernel
theorem ft_2_4_3_0 : turnedOk 2 4 3 0 = true := by decide +kernel
theorem ft_2_4_3_1 : turnedOk 2 4 3 1 = true := by decide +kernel
theorem ft_2_4_3_2 : turnedOk 2 4 3 2 = true := by decide +kernel
theorem ft_2_4_3_3 : turnedOk 2 4 3 3 = true := by decide +kernel
theorem ft_2_4_3_4 : turnedOk 2 4 3 4 = true := by decide +kernel
theorem ft_2_4_4_0 : turnedOk 2 4 4 0 = true := by decide +kernel
theorem ft_2_4_4_1 : turnedOk 2 4 4 1 = true := by decide +kernel
theorem ft_2_4_4_2 : turnedOk 2 4 4 2 = true := by decide +kernel
theorem ft_2_4_4_3 : turnedOk 2 4 4 3 = true := by decide +kernel
theorem ft_2_4_4_4 : turnedOk 2 4 4 4 = true := by decide +kernel
theorem ft_3_1_0_0 : turnedOk 3 1 0 0 = true := by decide +kernel
theorem ft_3_1_0_1 : turnedOk 3 1 0 1 = true := by decide +kernel
theorem ft_3_1_1_0 : turnedOk 3 1 1 0 = true := by decide +kernel
theorem ft_3_1_1_1 : turnedOk 3 1 1 1 = true := by decide +kernel
theorem ft_3_2_0_0 : turnedOk 3 2 0 0 = true := by decide +kernel
theorem ft_3_2_0_1 : turnedOk 3 2 0 1 = true := by decide +kernel
theorem ft_3_2_0_2 : turnedOk 3 2 0 2 = true := by decide +kernel
theorem ft_3_2_1_0 : turnedOk 3 2 1 0 = true := by decide +kernel
theorem ft_3_2_1_1 : turnedOk 3 2 1 1 = true := by decide +kernel
theorem ft_3_2_1_2 : turnedOk 3 2 1 2 = true := by decide +kernel
theorem ft_3_2_2_0 : turnedOk 3 2 2 0 = true := by decide +kernel
theorem ft_3_2_2_1 : turnedOk 3 2 2 1 = true := by decide +kernel
theorem ft_3_2_2_2 : turnedOk 3 2 2 2 = true := by decide +kernel
theorem ft_3_3_0_0 : turnedOk 3 3 0 0 = true := by decide +kernel
theorem ft_3_3_0_1 : turnedOk 3 3 0 1 = true := by decide +kernel
theorem ft_3_3_0_2 : turnedOk 3 3 0 2 = true := by decide +kernel
theorem ft_3_3_0_3 : turnedOk 3 3 0 3 = true := by decide +kernel
theorem ft_3_3_1_0 : turnedOk 3 3 1 0 = true := by decide +kernel
theorem ft_3_3_1_1 : turnedOk 3 3 1 1 = true := by decide +kernel
theorem ft_3_3_1_2 : turnedOk 3 3 1 2 = true := by decide +kernel
theorem ft_3_3_1_3 : turnedOk 3 3 1 3 = true := by decide +kernel
theorem ft_3_3_2_0 : turnedOk 3 3 2 0 = true := by decide +kernel
theorem ft_3_3_2_1 : turnedOk 3 3 2 1 = true := by decide +kernel
theorem ft_3_3_2_2 : turnedOk 3 3 2 2 = true := by decide +kernel
theorem ft_3_3_2_3 : turnedOk 3 3 2 3 = true := by decide +kernel
theorem ft_3_3_3_0 : turnedOk 3 3 3 0 = true := by decide +kernel
theorem ft_3_3_3_1 : turnedOk 3 3 3 1 = true := by decide +kernel
theorem ft_3_3_3_2 : turnedOk 3 3 3 2 = true := by decide +kernel
theorem ft_3_3_3_3 : turnedOk 3 3 3 3 = true := by decide +kernel
theorem mix3 : mixes (3 : Int).toNat (rgI 3) = [[0, 1, 2], [0, 2, 1], [1, 0, 2], [1, 2, 0], [2, 0, 1], [2, 1, 0]] := by kernel_rfl
theorem fl_3_1_0 : tailOk 3 1 [0, 1, 2] = true := by decide +kernel
theorem fl_3_1_1 : tailOk 3 1 [0, 2, 1] = true := by decide +kernel
theorem fl_3_1_2 : tailOk 3 1 [1, 0, 2] = true := by decide +kernel
theorem fl_3_1_3 : tailOk 3 1 [1, 2, 0] = true := by decide +kernel
theorem fl_3_1_4 : tailOk 3 1 [2, 0, 1] = true := by decide +kernel
theorem fl_3_1_5 : tailOk 3 1 [2, 1, 0] = true := by decide +kernel
theorem fl_3_1 : ((mixes (3 : Int).toNat (rgI 3)).all (tailOk 3 1)) = true := by
  rw [mix3, List.all_cons, List.all_cons, List.all_cons, List.all_cons, List.all_cons, List.all_cons, List.all_nil, fl_3_1_0, fl_3_1_1, fl_3_1_2, fl_3_1_3, fl_3_1_4, fl_3_1_5]
  rfl
theorem fl_1_0 : ((mixes (1 : Int).toNat (rgI 1)).all (tailOk 1 0)) = true := by decide +kernel
theorem fl_1_1 : ((mixes (1 : Int).toNat (rgI 1)).all (tailOk 1 1)) = true := by decide +kernel
theorem fl_2_0 : ((mixes (2 : Int).toNat (rgI 2)).all (tailOk 2 0)) = true := by decide +kernel
theorem fl_2_1 : ((mixes (2 : Int).toNat (rgI 2)).all (tailOk 2 1)) = true := by decide +kernel
theorem fl_2_2 : ((mixes (2 : Int).toNat (rgI 2)).all (tailOk 2 2)) = true := by decide +kernel
theorem fl_3_0 : ((mixes (3 : Int).toNat (rgI 3)).all (tailOk 3 0)) = true := by decide +kernel
theorem fl_3_2 : ((mixes (3 : Int).toNat (rgI 3)).all (tailOk 3 2)) = true := by decide +kernel
theorem fl_3_3 : ((mixes (3 : Int).toNat (rgI 3)).all (tailOk 3 3)) = true := by decide +kernel
theorem fo_1_0 : g_turned_order [.int 0, .int (1 - 0)] = some (.ptup (ofI [0])) := by kernel_rfl
theorem fm_1_0 : ([0] : List Int) ∈ mixes (1 : Int).toNat (rgI 1) := by decide +kernel
theorem fo_1_1 : g_turned_order [.int 1, .int (1 - 1)] = some (.ptup (ofI [0])) := by kernel_rfl
theorem fm_1_1 : ([0] : List Int) ∈ mixes (1 : Int).toNat (rgI 1) := by decide +kernel
theorem fo_2_0 : g_turned_order [.int 0, .int (2 - 0)] = some (.ptup (ofI [0, 1])) := by kernel_rfl
theorem fm_2_0 : ([0, 1] : List Int) ∈ mixes (2 : Int).toNat (rgI 2) := by decide +kernel
theorem fo_2_1 : g_turned_order [.int 1, .int (2 - 1)] = some (.ptup (ofI [1, 0])) := by kernel_rfl
theorem fm_2_1 : ([1, 0] : List Int) ∈ mixes (2 : Int).toNat (rgI 2) := by decide +kernel
theorem fo_2_2 : g_turned_order [.int 2, .int (2 - 2)] = some (.ptup (ofI [0, 1])) := by kernel_rfl
theorem fm_2_2 : ([0, 1] : List Int) ∈ mixes (2 : Int).toNat (rgI 2) := by decide +kernel
theorem fo_3_0 : g_turned_order [.int 0, .int (3 - 0)] = some (.ptup (ofI [0, 1, 2])) := by kernel_rfl
theorem fm_3_0 : ([0, 1, 2] : List Int) ∈ mixes (3 : Int).toNat (rgI 3) := by decide +kernel
theorem fo_3_1 : g_turned_order [.int 1, .int (3 - 1)] = some (.ptup (ofI [2, 0, 1])) := by kernel_rfl
theorem fm_3_1 : ([2, 0, 1] : List Int) ∈ mixes (3 : Int).toNat (rgI 3) := by decide +kernel
theorem fo_3_2 : g_turned_order [.int 2, .int (3 - 2)] = some (.ptup (ofI [1, 2, 0])) := by kernel_rfl
theorem fm_3_2 : ([1, 2, 0] : List Int) ∈ mixes (3 : Int).toNat (rgI 3) := by decide +kernel
theorem fo_3_3 : g_turned_order [.int 3, .int (3 - 3)] = some (.ptup (ofI [0, 1, 2])) := by kernel_rfl
theorem fm_3_3 : ([0, 1, 2] : List Int) ∈ mixes (3 : Int).toNat (rgI 3) := by decide +kernel
theorem fo_4_0 : g_turned_order [.int 0, .int (4 - 0)] = some (.ptup (ofI [0, 1, 2, 3])) := by kernel_rfl
theorem fm_4_0 : ([0, 1, 2, 3] : List Int) ∈ mixes (4 : Int).toNat (rgI 4) := by decide +kernel
theorem fo_4_1 : g_turned_order [.int 1, .int (4 - 1)] = some (.ptup (ofI [3, 0, 1, 2])) := by kernel_rfl
theorem fm_4_1 : ([3, 0, 1, 2] : List Int) ∈ mixes (4 : Int).toNat (rgI 4) := by decide +kernel
theorem fo_4_2 : g_turned_order [.int 2, .int (4 - 2)] = some (.ptup (ofI [2, 3, 0, 1])) := by kernel_rfl
theorem fm_4_2 : ([2, 3, 0, 1] : List Int) ∈ mixes (4 : Int).toNat (rgI 4) := by decide +kernel
theorem fo_4_3 : g_turned_order [.int 3, .int (4 - 3)] = some (.ptup (ofI [1, 2, 3, 0])) := by kernel_rfl
theorem fm_4_3 : ([1, 2, 3, 0] : List Int) ∈ mixes (4 : Int).toNat (rgI 4) := by decide +kernel
theorem fo_4_4 : g_turned_order [.int 4, .int (4 - 4)] = some (.ptup (ofI [0, 1, 2, 3])) := by kernel_rfl
theorem fm_4_4 : ([0, 1, 2, 3] : List Int) ∈ mixes (4 : Int).toNat (rgI 4) := by decide +kernel
theorem fin_both (m h k : Int) (p : List Int) (hs : Size m h) (k0 : 0 ≤ k) (k1 : k ≤ h) (hp : p ∈ mixes h.toNat (rgI h)) : g_law_both [.int m, .int k, .ptup (ofI p)] = some (.bl true) := by
  rcases hs with ⟨rfl, h0, h1⟩ | ⟨rfl, h0, h1⟩
  · have c : h = 1 ∨ h = 2 ∨ h = 3 ∨ h = 4 := by omega
    rcases c with rfl | rfl | rfl | rfl
    · have c2 : k = 0 ∨ k = 1 := by omega
      rcases c2 with rfl | rfl
      · exact both_of fb_2_1_0 hp
      · exact both_of fb_2_1_1 hp
    · have c2 : k = 0 ∨ k = 1 ∨ k = 2 := by omega
      rcases c2 with rfl | rfl | rfl
      · exact both_of fb_2_2_0 hp
      · exact both_of fb_2_2_1 hp
      · exact both_of fb_2_2_2 hp
    · have c2 : k = 0 ∨ k = 1 ∨ k = 2 ∨ k = 3 := by omega
      rcases c2 with rfl | rfl | rfl | rfl
      · exact both_of fb_2_3_0 hp
      · exact both_of fb_2_3_1 hp
      · exact both_of fb_2_3_2 hp
      · exact both_of fb_2_3_3 hp
    · have c2 : k = 0 ∨ k = 1 ∨ k = 2 ∨ k = 3 ∨ k = 4 := by omega
      rcases c2 with rfl | rfl | rfl | rfl | rfl
      · exact both_of fb_2_4_0 hp
      · exact both_of fb_2_4_1 hp
      · exact both_of fb_2_4_2 hp
      · exact both_of fb_2_4_3 hp
      · exact both_of fb_2_4_4 hp
  · have c : h = 1 ∨ h = 2 ∨ h = 3 := by omega
    rcases c with rfl | rfl | rfl
    · have c2 : k = 0 ∨ k = 1 := by omega
      rcases c2 with rfl | rfl
      · exact both_of fb_3_1_0 hp
      · exact both_of fb_3_1_1 hp
    · have c2 : k = 0 ∨ k = 1 ∨ k = 2 := by omega
      rcases c2 with rfl | rfl | rfl
      · exact both_of fb_3_2_0 hp
      · exact both_of fb_3_2_1 hp
      · exact both_of fb_3_2_2 hp
    · have c2 : k = 0 ∨ k = 1 ∨ k = 2 ∨ k = 3 := by omega
      rcases c2 with rfl | rfl | rfl | rfl
      · exact both_of fb_3_3_0 hp
      · exact both_of fb_3_3_1 hp
      · exact both_of fb_3_3_2 hp
      · exact both_of fb_3_3_3 hp
theorem fin_turned (m h i k : Int) (hs : Size m h) (i0 : 0 ≤ i) (i1 : i ≤ h) (k0 : 0 ≤ k) (k1 : k ≤ h) : g_law_turned [.int m, .int i, .int (h - i), .int k] = some (.bl true) := by
  rcases hs with ⟨rfl, h0, h1⟩ | ⟨rfl, h0, h1⟩
  · have c : h = 1 ∨ h = 2 ∨ h = 3 ∨ h = 4 := by omega
    rcases c with rfl | rfl | rfl | rfl
    · have c2 : k = 0 ∨ k = 1 := by omega
      have c3 : i = 0 ∨ i = 1 := by omega
      rcases c3 with rfl | rfl
      · rcases c2 with rfl | rfl
        · exact isYes_eq ft_2_1_0_0
        · exact isYes_eq ft_2_1_0_1
      · rcases c2 with rfl | rfl
        · exact isYes_eq ft_2_1_1_0
        · exact isYes_eq ft_2_1_1_1
    · have c2 : k = 0 ∨ k = 1 ∨ k = 2 := by omega
      have c3 : i = 0 ∨ i = 1 ∨ i = 2 := by omega
      rcases c3 with rfl | rfl | rfl
      · rcases c2 with rfl | rfl | rfl
        · exact isYes_eq ft_2_2_0_0
        · exact isYes_eq ft_2_2_0_1
        · exact isYes_eq ft_2_2_0_2
      · rcases c2 with rfl | rfl | rfl
        · exact isYes_eq ft_2_2_1_0
        · exact isYes_eq ft_2_2_1_1
        · exact isYes_eq ft_2_2_1_2
      · rcases c2 with rfl | rfl | rfl
        · exact isYes_eq ft_2_2_2_0
        · exact isYes_eq ft_2_2_2_1
        · exact isYes_eq ft_2_2_2_2
    · have c2 : k = 0 ∨ k = 1 ∨ k = 2 ∨ k = 3 := by omega
      have c3 : i = 0 ∨ i = 1 ∨ i = 2 ∨ i = 3 := by omega
      rcases c3 with rfl | rfl | rfl | rfl
      · rcases c2 with rfl | rfl | rfl | rfl
        · exact isYes_eq ft_2_3_0_0
        · exact isYes_eq ft_2_3_0_1
        · exact isYes_eq ft_2_3_0_2
        · exact isYes_eq ft_2_3_0_3
      · rcases c2 with rfl | rfl | rfl | rfl
        · exact isYes_eq ft_2_3_1_0
        · exact isYes_eq ft_2_3_1_1
        · exact isYes_eq ft_2_3_1_2
        · exact isYes_eq ft_2_3_1_3
      · rcases c2 with rfl | rfl | rfl | rfl
        · exact isYes_eq ft_2_3_2_0
        · exact isYes_eq ft_2_3_2_1
        · exact isYes_eq ft_2_3_2_2
        · exact isYes_eq ft_2_3_2_3
      · rcases c2 with rfl | rfl | rfl | rfl
        · exact isYes_eq ft_2_3_3_0
        · exact isYes_eq ft_2_3_3_1
        · exact isYes_eq ft_2_3_3_2
        · exact isYes_eq ft_2_3_3_3
    · have c2 : k = 0 ∨ k = 1 ∨ k = 2 ∨ k = 3 ∨ k = 4 := by omega
      have c3 : i = 0 ∨ i = 1 ∨ i = 2 ∨ i = 3 ∨ i = 4 := by omega
      rcases c3 with rfl | rfl | rfl | rfl | rfl
      · rcases c2 with rfl | rfl | rfl | rfl | rfl
        · exact isYes_eq ft_2_4_0_0
        · exact isYes_eq ft_2_4_0_1
        · exact isYes_eq ft_2_4_0_2
        · exact isYes_eq ft_2_4_0_3
        · exact isYes_eq ft_2_4_0_4
      · rcases c2 with rfl | rfl | rfl | rfl | rfl
        · exact isYes_eq ft_2_4_1_0
        · exact isYes_eq ft_2_4_1_1
        · exact isYes_eq ft_2_4_1_2
        · exact isYes_eq ft_2_4_1_3
        · exact isYes_eq ft_2_4_1_4
      · rcases c2 with rfl | rfl | rfl | rfl | rfl
        · exact isYes_eq ft_2_4_2_0
        · exact isYes_eq ft_2_4_2_1
        · exact isYes_eq ft_2_4_2_2
        · exact isYes_eq ft_2_4_2_3
        · exact isYes_eq ft_2_4_2_4
      · rcases c2 with rfl | rfl | rfl | rfl | rfl
        · exact isYes_eq ft_2_4_3_0
        · exact isYes_eq ft_2_4_3_1
        · exact isYes_eq ft_2_4_3_2
        · exact isYes_eq ft_2_4_3_3
        · exact isYes_eq ft_2_4_3_4
      · rcases c2 with rfl | rfl | rfl | rfl | rfl
        · exact isYes_eq ft_2_4_4_0
        · exact isYes_eq ft_2_4_4_1
        · exact isYes_eq ft_2_4_4_2
        · exact isYes_eq ft_2_4_4_3
        · exact isYes_eq ft_2_4_4_4
  · have c : h = 1 ∨ h = 2 ∨ h = 3 := by omega
    rcases c with rfl | rfl | rfl
    · have c2 : k = 0 ∨ k = 1 := by omega
      have c3 : i = 0 ∨ i = 1 := by omega
      rcases c3 with rfl | rfl
      · rcases c2 with rfl | rfl
        · exact isYes_eq ft_3_1_0_0
        · exact isYes_eq ft_3_1_0_1
      · rcases c2 with rfl | rfl
        · exact isYes_eq ft_3_1_1_0
        · exact isYes_eq ft_3_1_1_1
    · have c2 : k = 0 ∨ k = 1 ∨ k = 2 := by omega
      have c3 : i = 0 ∨ i = 1 ∨ i = 2 := by omega
      rcases c3 with rfl | rfl | rfl
      · rcases c2 with rfl | rfl | rfl
        · exact isYes_eq ft_3_2_0_0
        · exact isYes_eq ft_3_2_0_1
        · exact isYes_eq ft_3_2_0_2
      · rcases c2 with rfl | rfl | rfl
        · exact isYes_eq ft_3_2_1_0
        · exact isYes_eq ft_3_2_1_1
        · exact isYes_eq ft_3_2_1_2
      · rcases c2 with rfl | rfl | rfl
        · exact isYes_eq ft_3_2_2_0
        · exact isYes_eq ft_3_2_2_1
        · exact isYes_eq ft_3_2_2_2
    · have c2 : k = 0 ∨ k = 1 ∨ k = 2 ∨ k = 3 := by omega
      have c3 : i = 0 ∨ i = 1 ∨ i = 2 ∨ i = 3 := by omega
      rcases c3 with rfl | rfl | rfl | rfl
      · rcases c2 with rfl | rfl | rfl | rfl
        · exact isYes_eq ft_3_3_0_0
        · exact isYes_eq ft_3_3_0_1
        · exact isYes_eq ft_3_3_0_2
        · exact isYes_eq ft_3_3_0_3
      · rcases c2 with rfl | rfl | rfl | rfl
        · exact isYes_eq ft_3_3_1_0
        · exact isYes_eq ft_3_3_1_1
        · exact isYes_eq ft_3_3_1_2
        · exact isYes_eq ft_3_3_1_3
      · rcases c2 with rfl | rfl | rfl | rfl
        · exact isYes_eq ft_3_3_2_0
        · exact isYes_eq ft_3_3_2_1
        · exact isYes_eq ft_3_3_2_2
        · exact isYes_eq ft_3_3_2_3
      · rcases c2 with rfl | rfl | rfl | rfl
        · exact isYes_eq ft_3_3_3_0
        · exact isYes_eq ft_3_3_3_1
        · exact isYes_eq ft_3_3_3_2
        · exact isYes_eq ft_3_3_3_3
theorem fin_turn (m h i : Int) (hs : Size m h) (i0 : 0 ≤ i) (i1 : i ≤ h) : ∃ p, p ∈ mixes h.toNat (rgI h) ∧ g_turned_order [.int i, .int (h - i)] = some (.ptup (ofI p)) := by
  have c : h = 1 ∨ h = 2 ∨ h = 3 ∨ h = 4 := by unfold Size at hs; omega
  rcases c with rfl | rfl | rfl | rfl
  · have c2 : i = 0 ∨ i = 1 := by omega
    rcases c2 with rfl | rfl
    · exact ⟨_, fm_1_0, fo_1_0⟩
    · exact ⟨_, fm_1_1, fo_1_1⟩
  · have c2 : i = 0 ∨ i = 1 ∨ i = 2 := by omega
    rcases c2 with rfl | rfl | rfl
    · exact ⟨_, fm_2_0, fo_2_0⟩
    · exact ⟨_, fm_2_1, fo_2_1⟩
    · exact ⟨_, fm_2_2, fo_2_2⟩
  · have c2 : i = 0 ∨ i = 1 ∨ i = 2 ∨ i = 3 := by omega
    rcases c2 with rfl | rfl | rfl | rfl
    · exact ⟨_, fm_3_0, fo_3_0⟩
    · exact ⟨_, fm_3_1, fo_3_1⟩
    · exact ⟨_, fm_3_2, fo_3_2⟩
    · exact ⟨_, fm_3_3, fo_3_3⟩
  · have c2 : i = 0 ∨ i = 1 ∨ i = 2 ∨ i = 3 ∨ i = 4 := by omega
    rcases c2 with rfl | rfl | rfl | rfl | rfl
    · exact ⟨_, fm_4_0, fo_4_0⟩
    · exact ⟨_, fm_4_1, fo_4_1⟩
    · exact ⟨_, fm_4_2, fo_4_2⟩
    · exact ⟨_, fm_4_3, fo_4_3⟩
    · exact ⟨_, fm_4_4, fo_4_4⟩
theorem fin_tail (h k : Int) (p : List Int) (h0 : 1 ≤ h) (h1 : h ≤ 3) (k0 : 0 ≤ k) (k1 : k ≤ h) (hp : p ∈ mixes h.toNat (rgI h)) : ∃ s, b_tail (tailSt h k p) = .rt (.bl true) s := by
  have c : h = 1 ∨ h = 2 ∨ h = 3 := by omega
  rcases c with rfl | rfl | rfl
  · have c2 : k = 0 ∨ k = 1 := by omega
    rcases c2 with rfl | rfl
    · exact tail_of fl_1_0 hp
    · exact tail_of fl_1_1 hp
  · have c2 : k = 0 ∨ k = 1 ∨ k = 2 := by omega
    rcases c2 with rfl | rfl | rfl
    · exact tail_of fl_2_0 hp
    · exact tail_of fl_2_1 hp
    · exact tail_of fl_2_2 hp
  · have c2 : k = 0 ∨ k = 1 ∨ k = 2 ∨ k = 3 := by omega
    rcases c2 with rfl | rfl | rfl | rfl
    · exact tail_of fl_3_0 hp
    · exact tail_of fl_3_1 hp
    · exact tail_of fl_3_2 hp
    · exact tail_of fl_3_3 hp
theorem done_all : Done := ⟨fin_both, fin_turn, fin_turned, fin_tail⟩
end Kx

/-! KxG: the top's facts, the end; printed by endtext.py. -/
namespace Kx
open PySem L2 PyProof.Rows
theorem all_mk {l : PySem.W.OpenLaw} {w : World} {K : PySem.W.Frag} {h : Heap} {mg : Str → Option Value} {fa : Addr} (X : K.In h) (G : h.Ns mainGlobals mg) (hfa : mg "law" = some (.ref fa))
    {f0 : Addr} {od0 an0 : Option Addr} {sl0 : Array (Option Value)} {oc0 kV0 dc0 pm0 cd0 ct0 : Value}
    (a0 : PySem.W.nsIn K mainGlobals "power_of" = some (some (.ref f0))) (l0 : K.lookup f0 = some ⟨oc0, od0, .func (PySem.W.fnOf "power_of" "power_of" (defArgs s_power_of) (defBody s_power_of) (defScope s_power_of) .none kV0 dc0 pm0 an0 cd0 ct0), sl0⟩) (c0 : PySem.W.codeIn K cd0 "power_of" = true) (k0 : PySem.W.keepIn K (.ref f0) = true)
    {f1 : Addr} {od1 an1 : Option Addr} {sl1 : Array (Option Value)} {oc1 kV1 dc1 pm1 cd1 ct1 : Value}
    (a1 : PySem.W.nsIn K mainGlobals "digit_of" = some (some (.ref f1))) (l1 : K.lookup f1 = some ⟨oc1, od1, .func (PySem.W.fnOf "digit_of" "digit_of" (defArgs s_digit_of) (defBody s_digit_of) (defScope s_digit_of) .none kV1 dc1 pm1 an1 cd1 ct1), sl1⟩) (c1 : PySem.W.codeIn K cd1 "digit_of" = true) (k1 : PySem.W.keepIn K (.ref f1) = true)
    {f2 : Addr} {od2 an2 : Option Addr} {sl2 : Array (Option Value)} {oc2 kV2 dc2 pm2 cd2 ct2 : Value}
    (a2 : PySem.W.nsIn K mainGlobals "number_by" = some (some (.ref f2))) (l2 : K.lookup f2 = some ⟨oc2, od2, .func (PySem.W.fnOf "number_by" "number_by" (defArgs s_number_by) (defBody s_number_by) (defScope s_number_by) .none kV2 dc2 pm2 an2 cd2 ct2), sl2⟩) (c2 : PySem.W.codeIn K cd2 "number_by" = true) (k2 : PySem.W.keepIn K (.ref f2) = true)
    {f3 : Addr} {od3 an3 : Option Addr} {sl3 : Array (Option Value)} {oc3 kV3 dc3 pm3 cd3 ct3 : Value}
    (a3 : PySem.W.nsIn K mainGlobals "laid_by" = some (some (.ref f3))) (l3 : K.lookup f3 = some ⟨oc3, od3, .func (PySem.W.fnOf "laid_by" "laid_by" (defArgs s_laid_by) (defBody s_laid_by) (defScope s_laid_by) .none kV3 dc3 pm3 an3 cd3 ct3), sl3⟩) (c3 : PySem.W.codeIn K cd3 "laid_by" = true) (k3 : PySem.W.keepIn K (.ref f3) = true)
    {f4 : Addr} {od4 an4 : Option Addr} {sl4 : Array (Option Value)} {oc4 kV4 dc4 pm4 cd4 ct4 : Value}
    (a4 : PySem.W.nsIn K mainGlobals "foreign_digits" = some (some (.ref f4))) (l4 : K.lookup f4 = some ⟨oc4, od4, .func (PySem.W.fnOf "foreign_digits" "foreign_digits" (defArgs s_foreign_digits) (defBody s_foreign_digits) (defScope s_foreign_digits) .none kV4 dc4 pm4 an4 cd4 ct4), sl4⟩) (c4 : PySem.W.codeIn K cd4 "foreign_digits" = true) (k4 : PySem.W.keepIn K (.ref f4) = true)
    {f5 : Addr} {od5 an5 : Option Addr} {sl5 : Array (Option Value)} {oc5 kV5 dc5 pm5 cd5 ct5 : Value}
    (a5 : PySem.W.nsIn K mainGlobals "digit_bound" = some (some (.ref f5))) (l5 : K.lookup f5 = some ⟨oc5, od5, .func (PySem.W.fnOf "digit_bound" "digit_bound" (defArgs s_digit_bound) (defBody s_digit_bound) (defScope s_digit_bound) .none kV5 dc5 pm5 an5 cd5 ct5), sl5⟩) (c5 : PySem.W.codeIn K cd5 "digit_bound" = true) (k5 : PySem.W.keepIn K (.ref f5) = true)
    {f6 : Addr} {od6 an6 : Option Addr} {sl6 : Array (Option Value)} {oc6 kV6 dc6 pm6 cd6 ct6 : Value}
    (a6 : PySem.W.nsIn K mainGlobals "exchanged_order" = some (some (.ref f6))) (l6 : K.lookup f6 = some ⟨oc6, od6, .func (PySem.W.fnOf "exchanged_order" "exchanged_order" (defArgs s_exchanged_order) (defBody s_exchanged_order) (defScope s_exchanged_order) .none kV6 dc6 pm6 an6 cd6 ct6), sl6⟩) (c6 : PySem.W.codeIn K cd6 "exchanged_order" = true) (k6 : PySem.W.keepIn K (.ref f6) = true)
    {f7 : Addr} {od7 an7 : Option Addr} {sl7 : Array (Option Value)} {oc7 kV7 dc7 pm7 cd7 ct7 : Value}
    (a7 : PySem.W.nsIn K mainGlobals "exchange_row" = some (some (.ref f7))) (l7 : K.lookup f7 = some ⟨oc7, od7, .func (PySem.W.fnOf "exchange_row" "exchange_row" (defArgs s_exchange_row) (defBody s_exchange_row) (defScope s_exchange_row) .none kV7 dc7 pm7 an7 cd7 ct7), sl7⟩) (c7 : PySem.W.codeIn K cd7 "exchange_row" = true) (k7 : PySem.W.keepIn K (.ref f7) = true)
    {f8 : Addr} {od8 an8 : Option Addr} {sl8 : Array (Option Value)} {oc8 kV8 dc8 pm8 cd8 ct8 : Value}
    (a8 : PySem.W.nsIn K mainGlobals "rings_of" = some (some (.ref f8))) (l8 : K.lookup f8 = some ⟨oc8, od8, .func (PySem.W.fnOf "rings_of" "rings_of" (defArgs s_rings_of) (defBody s_rings_of) (defScope s_rings_of) .none kV8 dc8 pm8 an8 cd8 ct8), sl8⟩) (c8 : PySem.W.codeIn K cd8 "rings_of" = true) (k8 : PySem.W.keepIn K (.ref f8) = true)
    {f9 : Addr} {od9 an9 : Option Addr} {sl9 : Array (Option Value)} {oc9 kV9 dc9 pm9 cd9 ct9 : Value}
    (a9 : PySem.W.nsIn K mainGlobals "ring_row" = some (some (.ref f9))) (l9 : K.lookup f9 = some ⟨oc9, od9, .func (PySem.W.fnOf "ring_row" "ring_row" (defArgs s_ring_row) (defBody s_ring_row) (defScope s_ring_row) .none kV9 dc9 pm9 an9 cd9 ct9), sl9⟩) (c9 : PySem.W.codeIn K cd9 "ring_row" = true) (k9 : PySem.W.keepIn K (.ref f9) = true)
    {f10 : Addr} {od10 an10 : Option Addr} {sl10 : Array (Option Value)} {oc10 kV10 dc10 pm10 cd10 ct10 : Value}
    (a10 : PySem.W.nsIn K mainGlobals "renaming_row" = some (some (.ref f10))) (l10 : K.lookup f10 = some ⟨oc10, od10, .func (PySem.W.fnOf "renaming_row" "renaming_row" (defArgs s_renaming_row) (defBody s_renaming_row) (defScope s_renaming_row) .none kV10 dc10 pm10 an10 cd10 ct10), sl10⟩) (c10 : PySem.W.codeIn K cd10 "renaming_row" = true) (k10 : PySem.W.keepIn K (.ref f10) = true)
    {f11 : Addr} {od11 an11 : Option Addr} {sl11 : Array (Option Value)} {oc11 kV11 dc11 pm11 cd11 ct11 : Value}
    (a11 : PySem.W.nsIn K mainGlobals "turned_order" = some (some (.ref f11))) (l11 : K.lookup f11 = some ⟨oc11, od11, .func (PySem.W.fnOf "turned_order" "turned_order" (defArgs s_turned_order) (defBody s_turned_order) (defScope s_turned_order) .none kV11 dc11 pm11 an11 cd11 ct11), sl11⟩) (c11 : PySem.W.codeIn K cd11 "turned_order" = true) (k11 : PySem.W.keepIn K (.ref f11) = true)
    {f12 : Addr} {od12 an12 : Option Addr} {sl12 : Array (Option Value)} {oc12 kV12 dc12 pm12 cd12 ct12 : Value}
    (a12 : PySem.W.nsIn K mainGlobals "to_bring" = some (some (.ref f12))) (l12 : K.lookup f12 = some ⟨oc12, od12, .func (PySem.W.fnOf "to_bring" "to_bring" (defArgs s_to_bring) (defBody s_to_bring) (defScope s_to_bring) .none kV12 dc12 pm12 an12 cd12 ct12), sl12⟩) (c12 : PySem.W.codeIn K cd12 "to_bring" = true) (k12 : PySem.W.keepIn K (.ref f12) = true)
    {f13 : Addr} {od13 an13 : Option Addr} {sl13 : Array (Option Value)} {oc13 kV13 dc13 pm13 cd13 ct13 : Value}
    (a13 : PySem.W.nsIn K mainGlobals "brought" = some (some (.ref f13))) (l13 : K.lookup f13 = some ⟨oc13, od13, .func (PySem.W.fnOf "brought" "brought" (defArgs s_brought) (defBody s_brought) (defScope s_brought) .none kV13 dc13 pm13 an13 cd13 ct13), sl13⟩) (c13 : PySem.W.codeIn K cd13 "brought" = true) (k13 : PySem.W.keepIn K (.ref f13) = true)
    {f14 : Addr} {od14 an14 : Option Addr} {sl14 : Array (Option Value)} {oc14 kV14 dc14 pm14 cd14 ct14 : Value}
    (a14 : PySem.W.nsIn K mainGlobals "names_between" = some (some (.ref f14))) (l14 : K.lookup f14 = some ⟨oc14, od14, .func (PySem.W.fnOf "names_between" "names_between" (defArgs s_names_between) (defBody s_names_between) (defScope s_names_between) .none kV14 dc14 pm14 an14 cd14 ct14), sl14⟩) (c14 : PySem.W.codeIn K cd14 "names_between" = true) (k14 : PySem.W.keepIn K (.ref f14) = true)
    {f15 : Addr} {od15 an15 : Option Addr} {sl15 : Array (Option Value)} {oc15 kV15 dc15 pm15 cd15 ct15 : Value}
    (a15 : PySem.W.nsIn K mainGlobals "named_digit_row" = some (some (.ref f15))) (l15 : K.lookup f15 = some ⟨oc15, od15, .func (PySem.W.fnOf "named_digit_row" "named_digit_row" (defArgs s_named_digit_row) (defBody s_named_digit_row) (defScope s_named_digit_row) .none kV15 dc15 pm15 an15 cd15 ct15), sl15⟩) (c15 : PySem.W.codeIn K cd15 "named_digit_row" = true) (k15 : PySem.W.keepIn K (.ref f15) = true)
    {f16 : Addr} {od16 an16 : Option Addr} {sl16 : Array (Option Value)} {oc16 kV16 dc16 pm16 cd16 ct16 : Value}
    (a16 : PySem.W.nsIn K mainGlobals "digit_row" = some (some (.ref f16))) (l16 : K.lookup f16 = some ⟨oc16, od16, .func (PySem.W.fnOf "digit_row" "digit_row" (defArgs s_digit_row) (defBody s_digit_row) (defScope s_digit_row) .none kV16 dc16 pm16 an16 cd16 ct16), sl16⟩) (c16 : PySem.W.codeIn K cd16 "digit_row" = true) (k16 : PySem.W.keepIn K (.ref f16) = true)
    {f17 : Addr} {od17 an17 : Option Addr} {sl17 : Array (Option Value)} {oc17 kV17 dc17 pm17 cd17 ct17 : Value}
    (a17 : PySem.W.nsIn K mainGlobals "least_turning" = some (some (.ref f17))) (l17 : K.lookup f17 = some ⟨oc17, od17, .func (PySem.W.fnOf "least_turning" "least_turning" (defArgs s_least_turning) (defBody s_least_turning) (defScope s_least_turning) .none kV17 dc17 pm17 an17 cd17 ct17), sl17⟩) (c17 : PySem.W.codeIn K cd17 "least_turning" = true) (k17 : PySem.W.keepIn K (.ref f17) = true)
    {f18 : Addr} {od18 an18 : Option Addr} {sl18 : Array (Option Value)} {oc18 kV18 dc18 pm18 cd18 ct18 : Value}
    (a18 : PySem.W.nsIn K mainGlobals "_law_power" = some (some (.ref f18))) (l18 : K.lookup f18 = some ⟨oc18, od18, .func (PySem.W.fnOf "_law_power" "_law_power" (defArgs s_law_power) (defBody s_law_power) (defScope s_law_power) .none kV18 dc18 pm18 an18 cd18 ct18), sl18⟩) (c18 : PySem.W.codeIn K cd18 "_law_power" = true) (k18 : PySem.W.keepIn K (.ref f18) = true)
    {f19 : Addr} {od19 an19 : Option Addr} {sl19 : Array (Option Value)} {oc19 kV19 dc19 pm19 cd19 ct19 : Value}
    (a19 : PySem.W.nsIn K mainGlobals "_law_digits" = some (some (.ref f19))) (l19 : K.lookup f19 = some ⟨oc19, od19, .func (PySem.W.fnOf "_law_digits" "_law_digits" (defArgs s_law_digits) (defBody s_law_digits) (defScope s_law_digits) .none kV19 dc19 pm19 an19 cd19 ct19), sl19⟩) (c19 : PySem.W.codeIn K cd19 "_law_digits" = true) (k19 : PySem.W.keepIn K (.ref f19) = true)
    {f20 : Addr} {od20 an20 : Option Addr} {sl20 : Array (Option Value)} {oc20 kV20 dc20 pm20 cd20 ct20 : Value}
    (a20 : PySem.W.nsIn K mainGlobals "_law_laid" = some (some (.ref f20))) (l20 : K.lookup f20 = some ⟨oc20, od20, .func (PySem.W.fnOf "_law_laid" "_law_laid" (defArgs s_law_laid) (defBody s_law_laid) (defScope s_law_laid) .none kV20 dc20 pm20 an20 cd20 ct20), sl20⟩) (c20 : PySem.W.codeIn K cd20 "_law_laid" = true) (k20 : PySem.W.keepIn K (.ref f20) = true)
    {f21 : Addr} {od21 an21 : Option Addr} {sl21 : Array (Option Value)} {oc21 kV21 dc21 pm21 cd21 ct21 : Value}
    (a21 : PySem.W.nsIn K mainGlobals "_law_played" = some (some (.ref f21))) (l21 : K.lookup f21 = some ⟨oc21, od21, .func (PySem.W.fnOf "_law_played" "_law_played" (defArgs s_law_played) (defBody s_law_played) (defScope s_law_played) .none kV21 dc21 pm21 an21 cd21 ct21), sl21⟩) (c21 : PySem.W.codeIn K cd21 "_law_played" = true) (k21 : PySem.W.keepIn K (.ref f21) = true)
    {f22 : Addr} {od22 an22 : Option Addr} {sl22 : Array (Option Value)} {oc22 kV22 dc22 pm22 cd22 ct22 : Value}
    (a22 : PySem.W.nsIn K mainGlobals "_law_count" = some (some (.ref f22))) (l22 : K.lookup f22 = some ⟨oc22, od22, .func (PySem.W.fnOf "_law_count" "_law_count" (defArgs s_law_count) (defBody s_law_count) (defScope s_law_count) .none kV22 dc22 pm22 an22 cd22 ct22), sl22⟩) (c22 : PySem.W.codeIn K cd22 "_law_count" = true) (k22 : PySem.W.keepIn K (.ref f22) = true)
    {f23 : Addr} {od23 an23 : Option Addr} {sl23 : Array (Option Value)} {oc23 kV23 dc23 pm23 cd23 ct23 : Value}
    (a23 : PySem.W.nsIn K mainGlobals "_law_places" = some (some (.ref f23))) (l23 : K.lookup f23 = some ⟨oc23, od23, .func (PySem.W.fnOf "_law_places" "_law_places" (defArgs s_law_places) (defBody s_law_places) (defScope s_law_places) .none kV23 dc23 pm23 an23 cd23 ct23), sl23⟩) (c23 : PySem.W.codeIn K cd23 "_law_places" = true) (k23 : PySem.W.keepIn K (.ref f23) = true)
    {f24 : Addr} {od24 an24 : Option Addr} {sl24 : Array (Option Value)} {oc24 kV24 dc24 pm24 cd24 ct24 : Value}
    (a24 : PySem.W.nsIn K mainGlobals "_law_depths" = some (some (.ref f24))) (l24 : K.lookup f24 = some ⟨oc24, od24, .func (PySem.W.fnOf "_law_depths" "_law_depths" (defArgs s_law_depths) (defBody s_law_depths) (defScope s_law_depths) .none kV24 dc24 pm24 an24 cd24 ct24), sl24⟩) (c24 : PySem.W.codeIn K cd24 "_law_depths" = true) (k24 : PySem.W.keepIn K (.ref f24) = true)
    {f25 : Addr} {od25 an25 : Option Addr} {sl25 : Array (Option Value)} {oc25 kV25 dc25 pm25 cd25 ct25 : Value}
    (a25 : PySem.W.nsIn K mainGlobals "_law_bounds" = some (some (.ref f25))) (l25 : K.lookup f25 = some ⟨oc25, od25, .func (PySem.W.fnOf "_law_bounds" "_law_bounds" (defArgs s_law_bounds) (defBody s_law_bounds) (defScope s_law_bounds) .none kV25 dc25 pm25 an25 cd25 ct25), sl25⟩) (c25 : PySem.W.codeIn K cd25 "_law_bounds" = true) (k25 : PySem.W.keepIn K (.ref f25) = true)
    {f26 : Addr} {od26 an26 : Option Addr} {sl26 : Array (Option Value)} {oc26 kV26 dc26 pm26 cd26 ct26 : Value}
    (a26 : PySem.W.nsIn K mainGlobals "_law_shares" = some (some (.ref f26))) (l26 : K.lookup f26 = some ⟨oc26, od26, .func (PySem.W.fnOf "_law_shares" "_law_shares" (defArgs s_law_shares) (defBody s_law_shares) (defScope s_law_shares) .none kV26 dc26 pm26 an26 cd26 ct26), sl26⟩) (c26 : PySem.W.codeIn K cd26 "_law_shares" = true) (k26 : PySem.W.keepIn K (.ref f26) = true)
    {f27 : Addr} {od27 an27 : Option Addr} {sl27 : Array (Option Value)} {oc27 kV27 dc27 pm27 cd27 ct27 : Value}
    (a27 : PySem.W.nsIn K mainGlobals "_law_lots" = some (some (.ref f27))) (l27 : K.lookup f27 = some ⟨oc27, od27, .func (PySem.W.fnOf "_law_lots" "_law_lots" (defArgs s_law_lots) (defBody s_law_lots) (defScope s_law_lots) .none kV27 dc27 pm27 an27 cd27 ct27), sl27⟩) (c27 : PySem.W.codeIn K cd27 "_law_lots" = true) (k27 : PySem.W.keepIn K (.ref f27) = true)
    {f28 : Addr} {od28 an28 : Option Addr} {sl28 : Array (Option Value)} {oc28 kV28 dc28 pm28 cd28 ct28 : Value}
    (a28 : PySem.W.nsIn K mainGlobals "_law_uniform" = some (some (.ref f28))) (l28 : K.lookup f28 = some ⟨oc28, od28, .func (PySem.W.fnOf "_law_uniform" "_law_uniform" (defArgs s_law_uniform) (defBody s_law_uniform) (defScope s_law_uniform) .none kV28 dc28 pm28 an28 cd28 ct28), sl28⟩) (c28 : PySem.W.codeIn K cd28 "_law_uniform" = true) (k28 : PySem.W.keepIn K (.ref f28) = true)
    {f29 : Addr} {od29 an29 : Option Addr} {sl29 : Array (Option Value)} {oc29 kV29 dc29 pm29 cd29 ct29 : Value}
    (a29 : PySem.W.nsIn K mainGlobals "_law_rings" = some (some (.ref f29))) (l29 : K.lookup f29 = some ⟨oc29, od29, .func (PySem.W.fnOf "_law_rings" "_law_rings" (defArgs s_law_rings) (defBody s_law_rings) (defScope s_law_rings) .none kV29 dc29 pm29 an29 cd29 ct29), sl29⟩) (c29 : PySem.W.codeIn K cd29 "_law_rings" = true) (k29 : PySem.W.keepIn K (.ref f29) = true)
    {f30 : Addr} {od30 an30 : Option Addr} {sl30 : Array (Option Value)} {oc30 kV30 dc30 pm30 cd30 ct30 : Value}
    (a30 : PySem.W.nsIn K mainGlobals "_law_both" = some (some (.ref f30))) (l30 : K.lookup f30 = some ⟨oc30, od30, .func (PySem.W.fnOf "_law_both" "_law_both" (defArgs s_law_both) (defBody s_law_both) (defScope s_law_both) .none kV30 dc30 pm30 an30 cd30 ct30), sl30⟩) (c30 : PySem.W.codeIn K cd30 "_law_both" = true) (k30 : PySem.W.keepIn K (.ref f30) = true)
    {f31 : Addr} {od31 an31 : Option Addr} {sl31 : Array (Option Value)} {oc31 kV31 dc31 pm31 cd31 ct31 : Value}
    (a31 : PySem.W.nsIn K mainGlobals "_law_turned" = some (some (.ref f31))) (l31 : K.lookup f31 = some ⟨oc31, od31, .func (PySem.W.fnOf "_law_turned" "_law_turned" (defArgs s_law_turned) (defBody s_law_turned) (defScope s_law_turned) .none kV31 dc31 pm31 an31 cd31 ct31), sl31⟩) (c31 : PySem.W.codeIn K cd31 "_law_turned" = true) (k31 : PySem.W.keepIn K (.ref f31) = true)
    {f32 : Addr} {od32 an32 : Option Addr} {sl32 : Array (Option Value)} {oc32 kV32 dc32 pm32 cd32 ct32 : Value}
    (a32 : PySem.W.nsIn K mainGlobals "_law_draw" = some (some (.ref f32))) (l32 : K.lookup f32 = some ⟨oc32, od32, .func (PySem.W.fnOf "_law_draw" "_law_draw" (defArgs s_draw) (defBody s_draw) (defScope s_draw) .none kV32 dc32 pm32 an32 cd32 ct32), sl32⟩) (c32 : PySem.W.codeIn K cd32 "_law_draw" = true) (k32 : PySem.W.keepIn K (.ref f32) = true)
    {f33 : Addr} {od33 an33 : Option Addr} {sl33 : Array (Option Value)} {oc33 kV33 dc33 pm33 cd33 ct33 : Value}
    (a33 : PySem.W.nsIn K mainGlobals "_law_any" = some (some (.ref f33))) (l33 : K.lookup f33 = some ⟨oc33, od33, .func (PySem.W.fnOf "_law_any" "_law_any" (defArgs s_any) (defBody s_any) (defScope s_any) .none kV33 dc33 pm33 an33 cd33 ct33), sl33⟩) (c33 : PySem.W.codeIn K cd33 "_law_any" = true) (k33 : PySem.W.keepIn K (.ref f33) = true)
    {f34 : Addr} {od34 an34 : Option Addr} {sl34 : Array (Option Value)} {oc34 kV34 dc34 pm34 cd34 ct34 : Value}
    (a34 : PySem.W.nsIn K mainGlobals "_law_mixed" = some (some (.ref f34))) (l34 : K.lookup f34 = some ⟨oc34, od34, .func (PySem.W.fnOf "_law_mixed" "_law_mixed" (defArgs s_mixed) (defBody s_mixed) (defScope s_mixed) .none kV34 dc34 pm34 an34 cd34 ct34), sl34⟩) (c34 : PySem.W.codeIn K cd34 "_law_mixed" = true) (k34 : PySem.W.keepIn K (.ref f34) = true)
    {f35 : Addr} {od35 an35 : Option Addr} {sl35 : Array (Option Value)} {oc35 kV35 dc35 pm35 cd35 ct35 : Value}
    (a35 : PySem.W.nsIn K mainGlobals "law" = some (some (.ref f35))) (l35 : K.lookup f35 = some ⟨oc35, od35, .func (PySem.W.fnOf "law" "law" (defArgs s_law) (defBody s_law) (defScope s_law) .none kV35 dc35 pm35 an35 cd35 ct35), sl35⟩) (c35 : PySem.W.codeIn K cd35 "law" = true) (k35 : PySem.W.keepIn K (.ref f35) = true)
    (z0 : PySem.W.nsIn K mainGlobals "range" = some none)
    (z1 : PySem.W.nsIn K mainGlobals "tuple" = some none)
    (z2 : PySem.W.nsIn K mainGlobals "len" = some none)
    (z3 : PySem.W.nsIn K mainGlobals "list" = some none)
    (z4 : PySem.W.nsIn K mainGlobals "enumerate" = some none)
    (z5 : PySem.W.nsIn K mainGlobals "sorted" = some none)
    (z6 : PySem.W.nsIn K mainGlobals "zip" = some none)
    (z7 : PySem.W.nsIn K mainGlobals "int" = some none)
    (z8 : PySem.W.nsIn K mainGlobals "isinstance" = some none)
    (z9 : PySem.W.nsIn K mainGlobals "set" = some none)
    (z10 : PySem.W.nsIn K mainGlobals "sum" = some none)
    (z11 : PySem.W.nsIn K mainGlobals "min" = some none)
    (z12 : PySem.W.nsIn K mainGlobals "repr" = some none)
    (z13 : PySem.W.nsIn K mainGlobals "abs" = some none)
    : ∃ fd : FuncData, (∀ (s : Shared) (v : Value), BindsTo s fd ⟨[v], []⟩ [("_law_script", v)]) ∧ ∀ base : Heap, K.In base → base.Ns mainGlobals mg → FnOk l.prog w K mg base CX0 9 fa fd ["_law_script"] (spLaw K) := by
  have e := hfa.symm.trans (PySem.W.mg_of X G a35)
  cases e
  have m_range := PySem.W.mg_none_of X G z0
  have m_tuple := PySem.W.mg_none_of X G z1
  have m_len := PySem.W.mg_none_of X G z2
  have m_list := PySem.W.mg_none_of X G z3
  have m_enumerate := PySem.W.mg_none_of X G z4
  have m_sorted := PySem.W.mg_none_of X G z5
  have m_zip := PySem.W.mg_none_of X G z6
  have m_int := PySem.W.mg_none_of X G z7
  have m_isinstance := PySem.W.mg_none_of X G z8
  have m_set := PySem.W.mg_none_of X G z9
  have m_sum := PySem.W.mg_none_of X G z10
  have m_min := PySem.W.mg_none_of X G z11
  have m_repr := PySem.W.mg_none_of X G z12
  have m_abs := PySem.W.mg_none_of X G z13
  have F_power_of := fun_mk (st := s_power_of) l0 c0 k0
  have h_power_of := PySem.W.mg_of X G a0
  have b_power_of := F_power_of.binds (ps := ["m", "many"]) fun _ _ _ _ _ _ us hl => match us, hl with | [_, _], _ => rfl
  have F_digit_of := fun_mk (st := s_digit_of) l1 c1 k1
  have h_digit_of := PySem.W.mg_of X G a1
  have b_digit_of := F_digit_of.binds (ps := ["m", "x", "place"]) fun _ _ _ _ _ _ us hl => match us, hl with | [_, _, _], _ => rfl
  have F_number_by := fun_mk (st := s_number_by) l2 c2 k2
  have h_number_by := PySem.W.mg_of X G a2
  have b_number_by := F_number_by.binds (ps := ["m", "x", "order"]) fun _ _ _ _ _ _ us hl => match us, hl with | [_, _, _], _ => rfl
  have F_laid_by := fun_mk (st := s_laid_by) l3 c3 k3
  have h_laid_by := PySem.W.mg_of X G a3
  have b_laid_by := F_laid_by.binds (ps := ["m", "k", "order"]) fun _ _ _ _ _ _ us hl => match us, hl with | [_, _, _], _ => rfl
  have F_foreign_digits := fun_mk (st := s_foreign_digits) l4 c4 k4
  have h_foreign_digits := PySem.W.mg_of X G a4
  have b_foreign_digits := F_foreign_digits.binds (ps := ["k", "order"]) fun _ _ _ _ _ _ us hl => match us, hl with | [_, _], _ => rfl
  have F_digit_bound := fun_mk (st := s_digit_bound) l5 c5 k5
  have h_digit_bound := PySem.W.mg_of X G a5
  have b_digit_bound := F_digit_bound.binds (ps := ["m", "k", "order"]) fun _ _ _ _ _ _ us hl => match us, hl with | [_, _, _], _ => rfl
  have F_exchanged_order := fun_mk (st := s_exchanged_order) l6 c6 k6
  have h_exchanged_order := PySem.W.mg_of X G a6
  have b_exchanged_order := F_exchanged_order.binds (ps := ["order", "one", "other"]) fun _ _ _ _ _ _ us hl => match us, hl with | [_, _, _], _ => rfl
  have F_exchange_row := fun_mk (st := s_exchange_row) l7 c7 k7
  have h_exchange_row := PySem.W.mg_of X G a7
  have b_exchange_row := F_exchange_row.binds (ps := ["m", "k", "order", "inner", "outer"]) fun _ _ _ _ _ _ us hl => match us, hl with | [_, _, _, _, _], _ => rfl
  have F_rings_of := fun_mk (st := s_rings_of) l8 c8 k8
  have h_rings_of := PySem.W.mg_of X G a8
  have b_rings_of := F_rings_of.binds (ps := ["names"]) fun _ _ _ _ _ _ us hl => match us, hl with | [_], _ => rfl
  have F_ring_row := fun_mk (st := s_ring_row) l9 c9 k9
  have h_ring_row := PySem.W.mg_of X G a9
  have b_ring_row := F_ring_row.binds (ps := ["blocks", "ring", "m"]) fun _ _ _ _ _ _ us hl => match us, hl with | [_, _, _], _ => rfl
  have F_renaming_row := fun_mk (st := s_renaming_row) l10 c10 k10
  have h_renaming_row := PySem.W.mg_of X G a10
  have b_renaming_row := F_renaming_row.binds (ps := ["standing", "names", "m"]) fun _ _ _ _ _ _ us hl => match us, hl with | [_, _, _], _ => rfl
  have F_turned_order := fun_mk (st := s_turned_order) l11 c11 k11
  have h_turned_order := PySem.W.mg_of X G a11
  have b_turned_order := F_turned_order.binds (ps := ["i", "j"]) fun _ _ _ _ _ _ us hl => match us, hl with | [_, _], _ => rfl
  have F_to_bring := fun_mk (st := s_to_bring) l12 c12 k12
  have h_to_bring := PySem.W.mg_of X G a12
  have b_to_bring := F_to_bring.binds (ps := ["k", "order"]) fun _ _ _ _ _ _ us hl => match us, hl with | [_, _], _ => rfl
  have F_brought := fun_mk (st := s_brought) l13 c13 k13
  have h_brought := PySem.W.mg_of X G a13
  have b_brought := F_brought.binds (ps := ["m", "k", "order"]) fun _ _ _ _ _ _ us hl => match us, hl with | [_, _, _], _ => rfl
  have F_names_between := fun_mk (st := s_names_between) l14 c14 k14
  have h_names_between := PySem.W.mg_of X G a14
  have b_names_between := F_names_between.binds (ps := ["m", "k", "now", "order"]) fun _ _ _ _ _ _ us hl => match us, hl with | [_, _, _, _], _ => rfl
  have F_named_digit_row := fun_mk (st := s_named_digit_row) l15 c15 k15
  have h_named_digit_row := PySem.W.mg_of X G a15
  have b_named_digit_row := F_named_digit_row.binds (ps := ["m", "k", "order"]) fun _ _ _ _ _ _ us hl => match us, hl with | [_, _, _], _ => rfl
  have q_named_digit_row : KB3 K (PySem.W.fnOf "named_digit_row" "named_digit_row" (defArgs s_named_digit_row) (defBody s_named_digit_row) (defScope s_named_digit_row) .none kV15 dc15 pm15 an15 cd15 ct15) := ⟨fun s us ws _ hl => match us, ws, hl with | [], [_, _, _], _ => .of_eq rfl, rel3⟩
  have F_digit_row := fun_mk (st := s_digit_row) l16 c16 k16
  have h_digit_row := PySem.W.mg_of X G a16
  have b_digit_row := F_digit_row.binds (ps := ["m", "k", "order"]) fun _ _ _ _ _ _ us hl => match us, hl with | [_, _, _], _ => rfl
  have q_digit_row : KB3 K (PySem.W.fnOf "digit_row" "digit_row" (defArgs s_digit_row) (defBody s_digit_row) (defScope s_digit_row) .none kV16 dc16 pm16 an16 cd16 ct16) := ⟨fun s us ws _ hl => match us, ws, hl with | [], [_, _, _], _ => .of_eq rfl, rel3⟩
  have F_least_turning := fun_mk (st := s_least_turning) l17 c17 k17
  have h_least_turning := PySem.W.mg_of X G a17
  have b_least_turning := F_least_turning.binds (ps := ["m", "i", "j", "k"]) fun _ _ _ _ _ _ us hl => match us, hl with | [_, _, _, _], _ => rfl
  have q_least_turning : KB4 K (PySem.W.fnOf "least_turning" "least_turning" (defArgs s_least_turning) (defBody s_least_turning) (defScope s_least_turning) .none kV17 dc17 pm17 an17 cd17 ct17) := ⟨fun s us ws _ hl => match us, ws, hl with | [], [_, _, _, _], _ => .of_eq rfl, rel4⟩
  have F_law_power := fun_mk (st := s_law_power) l18 c18 k18
  have h_law_power := PySem.W.mg_of X G a18
  have b_law_power := F_law_power.binds (ps := ["_law_m", "_law_many"]) fun _ _ _ _ _ _ us hl => match us, hl with | [_, _], _ => rfl
  have F_law_digits := fun_mk (st := s_law_digits) l19 c19 k19
  have h_law_digits := PySem.W.mg_of X G a19
  have b_law_digits := F_law_digits.binds (ps := ["_law_m", "_law_h", "_law_x"]) fun _ _ _ _ _ _ us hl => match us, hl with | [_, _, _], _ => rfl
  have F_law_laid := fun_mk (st := s_law_laid) l20 c20 k20
  have h_law_laid := PySem.W.mg_of X G a20
  have b_law_laid := F_law_laid.binds (ps := ["_law_m", "_law_k", "_law_order"]) fun _ _ _ _ _ _ us hl => match us, hl with | [_, _, _], _ => rfl
  have F_law_played := fun_mk (st := s_law_played) l21 c21 k21
  have h_law_played := PySem.W.mg_of X G a21
  have b_law_played := F_law_played.binds (ps := ["_law_standing", "_law_m", "_law_row"]) fun _ _ _ _ _ _ us hl => match us, hl with | [_, _, _], _ => rfl
  have F_law_count := fun_mk (st := s_law_count) l22 c22 k22
  have h_law_count := PySem.W.mg_of X G a22
  have b_law_count := F_law_count.binds (ps := ["_law_standing"]) fun _ _ _ _ _ _ us hl => match us, hl with | [_], _ => rfl
  have F_law_places := fun_mk (st := s_law_places) l23 c23 k23
  have h_law_places := PySem.W.mg_of X G a23
  have b_law_places := F_law_places.binds (ps := ["_law_standing"]) fun _ _ _ _ _ _ us hl => match us, hl with | [_], _ => rfl
  have F_law_depths := fun_mk (st := s_law_depths) l24 c24 k24
  have h_law_depths := PySem.W.mg_of X G a24
  have b_law_depths := F_law_depths.binds (ps := ["_law_m", "_law_most"]) fun _ _ _ _ _ _ us hl => match us, hl with | [_, _], _ => rfl
  have F_law_bounds := fun_mk (st := s_law_bounds) l25 c25 k25
  have h_law_bounds := PySem.W.mg_of X G a25
  have b_law_bounds := F_law_bounds.binds (ps := ["_law_m", "_law_first", "_law_wish"]) fun _ _ _ _ _ _ us hl => match us, hl with | [_, _, _], _ => rfl
  have F_law_shares := fun_mk (st := s_law_shares) l26 c26 k26
  have h_law_shares := PySem.W.mg_of X G a26
  have b_law_shares := F_law_shares.binds (ps := ["_law_b", "_law_many", "_law_records"]) fun _ _ _ _ _ _ us hl => match us, hl with | [_, _, _], _ => rfl
  have F_law_lots := fun_mk (st := s_law_lots) l27 c27 k27
  have h_law_lots := PySem.W.mg_of X G a27
  have b_law_lots := F_law_lots.binds (ps := ["_law_many", "_law_m"]) fun _ _ _ _ _ _ us hl => match us, hl with | [_, _], _ => rfl
  have F_law_uniform := fun_mk (st := s_law_uniform) l28 c28 k28
  have h_law_uniform := PySem.W.mg_of X G a28
  have b_law_uniform := F_law_uniform.binds (ps := ["_law_b", "_law_blocks", "_law_m"]) fun _ _ _ _ _ _ us hl => match us, hl with | [_, _, _], _ => rfl
  have F_law_rings := fun_mk (st := s_law_rings) l29 c29 k29
  have h_law_rings := PySem.W.mg_of X G a29
  have b_law_rings := F_law_rings.binds (ps := ["_law_names"]) fun _ _ _ _ _ _ us hl => match us, hl with | [_], _ => rfl
  have F_law_both := fun_mk (st := s_law_both) l30 c30 k30
  have h_law_both := PySem.W.mg_of X G a30
  have b_law_both := F_law_both.binds (ps := ["_law_m", "_law_k", "_law_order"]) fun _ _ _ _ _ _ us hl => match us, hl with | [_, _, _], _ => rfl
  have F_law_turned := fun_mk (st := s_law_turned) l31 c31 k31
  have h_law_turned := PySem.W.mg_of X G a31
  have b_law_turned := F_law_turned.binds (ps := ["_law_m", "_law_i", "_law_j", "_law_k"]) fun _ _ _ _ _ _ us hl => match us, hl with | [_, _, _, _], _ => rfl
  have F_draw := fun_mk (st := s_draw) l32 c32 k32
  have h_draw := PySem.W.mg_of X G a32
  have b_draw := F_draw.binds (ps := ["_law_script", "_law_salt"]) fun _ _ _ _ _ _ us hl => match us, hl with | [_, _], _ => rfl
  have F_any := fun_mk (st := s_any) l33 c33 k33
  have h_any := PySem.W.mg_of X G a33
  have b_any := F_any.binds (ps := ["_law_deal", "_law_bound"]) fun _ _ _ _ _ _ us hl => match us, hl with | [_, _], _ => rfl
  have F_mixed := fun_mk (st := s_mixed) l34 c34 k34
  have h_mixed := PySem.W.mg_of X G a34
  have b_mixed := F_mixed.binds (ps := ["_law_deal", "_law_some"]) fun _ _ _ _ _ _ us hl => match us, hl with | [_, _], _ => rfl
  have F_law := fun_mk (st := s_law) l35 c35 k35
  have h_law := PySem.W.mg_of X G a35
  refine ⟨PySem.W.fnOf "law" "law" (defArgs s_law) (defBody s_law) (defScope s_law) .none kV35 dc35 pm35 an35 cd35 ct35, fun s v => .of_eq rfl, fun base _ _ => ?_⟩
  have G_power_of := ok_power_of (P := l.prog) (w := w) (base := base) F_power_of m_range
  have G_digit_of := ok_digit_of (P := l.prog) (w := w) (base := base) F_digit_of G_power_of h_power_of F_power_of.kp b_power_of
  have G_number_by := ok_number_by (P := l.prog) (w := w) (base := base) F_number_by G_digit_of h_digit_of F_digit_of.kp b_digit_of
  have G_laid_by := ok_laid_by (P := l.prog) (w := w) (base := base) F_laid_by G_power_of h_power_of F_power_of.kp b_power_of G_number_by h_number_by F_number_by.kp b_number_by m_tuple m_range m_len
  have G_foreign_digits := ok_foreign_digits (P := l.prog) (w := w) (base := base) F_foreign_digits m_len
  have G_digit_bound := ok_digit_bound (P := l.prog) (w := w) (base := base) F_digit_bound G_power_of h_power_of F_power_of.kp b_power_of G_foreign_digits h_foreign_digits F_foreign_digits.kp b_foreign_digits m_len
  have G_exchanged_order := ok_exchanged_order (P := l.prog) (w := w) (base := base) F_exchanged_order m_tuple m_list
  have G_exchange_row := ok_exchange_row (P := l.prog) (w := w) (base := base) F_exchange_row G_power_of h_power_of F_power_of.kp b_power_of G_laid_by h_laid_by F_laid_by.kp b_laid_by G_exchanged_order h_exchanged_order F_exchanged_order.kp b_exchanged_order m_tuple m_range m_len
  have G_rings_of := ok_rings_of (P := l.prog) (w := w) (base := base) F_rings_of m_range m_len
  have G_ring_row := ok_ring_row (P := l.prog) (w := w) (base := base) F_ring_row m_len m_enumerate m_tuple m_sorted
  have G_renaming_row := ok_renaming_row (P := l.prog) (w := w) (base := base) F_renaming_row G_rings_of h_rings_of F_rings_of.kp b_rings_of G_ring_row h_ring_row F_ring_row.kp b_ring_row m_tuple
  have G_turned_order := ok_turned_order (P := l.prog) (w := w) (base := base) F_turned_order m_range m_tuple
  have G_to_bring := ok_to_bring (P := l.prog) (w := w) (base := base) F_to_bring m_list m_zip m_range m_len
  have G_brought := ok_brought (P := l.prog) (w := w) (base := base) F_brought G_to_bring h_to_bring F_to_bring.kp b_to_bring G_exchanged_order h_exchanged_order F_exchanged_order.kp b_exchanged_order G_exchange_row h_exchange_row F_exchange_row.kp b_exchange_row m_tuple m_range m_len
  have G_names_between := ok_names_between (P := l.prog) (w := w) (base := base) F_names_between G_power_of h_power_of F_power_of.kp b_power_of G_digit_of h_digit_of F_digit_of.kp b_digit_of m_tuple m_range m_len m_enumerate
  have G_named_digit_row := ok_named_digit_row (P := l.prog) (w := w) (base := base) F_named_digit_row G_names_between h_names_between F_names_between.kp b_names_between G_brought h_brought F_brought.kp b_brought
  have G_digit_row := ok_digit_row (P := l.prog) (w := w) (base := base) F_digit_row G_renaming_row h_renaming_row F_renaming_row.kp b_renaming_row G_names_between h_names_between F_names_between.kp b_names_between G_laid_by h_laid_by F_laid_by.kp b_laid_by G_brought h_brought F_brought.kp b_brought
  have G_least_turning := ok_least_turning (P := l.prog) (w := w) (base := base) F_least_turning G_digit_bound h_digit_bound F_digit_bound.kp b_digit_bound G_turned_order h_turned_order F_turned_order.kp b_turned_order
  have G_law_power := ok_law_power (P := l.prog) (w := w) (base := base) F_law_power m_range m_int
  have G_law_digits := ok_law_digits (P := l.prog) (w := w) (base := base) F_law_digits m_range
  have G_law_laid := ok_law_laid (P := l.prog) (w := w) (base := base) F_law_laid G_law_power h_law_power F_law_power.kp b_law_power G_law_digits h_law_digits F_law_digits.kp b_law_digits m_tuple m_range m_len
  have G_law_played := ok_law_played (P := l.prog) (w := w) (base := base) F_law_played m_tuple m_zip m_sorted m_list m_len m_isinstance m_set
  have G_law_count := ok_law_count (P := l.prog) (w := w) (base := base) F_law_count m_len m_sum
  have G_law_places := ok_law_places (P := l.prog) (w := w) (base := base) F_law_places G_law_count h_law_count F_law_count.kp b_law_count m_tuple m_enumerate
  have G_law_depths := ok_law_depths (P := l.prog) (w := w) (base := base) F_law_depths m_range m_min
  have T_law_depths := G_law_depths.imp fun vs H Q E h => spD_mono depths_le h
  have G_law_bounds := ok_law_bounds (P := l.prog) (w := w) (base := base) F_law_bounds G_law_power h_law_power F_law_power.kp b_law_power T_law_depths h_law_depths F_law_depths.kp b_law_depths m_len m_sorted m_set
  have G_law_shares := ok_law_shares (P := l.prog) (w := w) (base := base) F_law_shares m_len m_range m_tuple
  have G_law_lots := ok_law_lots (P := l.prog) (w := w) (base := base) F_law_lots m_len m_range
  have G_law_uniform := ok_law_uniform (P := l.prog) (w := w) (base := base) F_law_uniform G_law_lots h_law_lots F_law_lots.kp b_law_lots G_law_shares h_law_shares F_law_shares.kp b_law_shares m_len m_set m_sorted m_tuple m_zip m_list
  have G_law_rings := ok_law_rings (P := l.prog) (w := w) (base := base) F_law_rings m_range m_len
  have G_law_both := ok_law_both (P := l.prog) (w := w) (base := base) F_law_both G_law_rings h_law_rings F_law_rings.kp b_law_rings G_law_played h_law_played F_law_played.kp b_law_played G_digit_row h_digit_row F_digit_row.kp q_digit_row G_law_bounds h_law_bounds F_law_bounds.kp b_law_bounds G_law_places h_law_places F_law_places.kp b_law_places G_named_digit_row h_named_digit_row F_named_digit_row.kp q_named_digit_row G_law_laid h_law_laid F_law_laid.kp b_law_laid m_range m_len m_sum m_tuple m_sorted m_list m_isinstance
  have G_law_turned := ok_law_turned (P := l.prog) (w := w) (base := base) F_law_turned G_digit_row h_digit_row F_digit_row.kp b_digit_row G_least_turning h_least_turning F_least_turning.kp b_least_turning q_least_turning G_named_digit_row h_named_digit_row F_named_digit_row.kp b_named_digit_row G_law_power h_law_power F_law_power.kp b_law_power G_turned_order h_turned_order F_turned_order.kp b_turned_order m_len m_repr m_min
  have G_draw := ok_draw (P := l.prog) (w := w) (base := base) (k := 0) F_draw m_int m_abs
  have G_any := ok_any (P := l.prog) (w := w) (base := base) (k := 0) F_any m_int
  have G_mixed := ok_mixed (P := l.prog) (w := w) (base := base) F_mixed G_any h_any F_any.kp b_any m_list m_len
  exact ok_law done_all F_law G_law_both h_law_both F_law_both.kp b_law_both G_law_turned h_law_turned F_law_turned.kp b_law_turned G_turned_order h_turned_order F_turned_order.kp b_turned_order G_law_laid h_law_laid F_law_laid.kp b_law_laid G_law_places h_law_places F_law_places.kp b_law_places G_law_uniform h_law_uniform F_law_uniform.kp b_law_uniform G_named_digit_row h_named_digit_row F_named_digit_row.kp b_named_digit_row G_draw h_draw F_draw.kp b_draw G_any h_any F_any.kp b_any G_mixed h_mixed F_mixed.kp b_mixed m_len m_sorted m_tuple m_range m_list
end Kx
open PySem PySem.W PyProof.Rows
set_option maxHeartbeats 0 in
theorem PySem.Challenge.cw_fewestpours_k26_whole_digits_both_ways_holds : PySem.Challenge.rw_fewestpours_k26_whole_digits_both_ways.Holds := by
  w_on; o_law; k_head; (case hw => w_witness2)
  k_fill
  refine L2.walk_of (l := PySem.Challenge.rw_fewestpours_k26_whole_digits_both_ways) (n := 63) (k := 9) (x := "_law_script") (CX := fun _ => L2.CX0) (sp := fun w => Kx.spLaw _) rfl (by decide) rfl ⟨rfl, by decide, by decide⟩ (fun w h Y => PySem.W.kIn_of Y) ?F (fun _ _ a ns hl _ hS => ⟨a, ns, rfl, hS, fun _ => rfl⟩) (fun _ _ _ _ _ h => h)
  case F =>
    intro w mg fa h KX G hmg
    refine' Kx.all_mk KX G hmg ?a0 ?l0 ?c0 ?k0 ?a1 ?l1 ?c1 ?k1 ?a2 ?l2 ?c2 ?k2 ?a3 ?l3 ?c3 ?k3 ?a4 ?l4 ?c4 ?k4 ?a5 ?l5 ?c5 ?k5 ?a6 ?l6 ?c6 ?k6 ?a7 ?l7 ?c7 ?k7 ?a8 ?l8 ?c8 ?k8 ?a9 ?l9 ?c9 ?k9 ?a10 ?l10 ?c10 ?k10 ?a11 ?l11 ?c11 ?k11 ?a12 ?l12 ?c12 ?k12 ?a13 ?l13 ?c13 ?k13 ?a14 ?l14 ?c14 ?k14 ?a15 ?l15 ?c15 ?k15 ?a16 ?l16 ?c16 ?k16 ?a17 ?l17 ?c17 ?k17 ?a18 ?l18 ?c18 ?k18 ?a19 ?l19 ?c19 ?k19 ?a20 ?l20 ?c20 ?k20 ?a21 ?l21 ?c21 ?k21 ?a22 ?l22 ?c22 ?k22 ?a23 ?l23 ?c23 ?k23 ?a24 ?l24 ?c24 ?k24 ?a25 ?l25 ?c25 ?k25 ?a26 ?l26 ?c26 ?k26 ?a27 ?l27 ?c27 ?k27 ?a28 ?l28 ?c28 ?k28 ?a29 ?l29 ?c29 ?k29 ?a30 ?l30 ?c30 ?k30 ?a31 ?l31 ?c31 ?k31 ?a32 ?l32 ?c32 ?k32 ?a33 ?l33 ?c33 ?k33 ?a34 ?l34 ?c34 ?k34 ?a35 ?l35 ?c35 ?k35 ?z0 ?z1 ?z2 ?z3 ?z4 ?z5 ?z6 ?z7 ?z8 ?z9 ?z10 ?z11 ?z12 ?z13
    (case a0 => k_is); (case l0 => k_is); (case c0 => k_is); (case k0 => k_is); (case a1 => k_is); (case l1 => k_is); (case c1 => k_is); (case k1 => k_is); (case a2 => k_is); (case l2 => k_is); (case c2 => k_is); (case k2 => k_is); (case a3 => k_is); (case l3 => k_is); (case c3 => k_is); (case k3 => k_is); (case a4 => k_is); (case l4 => k_is); (case c4 => k_is); (case k4 => k_is); (case a5 => k_is); (case l5 => k_is); (case c5 => k_is); (case k5 => k_is); (case a6 => k_is); (case l6 => k_is); (case c6 => k_is); (case k6 => k_is); (case a7 => k_is); (case l7 => k_is); (case c7 => k_is); (case k7 => k_is); (case a8 => k_is); (case l8 => k_is); (case c8 => k_is); (case k8 => k_is); (case a9 => k_is); (case l9 => k_is); (case c9 => k_is); (case k9 => k_is); (case a10 => k_is); (case l10 => k_is); (case c10 => k_is); (case k10 => k_is); (case a11 => k_is); (case l11 => k_is); (case c11 => k_is); (case k11 => k_is); (case a12 => k_is); (case l12 => k_is); (case c12 => k_is); (case k12 => k_is); (case a13 => k_is); (case l13 => k_is); (case c13 => k_is); (case k13 => k_is); (case a14 => k_is); (case l14 => k_is); (case c14 => k_is); (case k14 => k_is); (case a15 => k_is); (case l15 => k_is); (case c15 => k_is); (case k15 => k_is); (case a16 => k_is); (case l16 => k_is); (case c16 => k_is); (case k16 => k_is); (case a17 => k_is); (case l17 => k_is); (case c17 => k_is); (case k17 => k_is); (case a18 => k_is); (case l18 => k_is); (case c18 => k_is); (case k18 => k_is); (case a19 => k_is); (case l19 => k_is); (case c19 => k_is); (case k19 => k_is); (case a20 => k_is); (case l20 => k_is); (case c20 => k_is); (case k20 => k_is); (case a21 => k_is); (case l21 => k_is); (case c21 => k_is); (case k21 => k_is); (case a22 => k_is); (case l22 => k_is); (case c22 => k_is); (case k22 => k_is); (case a23 => k_is); (case l23 => k_is); (case c23 => k_is); (case k23 => k_is); (case a24 => k_is); (case l24 => k_is); (case c24 => k_is); (case k24 => k_is); (case a25 => k_is); (case l25 => k_is); (case c25 => k_is); (case k25 => k_is); (case a26 => k_is); (case l26 => k_is); (case c26 => k_is); (case k26 => k_is); (case a27 => k_is); (case l27 => k_is); (case c27 => k_is); (case k27 => k_is); (case a28 => k_is); (case l28 => k_is); (case c28 => k_is); (case k28 => k_is); (case a29 => k_is); (case l29 => k_is); (case c29 => k_is); (case k29 => k_is); (case a30 => k_is); (case l30 => k_is); (case c30 => k_is); (case k30 => k_is); (case a31 => k_is); (case l31 => k_is); (case c31 => k_is); (case k31 => k_is); (case a32 => k_is); (case l32 => k_is); (case c32 => k_is); (case k32 => k_is); (case a33 => k_is); (case l33 => k_is); (case c33 => k_is); (case k33 => k_is); (case a34 => k_is); (case l34 => k_is); (case c34 => k_is); (case k34 => k_is); (case a35 => k_is); (case l35 => k_is); (case c35 => k_is); (case k35 => k_is); (case z0 => k_is); (case z1 => k_is); (case z2 => k_is); (case z3 => k_is); (case z4 => k_is); (case z5 => k_is); (case z6 => k_is); (case z7 => k_is); (case z8 => k_is); (case z9 => k_is); (case z10 => k_is); (case z11 => k_is); (case z12 => k_is); (case z13 => k_is)

