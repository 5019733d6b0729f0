import PyProof.Rows.All
import Wide.All
import OpenK.AllK
import Wide.FinOn
import HandS.ForMost
import HandS.ForExc
import HandS.Wide
import HandS.WideBits
import HandS.IsInst
import HandS.ExcInit
import HandS.Style
import HandS.Deep
import HandS.Lambda
import HandS.Nested
import HandS.Defaults
import HandS.NoneIn
import HandS.Head0
import HandS.Head1
import HandS.Head2
import HandS.HeadEnd
import HandS.HeadHook1
import HandS.HeadHook2
import HandS.Ends
import HandS.EndBits
import HandS.ExcIs
import HandS.ExcField
import HandS.ExcOwn
import KE.KExcIs
import HandS.EndTab
import HandS.CallLocal
import HandS.Dict
import HandS.Conv
import HandS.Small
import KE.DataMinMax
import KE.SortData
import HandS.ClsMeth
import HandS.SortInts
import HandS.Iter
import PySem.Challenge.RW_formcycle_k03_powered
set_option Elab.async false
set_option linter.all false
set_option linter.unusedSimpArgs false
set_option maxRecDepth 100000

/- DLa -/
namespace DL
/-- a value, with all that hangs on it. obj: an instance (its class's number, its attributes' values in the class's order); fn: a def as a value -/
inductive D where
  | non | bl (b : Bool) | int (i : Int) | str (s : List Nat) | tup (l : List D) | lst (l : List D) | dct (ks vs : List D) | obj (c : Nat) (vs : List D) | fn (k : Nat)
  deriving Inhabited
/-- what a name holds: nothing that is known; a value that nobody changes; a list (a dict) that this def alone holds and may change -/
inductive Sl where
  | un | val (d : D) | own (l : List D) | ownd (ks vs : List D)
  deriving Inhabited
/-- an exception: its class's number, its fields -/
structure Exn where
  cls : Nat
  fs : List D
abbrev Env := List Sl
abbrev DK := Sl → Prop
abbrev DX := Exn → Prop
abbrev DE := Env → DK → DX → Prop
abbrev DA := Env → (List D → Prop) → DX → Prop
/-- a statement: what is wanted behind it, of what is returned, behind break, behind continue, of an exception; the names -/
abbrev DS := (Env → Prop) → DK → (Env → Prop) → (Env → Prop) → (Exn → Env → Prop) → Env → Prop
/-- a def's promise over data -/
abbrev DF := List D → DK → DX → Prop

def Sl.use : Sl → (D → Prop) → Prop
  | .val d, k => k d
  | .own l, k => k (.lst l)
  | .ownd ks vs, k => k (.dct ks vs)
  | .un, _ => False
mutual
def D.imm : D → Bool
  | .non => true
  | .bl _ => true
  | .int _ => true
  | .str _ => true
  | .fn _ => true
  | .tup l => immL l
  | .lst _ => false
  | .dct _ _ => false
  | .obj _ _ => false
def immL : List D → Bool
  | [] => true
  | d :: l => d.imm && immL l
end
def Sl.imm : Sl → Bool
  | .val d => d.imm
  | .own l => immL l
  | _ => false
def Sl.view : Sl → Sl
  | .own l => .val (.lst l)
  | .ownd ks vs => .val (.dct ks vs)
  | s => s
def view (r : Env) : Env := r.map Sl.view

def dC (d : D) : DE := fun _ Q _ => Q (.val d)
def Sl.told : Sl → DK → Prop
  | .val d, q => q (.val d)
  | _, _ => False
def dVar (i : Nat) : DE := fun r Q _ => ((r[i]?).getD .un).told Q
/-- e read while the def's own lists are looked at as values: what comes bears none of them -/
def dView (t : DE) : DE := fun r Q X => t (view r) (fun s => s.imm = true ∧ Q s) fun x => immL x.fs = true ∧ X x
/-- .. of a test -/
def dViewT (t : DE) : DE := fun r Q X => t (view r) Q fun x => immL x.fs = true ∧ X x
def dOp (f : D → D → DK → Prop) (ta tb : DE) : DE := fun r Q X => ta r (fun s => s.use fun x => tb r (fun s' => s'.use fun y => f x y Q) X) X
def dUn (f : D → DK → Prop) (ta : DE) : DE := fun r Q X => ta r (fun s => s.use fun x => f x Q) X
def dAs (f : List D → DK → Prop) (ta : DA) : DE := fun r Q X => ta r (fun xs => f xs Q) X
def dNil : DA := fun _ Q _ => Q []
def dCons (ta : DE) (tr : DA) : DA := fun r Q X => ta r (fun s => s.use fun x => tr r (fun xs => Q (x :: xs)) X) X
/-- a bool -/
def Sl.bool : Sl → (Bool → Prop) → Prop
  | .val (.bl b), k => k b
  | _, _ => False
def two : Bool → Prop → Prop → Prop
  | true, A, _ => A
  | false, _, B => B
def dAnd (ta tb : DE) : DE := fun r Q X => ta r (fun s => s.bool fun b => two b (tb r Q X) (Q (.val (.bl false)))) X
def dOr (ta tb : DE) : DE := fun r Q X => ta r (fun s => s.bool fun b => two b (Q (.val (.bl true))) (tb r Q X)) X
def dNot (ta : DE) : DE := fun r Q X => ta r (fun s => s.bool fun b => Q (.val (.bl (!b)))) X
def dIte (tc ta tb : DE) : DE := fun r Q X => tc r (fun s => s.bool fun b => two b (ta r Q X) (tb r Q X)) X
def dTup (ta : DA) : DE := dAs (fun xs Q => Q (.val (.tup xs))) ta
def dLst (ta : DA) : DE := dAs (fun xs Q => Q (.own xs)) ta
/-- a call of a def -/
def dCall (f : DF) (ta : DA) : DE := fun r Q X => ta r (fun xs => f xs Q X) X
/-- a < b < c: b once -/
def dChain (f g : D → D → (Bool → Prop) → Prop) (ta tb tc : DE) : DE := fun r Q X => ta r (fun s => s.use fun x => tb r (fun s' => s'.use fun y => f x y fun b => two b (tc r (fun s'' => s''.use fun z => g y z fun c => Q (.val (.bl c))) X) (Q (.val (.bl false)))) X) X

/-- how many bits -/
def bits (i : Int) : Nat := if i = 0 then 0 else i.natAbs.log2 + 1
def Sz (i j : Int) : Prop := bits i ≤ 64 ∨ bits j ≤ 64 ∨ bits i + bits j ≤ 134217728
def oAdd : D → D → DK → Prop
  | .int i, .int j, Q => Q (.val (.int (i + j)))
  | .lst a, .lst b, Q => a.length + b.length ≤ 16777216 ∧ Q (.own (a ++ b))
  | .str a, .str b, Q => a.length + b.length ≤ 16777216 ∧ Q (.val (.str (a ++ b)))
  | .tup a, .tup b, Q => (a ≠ [] ∧ b ≠ [] ∧ a.length + b.length ≤ 16777216) ∧ Q (.val (.tup (a ++ b)))
  | _, _, _ => False
def oSub : D → D → DK → Prop
  | .int i, .int j, Q => Q (.val (.int (i - j)))
  | _, _, _ => False
def oMul : D → D → DK → Prop
  | .int i, .int j, Q => Sz i j ∧ Q (.val (.int (i * j)))
  | _, _, _ => False
/-- what // asks: a divisor that is no nought, and that the two are not too great -/
def DivOk (i j : Int) : Prop := j ≠ 0 ∧ (j.natAbs.log2 < 9000 ∨ bits i ≤ bits j + 4000)
def oDiv : D → D → DK → Prop
  | .int i, .int j, Q => DivOk i j ∧ Q (.val (.int (i.fdiv j)))
  | _, _, _ => False
def oMod : D → D → DK → Prop
  | .int i, .int j, Q => j ≠ 0 ∧ Q (.val (.int (i.fmod j)))
  | _, _, _ => False
def oPow : D → D → DK → Prop
  | .int i, .int j, Q => (0 ≤ j ∧ j ≤ 1000000 ∧ i.natAbs < 2 ^ 64) ∧ Q (.val (.int (i ^ j.toNat)))
  | _, _, _ => False
def oShl : D → D → DK → Prop
  | .int i, .int j, Q => (0 ≤ j ∧ (bits i : Int) + j ≤ 134217728) ∧ Q (.val (.int (i * 2 ^ j.toNat)))
  | _, _, _ => False
def oCmp (p : Int → Int → Bool) : D → D → (Bool → Prop) → Prop
  | .int i, .int j, k => k (p i j)
  | _, _, _ => False
def cB (f : D → D → (Bool → Prop) → Prop) : D → D → DK → Prop := fun x y Q => f x y fun b => Q (.val (.bl b))
abbrev bLt : D → D → (Bool → Prop) → Prop := oCmp fun i j => decide (i < j)
abbrev bLe : D → D → (Bool → Prop) → Prop := oCmp fun i j => decide (i ≤ j)
abbrev bGt : D → D → (Bool → Prop) → Prop := oCmp fun i j => decide (j < i)
abbrev bGe : D → D → (Bool → Prop) → Prop := oCmp fun i j => decide (j ≤ i)
mutual
/-- ==, as Python has it: of data alone (no dicts, no objects) -/
def D.eq : D → D → Bool
  | .non, .non => true
  | .bl a, .bl b => a == b
  | .bl a, .int j => (if a then 1 else 0) == j
  | .int i, .bl b => i == (if b then 1 else 0)
  | .int i, .int j => i == j
  | .str a, .str b => a == b
  | .tup a, .tup b => eqL a b
  | .lst a, .lst b => eqL a b
  | _, _ => false
def eqL : List D → List D → Bool
  | [], [] => true
  | a :: l, b :: m => D.eq a b && eqL l m
  | _, _ => false
end
mutual
/-- data that == may be asked of, at most n deep -/
def D.dat : Nat → D → Bool
  | _, .non => true
  | _, .bl _ => true
  | _, .int _ => true
  | _, .str s => s.all fun c => decide (c < 1114112)
  | 0, .tup _ => false
  | n + 1, .tup l => datL n l
  | 0, .lst _ => false
  | n + 1, .lst l => datL n l
  | _, .dct _ _ => false
  | _, .obj _ _ => false
  | _, .fn _ => false
def datL : Nat → List D → Bool
  | _, [] => true
  | n, d :: l => D.dat n d && datL n l
end
def bEq : D → D → (Bool → Prop) → Prop
  | .int a, .int b, k => k (decide (a = b))
  | x, y, k => (x.dat 30 && y.dat 30) = true ∧ k (D.eq x y)
def bNe : D → D → (Bool → Prop) → Prop
  | .int a, .int b, k => k (!decide (a = b))
  | x, y, k => (x.dat 30 && y.dat 30) = true ∧ k (!D.eq x y)
theorem bEq_any {x y : D} {k : Bool → Prop} (h : bEq x y k) : (x.dat 30 = true ∧ y.dat 30 = true) ∧ k (D.eq x y) := by
  cases x <;> cases y <;> first | exact ⟨Bool.and_eq_true_iff.mp h.1, h.2⟩ | exact ⟨⟨rfl, rfl⟩, by rw [show D.eq (.int _) (.int _) = (_ == _) from rfl, Bool.beq_eq_decide_eq]; exact h⟩
theorem bNe_any {x y : D} {k : Bool → Prop} (h : bNe x y k) : (x.dat 30 = true ∧ y.dat 30 = true) ∧ k (!D.eq x y) := by
  cases x <;> cases y <;> first | exact ⟨Bool.and_eq_true_iff.mp h.1, h.2⟩ | exact ⟨⟨rfl, rfl⟩, by rw [show D.eq (.int _) (.int _) = (_ == _) from rfl, Bool.beq_eq_decide_eq]; exact h⟩
def oNeg : D → DK → Prop
  | .int i, Q => Q (.val (.int (-i)))
  | _, _ => False
/-- an index -/
def ixN (n : Nat) (i : Int) : Option Nat := if 0 ≤ i then (if i < n then some i.toNat else none) else if -(n : Int) ≤ i then some (i + n).toNat else none
def ixI (l : List D) : Int → Option D
  | .ofNat n => l[n]?
  | .negSucc n => match l.length - n with
    | 0 => none
    | m + 1 => l[m]?
theorem ixI_eq (l : List D) (i : Int) : ixI l i = (ixN l.length i).bind fun j => l[j]? := by
  unfold ixN
  cases i with
  | ofNat n =>
    show l[n]? = _
    rw [if_pos (show (0 : Int) ≤ Int.ofNat n from Int.natCast_nonneg n)]
    by_cases h : n < l.length
    · rw [if_pos (show Int.ofNat n < (l.length : Int) by show (n : Int) < l.length; omega)]
      rfl
    · rw [if_neg (show ¬ Int.ofNat n < (l.length : Int) by show ¬ (n : Int) < l.length; omega), List.getElem?_eq_none (by omega)]
      rfl
  | negSucc n =>
    show (match l.length - n with | 0 => none | m + 1 => l[m]?) = _
    rw [if_neg (by omega)]
    by_cases h : n < l.length
    · rw [if_pos (by omega)]
      have e : l.length - n = (l.length - n - 1) + 1 := by omega
      have e2 : (Int.negSucc n + (l.length : Int)).toNat = l.length - n - 1 := by omega
      rw [e, e2]
      rfl
    · rw [if_neg (by omega)]
      have e : l.length - n = 0 := by omega
      rw [e]
      rfl
def optD : Option D → (D → Prop) → Prop
  | some d, k => k d
  | none, _ => False
def oIx : D → D → DK → Prop
  | .tup l, .int i, Q => optD (ixI l i) fun d => Q (.val d)
  | .lst l, .int i, Q => optD (ixI l i) fun d => Q (.val d)
  | _, _, _ => False
def D.isNone : D → Bool
  | .non => true
  | _ => false
def oIsN (x : D) (Q : DK) : Prop := Q (.val (.bl x.isNone))
def oNotN (x : D) (Q : DK) : Prop := Q (.val (.bl (!x.isNone)))

def oIsB : D → D → DK → Prop
  | .bl a, .bl b, Q => Q (.val (.bl (decide (a = b))))
  | _, _, _ => False
def oNotB : D → D → DK → Prop
  | .bl a, .bl b, Q => Q (.val (.bl (!decide (a = b))))
  | _, _, _ => False

def fLen : List D → DK → Prop
  | [.tup l], Q => Q (.val (.int l.length))
  | [.lst l], Q => Q (.val (.int l.length))
  | _, _ => False
def fAbs : List D → DK → Prop
  | [.int i], Q => Q (.val (.int (i.natAbs : Int)))
  | _, _ => False
def fMax : List D → DK → Prop
  | [.int i, .int j], Q => Q (.val (.int (if j > i then j else i)))
  | _, _ => False
def fMin : List D → DK → Prop
  | [.int i, .int j], Q => Q (.val (.int (if j < i then j else i)))
  | _, _ => False
def fInt : List D → DK → Prop
  | [.int i], Q => Q (.val (.int i))
  | [.bl b], Q => Q (.val (.int (if b then 1 else 0)))
  | _, _ => False
def fDivmod : List D → DK → Prop
  | [.int i, .int j], Q => DivOk i j ∧ Q (.val (.tup [.int (i.fdiv j), .int (i.fmod j)]))
  | _, _ => False
def D.isInt : D → Bool
  | .int _ => true
  | .bl _ => true
  | _ => false
def D.isBool : D → Bool
  | .bl _ => true
  | _ => false
def D.isTuple : D → Bool
  | .tup _ => true
  | _ => false
def D.isList : D → Bool
  | .lst _ => true
  | _ => false
def D.isStr : D → Bool
  | .str _ => true
  | _ => false
def D.plain : D → Bool
  | .obj _ _ => false
  | .dct _ _ => false
  | .fn _ => false
  | _ => true
/-- isinstance(x, int), .. by its test; of plain data alone -/
def oIsi (p : D → Bool) (x : D) (Q : DK) : Prop := x.plain = true ∧ Q (.val (.bl (p x)))

/-- where a part of a slice lies -/
def sIx (n d : Nat) : Option Int → Nat
  | none => d
  | some v => if v < 0 then (v + (n : Int)).toNat else min v.toNat n
def cutD (l : List D) (lo hi : Option Int) : List D := (l.drop (sIx l.length 0 lo)).take (sIx l.length l.length hi - sIx l.length 0 lo)
abbrev DO := Env → (Option Int → Prop) → DX → Prop
def dNoPart : DO := fun _ k _ => k none
def D.asInt : D → (Int → Prop) → Prop
  | .int i, k => k i
  | _, _ => False
def dPart (t : DE) : DO := fun r k X => t r (fun s => s.use fun d => d.asInt fun i => k (some i)) X
def D.asLst : D → (List D → Prop) → Prop
  | .lst l, k => k l
  | _, _ => False
/-- xs[lo:hi] of a list -/
def dSl (te : DE) (tl th : DO) : DE := fun r Q X => te r (fun s => s.use fun d => tl r (fun lo => th r (fun hi => d.asLst fun l => Q (.own (cutD l lo hi))) X) X) X

def dChain3 (f g h : D → D → (Bool → Prop) → Prop) (ta tb tc td : DE) : DE := fun r Q X => ta r (fun s => s.use fun x => tb r (fun s' => s'.use fun y => f x y fun b => two b (tc r (fun s'' => s''.use fun z => g y z fun c => two c (td r (fun s3 => s3.use fun w => h z w fun d => Q (.val (.bl d))) X) (Q (.val (.bl false)))) X) (Q (.val (.bl false)))) X) X
def oBits : D → DK → Prop
  | .int i, Q => Q (.val (.int (bits i)))
  | _, _ => False
/-- in a list -/
def inD (x : D) (l : List D) : Bool := l.any fun z => D.eq z x
def bIn : D → D → (Bool → Prop) → Prop
  | x, .lst l, k => (x.dat 29 && datL 29 l) = true ∧ k (inD x l)
  | _, _, _ => False
def bNotIn : D → D → (Bool → Prop) → Prop
  | x, .lst l, k => (x.dat 29 && datL 29 l) = true ∧ k (!inD x l)
  | _, _, _ => False
def fList : List D → DK → Prop
  | [.lst l], Q => Q (.own l)
  | [.tup l], Q => Q (.own l)
  | _, _ => False
/-- the first place of an equal one -/
def idxD (y : D) : List D → Option Nat
  | [] => none
  | x :: l => if D.eq x y = true then some 0 else (idxD y l).map (· + 1)
def optN : Option Nat → (Nat → Prop) → Prop
  | some j, k => k j
  | none, _ => False
def one1 : List D → (D → Prop) → Prop
  | [y], k => k y
  | _, _ => False
/-- xs.index(y) -/
def dIndex (ta : DE) (ts : DA) : DE := fun r Q X => ta r (fun s => s.use fun x => x.asLst fun l => ts r (fun xs => one1 xs fun y => (y.dat 29 && datL 29 l) = true ∧ optN (idxD y l) fun j => Q (.val (.int j))) X) X

/-- isinstance(x, C), x a kept exception or None; p: which classes C takes -/
def oIsX (p : Nat → Bool) : D → DK → Prop
  | .non, Q => Q (.val (.bl false))
  | .obj c _, Q => c < 11 ∧ Q (.val (.bl (p c)))
  | _, _ => False
/-- x.f, f the field i of the classes cs -/
def oXf (cs : List Nat) (i : Nat) : D → DK → Prop
  | .obj c us, Q => cs.contains c = true ∧ optD us[i]? fun d => Q (.val d)
  | _, _ => False

/-- a call of what slot i holds: the def numbered j, which keeps f -/
def dCallV (i j : Nat) (f : DF) (ta : DA) : DE := fun r Q X => (r[i]?).getD .un = .val (.fn j) ∧ ta r (fun xs => f xs Q X) X
def dNewD : DE := fun _ Q _ => Q (.ownd [] [])
def D.isI : D → Bool
  | .int _ => true
  | _ => false
/-- what may be a dict's key here: a tuple of at most three whole numbers -/
def D.keyed : D → Bool
  | .tup l => Nat.ble l.length 3 && l.all D.isI
  | _ => false
def bDIn : D → D → (Bool → Prop) → Prop
  | x, .dct ks _, k => x.keyed = true ∧ k (inD x ks)
  | _, _, _ => False
def bDNotIn : D → D → (Bool → Prop) → Prop
  | x, .dct ks _, k => x.keyed = true ∧ k (!inD x ks)
  | _, _, _ => False
/-- what stands at x -/
def lookD (x : D) : List D → List D → Option D
  | k :: ks, v :: vs => if D.eq k x = true then some v else lookD x ks vs
  | _, _ => none
def oDIx : D → D → DK → Prop
  | .dct ks vs, x, Q => x.keyed = true ∧ optD (lookD x ks vs) fun d => Q (.val d)
  | _, _, _ => False
def replD (x v : D) : List D → List D → List D
  | k :: ks, u :: us => (if D.eq k x = true then v else u) :: replD x v ks us
  | _, _ => []
def putKs (x : D) (ks : List D) : List D := if inD x ks = true then ks else ks ++ [x]
def putVs (x v : D) (ks vs : List D) : List D := if inD x ks = true then replD x v ks vs else vs ++ [v]
/-- list(d), the keys -/
def fListD : List D → DK → Prop
  | [.dct ks _], Q => Q (.own ks)
  | _, _ => False
def D.ints : D → Bool
  | .tup l => l.all D.isI
  | _ => false
def D.num : D → Int
  | .int i => i
  | _ => 0
/-- a tuple's numbers -/
def D.nums : D → List Int
  | .tup l => l.map D.num
  | _ => []
def tupI (ns : List Int) : D := .tup (ns.map D.int)
/-- a < b of tuples of whole numbers -/
def bLtT : D → D → (Bool → Prop) → Prop
  | .tup a, .tup b, k => (a.all D.isI && b.all D.isI) = true ∧ k (decide ((D.tup a).nums < (D.tup b).nums))
  | _, _, _ => False
/-- the first least -/
def minL (x : List Int) (l : List (List Int)) : List Int := l.foldl (fun a y => if y < a then y else a) x
def fMinT : List D → DK → Prop
  | [.lst (x :: l)], Q => (x :: l).all D.ints = true ∧ Q (.val (tupI (minL x.nums (l.map D.nums))))
  | _, _ => False
def sortL (l : List (List Int)) : List (List Int) := l.mergeSort fun p q => decide (p ≤ q)
def fSortT : List D → DK → Prop
  | [.lst l], Q => (l.all fun d => d.ints && !d.nums.isEmpty) = true ∧ l.length ≤ 16777216 ∧ Q (.own ((sortL (l.map D.nums)).map tupI))
  | _, _ => False
def fSum : List D → DK → Prop
  | [.lst l], Q => l.all D.isI = true ∧ Q (.val (.int (l.map D.num).sum))
  | _, _ => False
def Sl.ownedD : Sl → (List D → List D → Prop) → Prop
  | .ownd ks vs, k => k ks vs
  | _, _ => False

/-- one item's way: a test, then what is made -/
def dEach (f : D → (Option D → Prop) → Prop) : List D → (List D → Prop) → Prop
  | [], Q => Q []
  | x :: xs, Q => f x fun o => dEach f xs fun ys => Q (match o with | some y => y :: ys | none => ys)
/-- one item's way -/
def oneLc (i : Nat) (tt te : DE) (r : Env) (x : D) (k : Option D → Prop) : Prop := tt (r.set i (.val x)) (fun s => s.bool fun b => two b (te (r.set i (.val x)) (fun s => s.use fun y => k (some y)) fun _ => False) (k none)) fun _ => False
def itemsL : D → (List D → Prop) → Prop
  | .lst l, k => l.length ≤ 16777216 ∧ k l
  | .tup l, k => l.length ≤ 16777216 ∧ k l
  | _, _ => False
/-- [e for x in w if t], x in slot i -/
def dLc (i : Nat) (w : DE) (tt te : DE) : DE := fun r Q X => w r (fun s => s.use fun d => itemsL d fun l => dEach (oneLc i tt te r) l fun ys => Q (.own ys)) X
def dYes : DE := dC (.bl true)
def rangeD (lo hi : Int) : List D := (List.range (hi - lo).toNat).map fun (i : Nat) => D.int (lo + (i : Int))
/-- range(a, b), walked at once -/
def fRange : List D → DK → Prop
  | [.int j], Q => (-(2 ^ 62) ≤ j ∧ j < 2 ^ 62) ∧ Q (.val (.lst (rangeD 0 j)))
  | [.int i, .int j], Q => (-(2 ^ 62) ≤ i ∧ i < 2 ^ 62 ∧ -(2 ^ 62) ≤ j ∧ j < 2 ^ 62) ∧ Q (.val (.lst (rangeD i j)))
  | _, _ => False

def dNext : DS := fun n _ _ _ _ r => n r
def dSeq (t u : DS) : DS := fun n q b c x r => t (fun r' => u n q b c x r') q b c x r
/-- the ways behind t are joined by what holds there -/
def dCut (t u : DS) : DS := fun n q b c x r => ∃ M : Env → Prop, t M q b c x r ∧ ∀ r', M r' → u n q b c x r'
def dSet (i : Nat) (te : DE) : DS := fun n _ _ _ x r => te r (fun s => n (r.set i s)) fun e => x e r
/-- .. a list that comes is never changed -/
def dSetV (i : Nat) (te : DE) : DS := fun n _ _ _ x r => te r (fun s => n (r.set i s.view)) fun e => x e r
/-- x, y, .. = a tuple -/
def setAll : List Nat → List D → Env → Env
  | i :: is, d :: ds, r => setAll is ds (r.set i (.val d))
  | _, _, r => r
def tupOf (m : Nat) : D → (List D → Prop) → Prop
  | .tup l, k => l.length = m ∧ k l
  | _, _ => False
def dUnp (is : List Nat) (te : DE) : DS := fun n _ _ _ x r => te r (fun s => s.use fun d => tupOf is.length d fun l => n (setAll is l r)) fun e => x e r
/-- x, y, .. = a list -/
def lstOf (m : Nat) : D → (List D → Prop) → Prop
  | .lst l, k => l.length = m ∧ k l
  | _, _ => False
def dUnpL (is : List Nat) (te : DE) : DS := fun n _ _ _ x r => te r (fun s => s.use fun d => lstOf is.length d fun l => n (setAll is l r)) fun e => x e r
/-- x, y, .. = e, f, .. -/
def dPar (is : List Nat) (ta : DA) : DS := fun n _ _ _ x r => ta r (fun ds => n (setAll is ds r)) fun e => x e r
def dDrop (te : DE) : DS := fun n _ _ _ x r => te r (fun _ => n r) fun e => x e r
def dRet (te : DE) : DS := fun _ q _ _ x r => te r q fun e => x e r
/-- return of a name that holds a list of the def's own -/
def Sl.given : Sl → DK → Prop
  | .own l, q => q (.own l)
  | .ownd ks vs, q => q (.ownd ks vs)
  | _, _ => False
def slotAt (r : Env) (i : Nat) : Sl := (r[i]?).getD .un
def dRetOwn (i : Nat) : DS := fun _ q _ _ _ r => (slotAt r i).given q
def dRetN : DS := fun _ q _ _ _ _ => q (.val .non)
def dIf (tc : DE) (t u : DS) : DS := fun n q b c x r => tc r (fun s => s.bool fun k => two k (t n q b c x r) (u n q b c x r)) fun e => x e r
def dPass : DS := dNext
def dNever : DS := fun _ _ _ _ _ _ => False
def dBreak : DS := fun _ _ b _ _ r => b r
def dCont : DS := fun _ _ _ c _ r => c r
/-- from here on the list in slot i is a value that nobody changes -/
def frz (i : Nat) (r : Env) : Env := r.set i (slotAt r i).view
def dFrz (i : Nat) (t : DS) : DS := fun n q b c x r => t n q b c x (frz i r)
def dWhile (tc : DE) (tb : DS) : DS := fun n q _ _ x r => ∃ W : Nat → Env → Prop, (∃ m, W m r) ∧ ∀ m r, W m r →
  tc r (fun s => s.bool fun k => two k (tb (fun r' => ∃ m', m' < m ∧ W m' r') q n (fun r' => ∃ m', m' < m ∧ W m' r') x r) (n r)) fun e => x e r
/-- the items one after the other -/
def dEvery (i : Nat) (tb : DS) (n : Env → Prop) (q : DK) (x : Exn → Env → Prop) : List D → Env → Prop
  | [], r => n r
  | d :: ds, r => tb (fun r' => dEvery i tb n q x ds r') q n (fun r' => dEvery i tb n q x ds r') x (r.set i (.val d))
def itemsOf : D → (List D → Prop) → Prop
  | .lst l, k => k l
  | .tup l, k => k l
  | _, _ => False
def dFor (i : Nat) (w : DE) (tb : DS) : DS := fun n q _ _ x r => w r (fun s => s.use fun d => itemsOf d fun l => dEvery i tb n q x l r) fun e => x e r
/-- for x, y, .. in a list of tuples -/
def dEveryU (is : List Nat) (tb : DS) (n : Env → Prop) (q : DK) (x : Exn → Env → Prop) : List D → Env → Prop
  | [], r => n r
  | d :: ds, r => tupOf is.length d fun l => tb (fun r' => dEveryU is tb n q x ds r') q n (fun r' => dEveryU is tb n q x ds r') x (setAll is l r)
def dForU (is : List Nat) (w : DE) (tb : DS) : DS := fun n q _ _ x r => w r (fun s => s.use fun d => itemsOf d fun l => dEveryU is tb n q x l r) fun e => x e r
/-- .. of lists -/
def dEveryUL (is : List Nat) (tb : DS) (n : Env → Prop) (q : DK) (x : Exn → Env → Prop) : List D → Env → Prop
  | [], r => n r
  | d :: ds, r => lstOf is.length d fun l => tb (fun r' => dEveryUL is tb n q x ds r') q n (fun r' => dEveryUL is tb n q x ds r') x (setAll is l r)
def dForUL (is : List Nat) (w : DE) (tb : DS) : DS := fun n q _ _ x r => w r (fun s => s.use fun d => itemsOf d fun l => dEveryUL is tb n q x l r) fun e => x e r
def Sl.owned : Sl → (List D → Prop) → Prop
  | .own l, k => k l
  | _, _ => False
/-- xs.append(e), xs in slot i the def's own -/
def dApp (i : Nat) (te : DE) : DS := fun n _ _ _ x r => (slotAt r i).owned fun l => te r (fun s => s.use fun d => l.length < 16777216 ∧ n (r.set i (.own (l ++ [d])))) fun e => x e r
/-- xs[e] = v, xs in slot i the def's own -/
def dLPut (i : Nat) (tk tv : DE) : DS := fun n _ _ _ x r => (slotAt r i).owned fun l => tv r (fun s => s.use fun v => tk r (fun s' => s'.use fun y => y.asInt fun j => optN (ixN l.length j) fun m => n (r.set i (.own (l.set m v)))) fun e => x e r) fun e => x e r
/-- d[k] = v, d in slot i the def's own -/
def dPut (i : Nat) (tk tv : DE) : DS := fun n _ _ _ x r => (slotAt r i).ownedD fun ks vs => tv r (fun s => s.use fun v => tk r (fun s' => s'.use fun y => (y.keyed = true ∧ ks.length < 16777216) ∧ n (r.set i (.ownd (putKs y ks) (putVs y v ks vs)))) fun e => x e r) fun e => x e r
/-- xs.clear(), xs in slot i the def's own -/
def dClear (i : Nat) : DS := fun n _ _ _ _ r => (slotAt r i).owned fun _ => n (r.set i (.own []))
/-- += of whole numbers -/
def iAdd : D → D → DK → Prop
  | .int i, .int j, Q => Q (.val (.int (i + j)))
  | _, _, _ => False
/-- i op= e -/
def Sl.datum : Sl → (D → Prop) → Prop
  | .val d, k => k d
  | _, _ => False
def dAug (i : Nat) (f : D → D → DK → Prop) (te : DE) : DS := fun n _ _ _ x r => (slotAt r i).datum fun d => te r (fun s => s.use fun y => f d y fun s => n (r.set i s)) fun e => x e r
/-- raise C(e, ..) -/
def dRaise (c : Nat) (ta : DA) : DS := fun _ _ _ _ x r => ta r (fun xs => x ⟨c, xs⟩ r) fun e => x e r

/-- try: t except FormError as (slot i): (slot j) = (slot i) -/
def dTry (i j : Nat) (t : DS) : DS := fun n q b c _ r => t n q b c (fun e r' => e.cls < 11 ∧ n ((r'.set j (.val (.obj e.cls e.fs))).set i .un)) r
/-- a def: its np parameters first, n names in all -/
structure dFun (np n : Nat) (t : DS) (ds : List D) (Q : DK) (X : DX) : Prop where
  len : ds.length = np
  go : t (fun _ => Q (.val .non)) Q (fun _ => False) (fun _ => False) (fun x _ => X x) (ds.map Sl.val ++ List.replicate (n - np) .un)
/-- the def that the object's class has as a method: of class 12, of class 13 -/
def methOf (f g : DF) : D → (DF → Prop) → Prop
  | .obj 12 _, k => k f
  | .obj 13 _, k => k g
  | _, _ => False
/-- o.m(..), by o's class -/
def dMeth (f g : DF) (to : DE) (ta : DA) : DE := fun r Q X => to r (fun s => s.use fun o => methOf f g o fun h => ta r (fun xs => h (o :: xs) Q X) X) X
/-- isinstance(o, C), o an object -/
def oIsO (j : Nat) : D → DK → Prop
  | .obj 12 _, Q => Q (.val (.bl (j == 14 || 12 == j)))
  | .obj 13 _, Q => Q (.val (.bl (j == 14 || 13 == j)))
  | _, _ => False
/-- o.f, f the field i of an object -/
def oFld (i : Nat) : D → DK → Prop
  | .obj 12 us, Q => optD us[i]? fun d => Q (.val d)
  | .obj 13 us, Q => optD us[i]? fun d => Q (.val d)
  | _, _ => False
/-- o.ground -/
def oGround : D → DK → Prop
  | .obj 12 us, Q => optD us[2]? fun d => Q (.val d)
  | _, _ => False
/-- o.ways -/
def oWays : D → DK → Prop
  | .obj 13 us, Q => optD us[2]? fun d => Q (.val d)
  | _, _ => False
/-- a new object of three fields: what it is made with, and what two defs tell of that -/
def mkObj (c : Nat) (f1 f2 : DF) : DF := fun ds Q X => match ds with
  | [d] => f1 [d] (fun s => s.use fun m => f2 [d] (fun s' => s'.use fun g => Q (.val (.obj c [d, m, g]))) X) X
  | _ => False
end DL

/- DLb -/
namespace DL
open PySem PySem.Spec PyProof.Rows L2
abbrev Sg := L2.St
/-- the names of code objects within defs, by their places in the text -/
def lamNm (line _col : Nat) : Str := if line = 33 then "_law_rests.<locals>.<lambda>" else if line = 39 ∨ line = 43 then "law.<locals>.<lambda>" else "power.<locals>.<lambda>"
/-- the table at P: it tells code objects, each with its place's name -/
abbrev TabW (H : Hp) (P : Addr) : Prop := NdefX.TabN H P lamNm
def TabsW (T : List Addr) (H : Hp) : Prop := ∀ P ∈ T, TabW H P
theorem TabsW.ext {T : List Addr} {H H' : Hp} (t : TabsW T H) (e : ∀ b o, H b = some o → H' b = some o) : TabsW T H' := fun P hP => (t P hP).ext e
/-- a lambda of the text: its qualified name, parameters, body, scope, the captured cells -/
structure LamW where
  qual : Str
  params : Arguments
  body : Expr
  scope : Scope
  cl : List (Str × Addr)
/-- the function object of a lambda that has been made; c: its code object -/
def LamO (f c : Addr) (L : LamW) : HO := .ext fun h => ∃ (od : Option Addr) (sl : Array (Option Value)) (pm ctv : Value), h.get? f = some (⟨.type "function", od, .func (PySem.W.kla_fn "<lambda>" L.qual L.params L.body L.scope L.cl pm (.ref c) ctv), sl⟩ : Obj)
/-- the ground: the written part; where the numbered classes and defs stand; their attributes' names; the lambdas (from 100 on); the tables of code objects -/
structure Gx where
  K : PySem.W.Frag
  cm : Nat → Addr
  fnm : Nat → List Str
  lam : Nat → LamW
  tabs : List Addr
/-- what a value of the number k is: a def of the text, a lambda that has been made -/
def FnR (G : Gx) (F : Hp) (k : Nat) (v : V) : Prop := (k < 100 ∧ v = .ref (G.cm k)) ∨ (100 ≤ k ∧ ∃ f c, v = .ref f ∧ F f = some (LamO f c (G.lam k)) ∧ F c = some (LamX.CodeO c (G.lam k).qual))
/-- an exception object that was caught and kept -/
def ExK (cls : Value) (d : Option Addr) (a : Addr) : HO := .ext fun h => ∃ (oe : Obj) (vs : Array Value), h.get? a = some oe ∧ Zc cls d oe ∧ oe.data = .fields vs
def keyD : Key → D
  | .inl i => .int i
  | .inr x => .str x.cps.toList
/-- a tuple of n items; a short one is none of the module's constants -/
def SqTn (K : PySem.W.Frag) (F : Hp) (a : Addr) (vs : List V) (n : Nat) : Prop := SqT K F a vs ∧ (n < 4 → F a = some (.tup vs))
mutual
/-- v, over the part F of the heap that nobody changes, is the datum d -/
def Rep (G : Gx) (F : Hp) : D → V → Prop
  | .non, v => v = .non
  | .bl b, v => v = .bl b
  | .int i, v => v = .int i
  | .str s, v => v = .str ⟨s.toArray⟩
  | .tup l, v => ∃ a vs, v = .ref a ∧ SqTn G.K F a vs l.length ∧ RepL G F l vs
  | .lst l, v => ∃ a vs, v = .ref a ∧ SqL G.K F a vs ∧ RepL G F l vs
  | .dct ks us, v => ∃ a kvs, v = .ref a ∧ Rd F a (.dT kvs) ∧ ks = kvs.map (fun p => D.tup (p.1.map keyD)) ∧ RepL G F us (kvs.map (·.2))
  | .obj c us, v => ∃ a, v = .ref a ∧ ((11 ≤ c ∧ ∃ dx fs, F a = some (.ins (G.cm c) dx fs) ∧ F dx = some (.own a) ∧ fs.map (·.1) = G.fnm c ∧ RepL G F us (fs.map (·.2))) ∨
      c < 11 ∧ ∃ d, F a = some (ExK (.ref (G.cm c)) d a) ∧ ((us = [] ∧ d = none) ∨ ∃ dd fs vs, d = some dd ∧ F dd = some (.xd fs) ∧ RepL G F us vs ∧ ∀ (i : Nat) f v, (G.fnm c)[i]? = some f → vs[i]? = some v → fs.lookup f = some v))
  | .fn k, v => FnR G F k v
def RepL (G : Gx) (F : Hp) : List D → List V → Prop
  | [], vs => vs = []
  | d :: ds, vs => ∃ v r, vs = v :: r ∧ Rep G F d v ∧ RepL G F ds r
end
theorem sqT_mono {K : PySem.W.Frag} {H H' : Hp} {a : Addr} {xs : List V} (e : Same H H') (h : SqT K H a xs) : SqT K H' a xs := by
  rcases h with (h | ⟨o, h⟩) | h
  · exact .inl (.inl (e _ _ h))
  · exact .inl (.inr ⟨o, e _ _ h⟩)
  · exact .inr h
theorem sqL_mono {K : PySem.W.Frag} {H H' : Hp} {a : Addr} {xs : List V} (e : Same H H') (h : SqL K H a xs) : SqL K H' a xs := e.seq h
theorem sqTn_mono {K : PySem.W.Frag} {H H' : Hp} {a : Addr} {xs : List V} {n : Nat} (e : Same H H') (h : SqTn K H a xs n) : SqTn K H' a xs n := ⟨sqT_mono e h.1, fun k => e _ _ (h.2 k)⟩
theorem rd_mono {H H' : Hp} {a : Addr} {u : HO} (e : Same H H') (h : Rd H a u) : Rd H' a u := h.imp (e _ _) fun ⟨o, h⟩ => ⟨o, e _ _ h⟩
theorem FnR.ref {G : Gx} {F : Hp} {k : Nat} {v : V} (h : FnR G F k v) : ∃ a, v = .ref a := by
  rcases h with ⟨_, h⟩ | ⟨_, f, c, h, _⟩ <;> exact ⟨_, h⟩
theorem FnR.mono {G : Gx} {F F' : Hp} (e : Same F F') {k : Nat} {v : V} (h : FnR G F k v) : FnR G F' k v := h.imp id fun ⟨h1, f, c, h2, h3, h4⟩ => ⟨h1, f, c, h2, e _ _ h3, e _ _ h4⟩
mutual
theorem Rep.mono {G : Gx} {F F' : Hp} (e : Same F F') : ∀ (d : D) {v : V}, Rep G F d v → Rep G F' d v
  | .non, _, h => h
  | .bl _, _, h => h
  | .int _, _, h => h
  | .str _, _, h => h
  | .tup l, _, ⟨a, vs, e1, h1, h2⟩ => ⟨a, vs, e1, sqTn_mono e h1, RepL.mono e l h2⟩
  | .lst l, _, ⟨a, vs, e1, h1, h2⟩ => ⟨a, vs, e1, sqL_mono e h1, RepL.mono e l h2⟩
  | .dct _ us, _, ⟨a, kvs, e1, h1, h2, h3⟩ => ⟨a, kvs, e1, rd_mono e h1, h2, RepL.mono e us h3⟩
  | .obj _ us, _, ⟨a, e1, .inl ⟨hc, dx, fs, h1, h2, h3, h4⟩⟩ => ⟨a, e1, .inl ⟨hc, dx, fs, e _ _ h1, e _ _ h2, h3, RepL.mono e us h4⟩⟩
  | .obj _ us, _, ⟨a, e1, .inr ⟨hc, d, h1, .inl h2⟩⟩ => ⟨a, e1, .inr ⟨hc, d, e _ _ h1, .inl h2⟩⟩
  | .obj _ us, _, ⟨a, e1, .inr ⟨hc, d, h1, .inr ⟨dd, fs, vs, h2, h3, h4, h5⟩⟩⟩ => ⟨a, e1, .inr ⟨hc, d, e _ _ h1, .inr ⟨dd, fs, vs, h2, e _ _ h3, RepL.mono e us h4, h5⟩⟩⟩
  | .fn _, _, h => FnR.mono e h
theorem RepL.mono {G : Gx} {F F' : Hp} (e : Same F F') : ∀ (l : List D) {vs : List V}, RepL G F l vs → RepL G F' l vs
  | [], _, h => h
  | d :: ds, _, ⟨v, r, e1, h1, h2⟩ => ⟨v, r, e1, Rep.mono e d h1, RepL.mono e ds h2⟩
end
theorem RepL.length {G : Gx} {F : Hp} : ∀ {l : List D} {vs : List V}, RepL G F l vs → vs.length = l.length
  | [], _, h => by rw [show _ = _ from h]; rfl
  | d :: ds, _, ⟨v, r, e1, _, h2⟩ => by rw [e1]; simp [RepL.length h2]
theorem RepL.get {G : Gx} {F : Hp} : ∀ {l : List D} {vs : List V} {i : Nat} {d : D}, RepL G F l vs → l[i]? = some d → ∃ v, vs[i]? = some v ∧ Rep G F d v
  | [], _, i, d, _, e => by simp at e
  | a :: l, _, 0, d, ⟨v, r, e1, h1, _⟩, e => by
    subst e1
    simp at e; subst e
    exact ⟨v, rfl, h1⟩
  | a :: l, _, i + 1, d, ⟨v, r, e1, _, h2⟩, e => by
    subst e1
    obtain ⟨u, q1, q2⟩ := RepL.get (i := i) h2 (by simpa using e)
    exact ⟨u, by simpa using q1, q2⟩
theorem RepL.append {G : Gx} {F : Hp} : ∀ {l m : List D} {vs us : List V}, RepL G F l vs → RepL G F m us → RepL G F (l ++ m) (vs ++ us)
  | [], _, _, _, h, h' => by rw [show _ = _ from h]; exact h'
  | d :: l, _, _, _, ⟨v, r, e1, h1, h2⟩, h' => by subst e1; exact ⟨v, _, rfl, h1, RepL.append h2 h'⟩
theorem RepL.drop {G : Gx} {F : Hp} : ∀ {l : List D} {vs : List V} (n : Nat), RepL G F l vs → RepL G F (l.drop n) (vs.drop n)
  | _, _, 0, h => h
  | [], _, _ + 1, h => by rw [show _ = _ from h]; exact rfl
  | d :: l, _, n + 1, ⟨v, r, e1, _, h2⟩ => by subst e1; exact RepL.drop (l := l) n h2
theorem RepL.take {G : Gx} {F : Hp} : ∀ {l : List D} {vs : List V} (n : Nat), RepL G F l vs → RepL G F (l.take n) (vs.take n)
  | _, _, 0, h => rfl
  | [], _, _ + 1, h => by rw [show _ = _ from h]; exact rfl
  | d :: l, _, n + 1, ⟨v, r, e1, h1, h2⟩ => by subst e1; exact ⟨v, _, rfl, h1, RepL.take (l := l) n h2⟩

theorem codeO_tbl {c : Addr} {q : Str} (ps : Array Value) : LamX.CodeO c q ≠ .tbl ps := LamX.codeO_ne ps
/-- all but the tables of code objects stays; these stay tables -/
structure Keep (H H' : Hp) : Prop where
  x : LamX.ExtN H H'
  free : ∀ {a}, H' a = none → H a = none
  tab : ∀ P, TabW H P → TabW H' P
theorem Keep.of {H H' : Hp} (e : Same H H') : Keep H H' := ⟨LamX.ExtN.of e, e.free, fun _ t => t.ext e⟩
theorem Keep.refl (H : Hp) : Keep H H := .of (Same.refl _)
theorem Keep.trans {H H1 H2 : Hp} (a : Keep H H1) (b : Keep H1 H2) : Keep H H2 := ⟨a.x.trans b.x, fun z => a.free (b.free z), fun P t => b.tab P (a.tab P t)⟩
theorem Keep.lst {H H' : Hp} (k : Keep H H') {a : Addr} {vs : List V} (h : H a = some (.lst vs)) : H' a = some (.lst vs) := k.x _ _ h fun _ z => nomatch z
theorem Keep.dT {H H' : Hp} (k : Keep H H') {a : Addr} {kvs} (h : H a = some (.dT kvs)) : H' a = some (.dT kvs) := k.x _ _ h fun _ z => nomatch z
/-- an own object is written -/
theorem Keep.write {H0 H : Hp} {p : Addr} {o u : HO} (k : Keep H0 H) (h0 : H0 p = none) (hp : H p = some u) (hu : ∀ ps, u ≠ .tbl ps) (hc : ∀ q, u ≠ LamX.CodeO p q) : Keep H0 (upd H p o) := by
  refine ⟨fun b v z n => ?_, fun {a} z => ?_, fun P t => ?_⟩
  · rw [upd_ne (fun h => by subst h; rw [h0] at z; cases z)]; exact k.x b v z n
  · by_cases hb : a = p
    · subst hb; exact h0
    · rw [upd_ne hb] at z; exact k.free z
  · obtain ⟨ps, h1, h2, h3⟩ := k.tab P t
    refine ⟨ps, by rw [upd_ne (fun h => by subst h; rw [hp] at h1; cases h1; exact hu _ rfl)]; exact h1, h2, fun pos cv hcv => ?_⟩
    obtain ⟨c, e1, e2⟩ := h3 pos cv hcv
    exact ⟨c, e1, by rw [upd_ne (fun h => by subst h; rw [hp] at e2; cases e2; exact hc _ rfl)]; exact e2⟩
theorem rd_keep {H H' : Hp} {a : Addr} {kvs} (k : Keep H H') (h : Rd H a (.dT kvs)) : Rd H' a (.dT kvs) := h.imp k.dT fun ⟨o, h⟩ => ⟨o, k.x _ _ h fun _ z => nomatch z⟩
theorem lst_code {p : Addr} {vs : List V} (q : Str) : (HO.lst vs) ≠ LamX.CodeO p q := fun z => by unfold LamX.CodeO at z; cases z
theorem dT_code {p : Addr} {kvs} (q : Str) : (HO.dT kvs) ≠ LamX.CodeO p q := fun z => by unfold LamX.CodeO at z; cases z
theorem Keep.writeL {H0 H : Hp} {p : Addr} {o : HO} {vs : List V} (k : Keep H0 H) (h0 : H0 p = none) (hp : H p = some (.lst vs)) : Keep H0 (upd H p o) := k.write h0 hp (fun _ z => nomatch z) lst_code
theorem Keep.writeD {H0 H : Hp} {p : Addr} {o : HO} {kvs} (k : Keep H0 H) (h0 : H0 p = none) (hp : H p = some (.dT kvs)) : Keep H0 (upd H p o) := k.write h0 hp (fun _ z => nomatch z) dT_code
/-- own objects are no longer looked at -/
theorem Keep.less {H0 H H1 : Hp} (k : Keep H0 H) (own : Addr → Prop) (h1 : ∀ a, ¬ own a → H1 a = H a) (h2 : ∀ a, own a → H1 a = none ∧ H0 a = none ∧ ∃ u, H a = some u ∧ ((∃ vs, u = .lst vs) ∨ ∃ kvs, u = .dT kvs)) : Keep H0 H1 := by
  have no : ∀ a o, H a = some o → (∀ vs, o ≠ .lst vs) → (∀ kvs, o ≠ .dT kvs) → H1 a = some o := fun a o z n1 n2 => by
    rw [h1 a fun w => ?_]; exact z
    obtain ⟨_, _, u, e, hu⟩ := h2 a w
    rw [z] at e; cases e
    rcases hu with ⟨vs, e⟩ | ⟨vs, e⟩
    · exact n1 vs e
    · exact n2 vs e
  refine ⟨fun a o z n => ?_, fun {a} z => ?_, fun P t => ?_⟩
  · rw [h1 a fun w => by rw [(h2 a w).2.1] at z; cases z]; exact k.x a o z n
  · rcases Classical.em (own a) with w | w
    · exact (h2 a w).2.1
    · rw [h1 a w] at z; exact k.free z
  · obtain ⟨ps, e1, e2, e3⟩ := k.tab P t
    refine ⟨ps, no _ _ e1 (fun _ z => nomatch z) (fun _ z => nomatch z), e2, fun pos cv hcv => ?_⟩
    obtain ⟨c, g1, g2⟩ := e3 pos cv hcv
    exact ⟨c, g1, no _ _ g2 (fun _ z => by unfold LamX.CodeO at z; cases z) (fun _ z => by unfold LamX.CodeO at z; cases z)⟩
/-- two heaps that differ at one place, which is no table and no code object -/
theorem tabS_but {H H' : Hp} {P d : Addr} (t : TabW H P) (h : ∀ b, b ≠ d → H' b = H b) (hd : ∀ ps, H d ≠ some (.tbl ps)) (hc : ∀ q, H d ≠ some (LamX.CodeO d q)) : TabW H' P := by
  obtain ⟨ps, e1, e2, e3⟩ := t
  refine ⟨ps, by rw [h _ fun z => hd ps (by rw [← z]; exact e1)]; exact e1, e2, fun pos cv hcv => ?_⟩
  obtain ⟨c, g1, g2⟩ := e3 pos cv hcv
  exact ⟨c, g1, by rw [h _ fun z => hc _ (by rw [← z]; exact g2)]; exact g2⟩
structure Ext (F H F' H' : Hp) : Prop where
  f : Same F F'
  fh : Same F' H'
  h : Keep H H'
  new : ∀ a o, F' a = some o → F a = some o ∨ H a = none ∨ (∃ xs, o = .tup xs) ∨ ∃ q, o = LamX.CodeO a q
/-- the tables are known, and they are no part of what nobody changes -/
def TabsF (T : List Addr) (F H : Hp) : Prop := ∀ P ∈ T, TabW H P ∧ F P = none
theorem hid_tab {F H F' H' : Hp} {P : Addr} (fh : Same F' H') (new : ∀ a o, F' a = some o → F a = some o ∨ H a = none ∨ (∃ xs, o = .tup xs) ∨ ∃ q, o = LamX.CodeO a q) (t : TabW H P) (t' : TabW H' P) (n : F P = none) : F' P = none := by
  cases q : F' P with
  | none => rfl
  | some o =>
    obtain ⟨ps, h1, _⟩ := t
    obtain ⟨ps', h2, _⟩ := t'
    have y := fh _ _ q
    rw [h2] at y; cases y
    rcases new P _ q with z | z | ⟨xs, z⟩ | ⟨q', z⟩
    · rw [n] at z; cases z
    · rw [h1] at z; cases z
    · cases z
    · exact (codeO_tbl ps' z.symm).elim
theorem TabsF.ext {T : List Addr} {F H F' H' : Hp} (t : TabsF T F H) (e : Ext F H F' H') : TabsF T F' H' := fun P hP => ⟨e.h.tab P (t P hP).1, hid_tab e.fh e.new (t P hP).1 (e.h.tab P (t P hP).1) (t P hP).2⟩
theorem Ext.refl {F H : Hp} (e : Same F H) : Ext F H F H := ⟨Same.refl _, e, Keep.refl _, fun _ _ q => .inl q⟩
theorem Ext.trans {F H F1 H1 F2 H2 : Hp} (a : Ext F H F1 H1) (b : Ext F1 H1 F2 H2) : Ext F H F2 H2 :=
  ⟨a.f.trans b.f, b.fh, a.h.trans b.h, fun c o q => (b.new c o q).elim (fun z => a.new c o z) fun z => .inr (z.imp a.h.free id)⟩
theorem same_upd {H : Hp} {p : Addr} {o : HO} (n : H p = none) : Same H (upd H p o) := fun b u e => by
  rw [upd_ne (ne_of_none e n)]; exact e
theorem Ext.put {F H : Hp} {p : Addr} {o : HO} (e : Same F H) (n : H p = none) : Ext F H (upd F p o) (upd H p o) :=
  ⟨same_upd (e.free n), fun b u q => by
    by_cases hb : b = p
    · subst hb; rw [upd_same] at q ⊢; exact q
    · rw [upd_ne hb] at q ⊢; exact e b u q, .of (same_upd n), fun a u q => by
    by_cases hb : a = p
    · subst hb; exact .inr (.inl n)
    · rw [upd_ne hb] at q; exact .inl q⟩
/-- a new object that stays the def's own -/
theorem Ext.lay {F H : Hp} {p : Addr} {o : HO} (e : Same F H) (n : H p = none) : Ext F H F (upd H p o) :=
  ⟨Same.refl _, e.trans (same_upd n), .of (same_upd n), fun _ _ q => .inl q⟩
/-- a value that has come -/
def PV (G : Gx) (F H : Hp) (s : Sl) (v : V) (F' H' : Hp) : Prop := match s with
  | .un => False
  | .val d => Rep G F' d v
  | .own l => ∃ p vs, v = .ref p ∧ H' p = some (.lst vs) ∧ F' p = none ∧ H p = none ∧ RepL G F' l vs
  | .ownd ks us => ∃ p kvs, v = .ref p ∧ H' p = some (.dT kvs) ∧ F' p = none ∧ H p = none ∧ ks = kvs.map (fun q => D.tup (q.1.map keyD)) ∧ RepL G F' us (kvs.map (·.2))
structure Post (G : Gx) (F H : Hp) (s : Sl) (v : V) (F' H' : Hp) : Prop where
  e : Ext F H F' H'
  v : PV G F H s v F' H'
theorem Post.val {G : Gx} {F H F' H' : Hp} {d : D} {v : V} (e : Ext F H F' H') (r : Rep G F' d v) : Post G F H (.val d) v F' H' := ⟨e, r⟩
theorem Post.after {G : Gx} {F H F1 H1 F2 H2 : Hp} {s : Sl} {v : V} (p : Post G F1 H1 s v F2 H2) (e : Ext F H F1 H1) : Post G F H s v F2 H2 := by
  refine ⟨e.trans p.e, ?_⟩
  have q := p.v
  cases s with
  | un => exact q
  | val d => exact q
  | own l => obtain ⟨a, vs, h1, h2, h3, h4, h5⟩ := q; exact ⟨a, vs, h1, h2, h3, e.h.free h4, h5⟩
  | ownd ks us => obtain ⟨a, vs, h1, h2, h3, h4, h5⟩ := q; exact ⟨a, vs, h1, h2, h3, e.h.free h4, h5⟩
/-- as a value that nobody changes -/
theorem Post.use {G : Gx} {F H F' H' : Hp} {s : Sl} {v : V} {k : D → Prop} (p : Post G F H s v F' H') (h : s.use k) : ∃ d F'', Ext F H F'' H' ∧ Rep G F'' d v ∧ k d := by
  have q := p.v
  have e := p.e
  cases s with
  | un => exact h.elim
  | val d => exact ⟨d, F', p.e, q, h⟩
  | own l =>
    obtain ⟨a, vs, rfl, h2, h3, h4, h5⟩ := q
    refine ⟨.lst l, upd F' a (.lst vs), ⟨e.f.trans (same_upd h3), fun b u z => ?_, e.h, fun b u z => ?_⟩, ⟨a, vs, rfl, .inl (.inl upd_same), RepL.mono (same_upd h3) l h5⟩, h⟩
    · by_cases hb : b = a
      · subst hb; rw [upd_same] at z; cases z; exact h2
      · rw [upd_ne hb] at z; exact e.fh b u z
    · by_cases hb : b = a
      · subst hb; exact .inr (.inl h4)
      · rw [upd_ne hb] at z; exact e.new b u z
  | ownd ks us =>
    obtain ⟨a, kvs, rfl, h2, h3, h4, h5, h6⟩ := q
    refine ⟨.dct ks us, upd F' a (.dT kvs), ⟨e.f.trans (same_upd h3), fun b u z => ?_, e.h, fun b u z => ?_⟩, ⟨a, kvs, rfl, .inl upd_same, h5, RepL.mono (same_upd h3) us h6⟩, h⟩
    · by_cases hb : b = a
      · subst hb; rw [upd_same] at z; cases z; exact h2
      · rw [upd_ne hb] at z; exact e.fh b u z
    · by_cases hb : b = a
      · subst hb; exact .inr (.inl h4)
      · rw [upd_ne hb] at z; exact e.new b u z

def SlR (G : Gx) (F H H0 : Hp) (o : Option (Option V)) : Sl → Prop
  | .un => True
  | .val d => ∃ v, o = some (some v) ∧ Rep G F d v
  | .own l => ∃ p vs, o = some (some (.ref p)) ∧ H p = some (.lst vs) ∧ F p = none ∧ H0 p = none ∧ RepL G F l vs
  | .ownd ks us => ∃ p kvs, o = some (some (.ref p)) ∧ H p = some (.dT kvs) ∧ F p = none ∧ H0 p = none ∧ ks = kvs.map (fun q => D.tup (q.1.map keyD)) ∧ RepL G F us (kvs.map (·.2))
def Sl.owns : Sl → Bool
  | .own _ => true
  | .ownd _ _ => true
  | _ => false
structure SRep (G : Gx) (F0 H0 F H : Hp) (σ : Sg) (ρ : Env) : Prop where
  len : σ.length = ρ.length
  t0 : TabsF G.tabs F0 H0
  e : Ext F0 H0 F H
  sl : ∀ (i : Nat) s, ρ[i]? = some s → SlR G F H H0 σ[i]? s
  dis : ∀ (i j : Nat) s t p, ρ[i]? = some s → ρ[j]? = some t → s.owns = true → t.owns = true → σ[i]? = some (some (V.ref p)) → σ[j]? = some (some (V.ref p)) → i = j
theorem SlR.own_at {G : Gx} {F H H0 : Hp} {o : Option (Option V)} {s : Sl} (h : SlR G F H H0 o s) (w : s.owns = true) : ∃ p u, o = some (some (.ref p)) ∧ H p = some u ∧ F p = none ∧ H0 p = none ∧ ((∃ vs, u = .lst vs) ∨ ∃ kvs, u = .dT kvs) := by
  cases s with
  | un => cases w
  | val d => cases w
  | own l => obtain ⟨p, vs, h1, h2, h3, h4, _⟩ := h; exact ⟨p, _, h1, h2, h3, h4, .inl ⟨vs, rfl⟩⟩
  | ownd ks us => obtain ⟨p, kvs, h1, h2, h3, h4, _⟩ := h; exact ⟨p, _, h1, h2, h3, h4, .inr ⟨kvs, rfl⟩⟩
theorem Ext.hiddenW {F H F' H' : Hp} {p : Addr} {u : HO} (e : Ext F H F' H') (n : F p = none) (h : H p = some u) (w1 : ∀ xs, u ≠ .tup xs) (w2 : ∀ ps, u ≠ .tbl ps) (w3 : ∀ q, u ≠ LamX.CodeO p q) : F' p = none := by
  cases q : F' p with
  | none => rfl
  | some o =>
    have y := e.fh _ _ q
    have y2 : H' p = some u := e.h.x _ _ h w2
    rw [y2] at y
    cases y
    rcases e.new p u q with z | z | ⟨xs, z⟩ | ⟨q', z⟩
    · rw [n] at z; cases z
    · rw [h] at z; cases z
    · exact (w1 xs z).elim
    · exact (w3 q' z).elim
theorem Ext.hidden {F H F' H' : Hp} {p : Addr} {u : HO} (e : Ext F H F' H') (n : F p = none) (h : H p = some u) (w : (∃ vs, u = .lst vs) ∨ ∃ kvs, u = .dT kvs) : F' p = none :=
  e.hiddenW n h (fun _ z => by rcases w with ⟨_, rfl⟩ | ⟨_, rfl⟩ <;> cases z) (fun _ z => by rcases w with ⟨_, rfl⟩ | ⟨_, rfl⟩ <;> cases z) fun _ z => by
    unfold LamX.CodeO at z
    rcases w with ⟨_, rfl⟩ | ⟨_, rfl⟩ <;> cases z
theorem SRep.ext {G : Gx} {F0 H0 F H F' H' : Hp} {σ : Sg} {ρ : Env} (S : SRep G F0 H0 F H σ ρ) (e : Ext F H F' H') : SRep G F0 H0 F' H' σ ρ := by
  refine ⟨S.len, S.t0, S.e.trans e, fun i s q => ?_, S.dis⟩
  have z := S.sl i s q
  cases s with
  | un => trivial
  | val d => obtain ⟨v, h1, h2⟩ := z; exact ⟨v, h1, Rep.mono e.f d h2⟩
  | own l => obtain ⟨p, vs, h1, h2, h3, h4, h5⟩ := z; exact ⟨p, vs, h1, e.h.lst h2, e.hidden h3 h2 (.inl ⟨_, rfl⟩), h4, RepL.mono e.f l h5⟩
  | ownd ks us => obtain ⟨p, vs, h1, h2, h3, h4, h5, h6⟩ := z; exact ⟨p, vs, h1, e.h.dT h2, e.hidden h3 h2 (.inr ⟨_, rfl⟩), h4, h5, RepL.mono e.f us h6⟩
/-- a value comes into slot i -/
theorem SRep.set {G : Gx} {F0 H0 F H F' H' : Hp} {σ : Sg} {ρ : Env} {s : Sl} {v : V} (S : SRep G F0 H0 F H σ ρ) (i : Nat) (p : Post G F H s v F' H') : SRep G F0 H0 F' H' (σ.set i (some v)) (ρ.set i s) := by
  have S' := S.ext p.e
  have hl := S.len
  have pv := p.v
  have other : ∀ {j : Nat} {t : Sl} {q : Addr}, ρ[j]? = some t → t.owns = true → σ[j]? = some (some (V.ref q)) → s.owns = true → v = .ref q → False := fun {j t q} h1 h2 h3 h4 h5 => by
    obtain ⟨p', u, z1, z2, z3, z4, _⟩ := (S.sl j t h1).own_at h2
    rw [h3] at z1; cases z1
    cases s with
    | un => cases h4
    | val d => cases h4
    | own l => obtain ⟨a, vs, e1, _, _, e4, _⟩ := pv; rw [h5] at e1; cases e1; rw [z2] at e4; cases e4
    | ownd l ws => obtain ⟨a, vs, e1, _, _, e4, _⟩ := pv; rw [h5] at e1; cases e1; rw [z2] at e4; cases e4
  refine ⟨by simpa using hl, S'.t0, S'.e, fun j t q => ?_, fun j k t t' q h1 h2 w1 w2 z1 z2 => ?_⟩
  · by_cases hj : i = j
    · subst hj
      by_cases hi : i < ρ.length
      · rw [List.getElem?_set_self hi] at q; cases q
        rw [List.getElem?_set_self (by omega)]
        cases s with
        | un => trivial
        | val d => exact ⟨v, rfl, pv⟩
        | own l => obtain ⟨a, vs, e1, e2, e3, e4, e5⟩ := pv; exact ⟨a, vs, by rw [e1], e2, e3, S.e.h.free e4, e5⟩
        | ownd l ws => obtain ⟨a, vs, e1, e2, e3, e4, e5⟩ := pv; exact ⟨a, vs, by rw [e1], e2, e3, S.e.h.free e4, e5⟩
      · rw [List.getElem?_eq_none (by simpa using hi)] at q; cases q
    · rw [List.getElem?_set_ne hj] at q ⊢
      exact S'.sl j t q
  · by_cases hj : i = j
    · by_cases hk : i = k
      · exact hj.symm.trans hk
      · subst hj
        have hi : i < ρ.length := by
          by_cases hi : i < ρ.length
          · exact hi
          · rw [List.getElem?_eq_none (by simpa using hi)] at h1; cases h1
        rw [List.getElem?_set_self hi] at h1; cases h1
        rw [List.getElem?_set_ne hk] at h2 z2
        rw [List.getElem?_set_self (by omega)] at z1
        exact (other h2 w2 z2 w1 (by cases z1; rfl)).elim
    · by_cases hk : i = k
      · subst hk
        have hi : i < ρ.length := by
          by_cases hi : i < ρ.length
          · exact hi
          · rw [List.getElem?_eq_none (by simpa using hi)] at h2; cases h2
        rw [List.getElem?_set_self hi] at h2; cases h2
        rw [List.getElem?_set_ne hj] at h1 z1
        rw [List.getElem?_set_self (by omega)] at z2
        exact (other h1 w1 z1 w2 (by cases z2; rfl)).elim
      · rw [List.getElem?_set_ne hj] at h1 z1
        rw [List.getElem?_set_ne hk] at h2 z2
        exact S.dis j k t t' q h1 h2 w1 w2 z1 z2
theorem SRep.tabs {G : Gx} {F0 H0 F H : Hp} {σ : Sg} {ρ : Env} (S : SRep G F0 H0 F H σ ρ) : TabsF G.tabs F H := S.t0.ext S.e
theorem SRep.same {G : Gx} {F0 H0 F H : Hp} {σ : Sg} {ρ : Env} (S : SRep G F0 H0 F H σ ρ) : Same F H := S.e.fh

/-- the exception x: its class, its own dict -/
def XRep (G : Gx) (F' : Hp) (x : Exn) (cls : Value) (d : Option Addr) (H' : Hp) : Prop :=
  cls = .ref (G.cm x.cls) ∧ ((x.fs = [] ∧ d = none) ∨ ∃ dd fs vs, d = some dd ∧ F' dd = some (.xd fs) ∧ RepL G F' x.fs vs ∧ ∀ (i : Nat) f v, (G.fnm x.cls)[i]? = some f → vs[i]? = some v → fs.lookup f = some v)
def XWish (G : Gx) (W : WX) (F H : Hp) (σ : Sg) (QX : DX) : Prop := ∀ x, QX x → ∀ cls d F' H', Ext F H F' H' → XRep G F' x cls d H' → W cls d σ H'
theorem XWish.ext {G : Gx} {W : WX} {F H F1 H1 : Hp} {σ : Sg} {QX : DX} (h : XWish G W F H σ QX) (e : Ext F H F1 H1) : XWish G W F1 H1 σ QX := fun x q cls d F' H' e' r => h x q cls d F' H' (e.trans e') r
theorem XWish.none {G : Gx} {W : WX} {F H : Hp} {σ : Sg} : XWish G W F H σ fun _ => False := fun _ q => q.elim

def LE (G : Gx) (W : WX) (t : DE) (T : TE) : Prop := ∀ F0 H0 (ρ : Env) F σ H (Q : DK) (QX : DX) (QV : VK), SRep G F0 H0 F H σ ρ → t ρ Q QX → (∀ s v F' H', Post G F H s v F' H' → Q s → QV v H') → XWish G W F H σ QX → T σ H QV
def LT (G : Gx) (W : WX) (t : DE) (T : TT) : Prop := ∀ F0 H0 (ρ : Env) F σ H (k : Bool → Prop) (QX : DX) (QV : Bool → Hp → Prop), SRep G F0 H0 F H σ ρ → t ρ (fun s => s.bool k) QX → (∀ b F' H', Ext F H F' H' → k b → QV b H') → XWish G W F H σ QX → T σ H QV
def LA (G : Gx) (W : WX) (n : Nat) (t : DA) (T : TA) : Prop := ∀ F0 H0 (ρ : Env) F σ H (Q : List D → Prop) (QX : DX) (QV : List V → Hp → Prop), SRep G F0 H0 F H σ ρ → t ρ Q QX → (∀ ds vs F' H', Ext F H F' H' → RepL G F' ds vs → ds.length = n → Q ds → QV vs H') → XWish G W F H σ QX → T σ H QV
/-- what is wanted, over data -/
structure DEnds where
  nx : Env → Prop
  rt : DK
  bk : Env → Prop
  ct : Env → Prop
  xc : Exn → Env → Prop
abbrev at_ (t : DS) (N : DEnds) (r : Env) : Prop := t N.nx N.rt N.bk N.ct N.xc r
structure ERel (G : Gx) (W : WX) (F0 H0 : Hp) (N : DEnds) (D' : Ends) : Prop where
  nx : ∀ ρ F σ H, SRep G F0 H0 F H σ ρ → N.nx ρ → D'.nx σ H
  bk : ∀ ρ F σ H, SRep G F0 H0 F H σ ρ → N.bk ρ → D'.bk σ H
  ct : ∀ ρ F σ H, SRep G F0 H0 F H σ ρ → N.ct ρ → D'.ct σ H
  rt : ∀ s v F H, Post G F0 H0 s v F H → N.rt s → D'.rt v H
  xc : ∀ x ρ F σ H cls d, SRep G F0 H0 F H σ ρ → N.xc x ρ → XRep G F x cls d H → W cls d σ H
def LS (G : Gx) (W : WX) (t : DS) (T : TS) : Prop := ∀ F0 H0 (ρ : Env) F σ H (N : DEnds) (D' : Ends), SRep G F0 H0 F H σ ρ → ERel G W F0 H0 N D' → at_ t N ρ → T D' σ H
theorem ERel.xw {G : Gx} {W : WX} {F0 H0 F H : Hp} {N : DEnds} {D' : Ends} {ρ : Env} {σ : Sg} (E : ERel G W F0 H0 N D') (S : SRep G F0 H0 F H σ ρ) : XWish G W F H σ fun x => N.xc x ρ :=
  fun x q cls d F' H' e r => E.xc x ρ F' σ H' cls d (S.ext e) q r
/-- by values -/
def LR2 (G : Gx) (f : D → D → DK → Prop) (r : R2) : Prop := ∀ F H x y u v (Q : DK) (QV : VK), Same F H → Rep G F x u → Rep G F y v → f x y Q → (∀ s w F' H', Post G F H s w F' H' → Q s → QV w H') → r u v H QV
def LR1 (G : Gx) (f : D → DK → Prop) (r : V → Hp → VK → Prop) : Prop := ∀ F H x u (Q : DK) (QV : VK), Same F H → Rep G F x u → f x Q → (∀ s w F' H', Post G F H s w F' H' → Q s → QV w H') → r u H QV
def LRs (G : Gx) (f : List D → DK → Prop) (r : List V → Hp → VK → Prop) : Prop := ∀ F H xs us (Q : DK) (QV : VK), Same F H → RepL G F xs us → f xs Q → (∀ s w F' H', Post G F H s w F' H' → Q s → QV w H') → r us H QV

section
variable {G : Gx} {W : WX} {ta tb tc : DE} {Ta Tb Tc : TE} {ts : DA} {Ts : TA} {CA CB : TT}
theorem LE.v {F0 H0 : Hp} {ρ : Env} {F : Hp} {σ : Sg} {H : Hp} {k : D → Prop} {QX : DX} {QV : VK} (h : LE G W ta Ta) (S : SRep G F0 H0 F H σ ρ) (q : ta ρ (fun s => s.use k) QX) (hq : ∀ d v F' H', Ext F H F' H' → Rep G F' d v → k d → QV v H') (hx : XWish G W F H σ QX) : Ta σ H QV :=
  h F0 H0 ρ F σ H _ QX QV S q (fun s v F' H' p u => by
    obtain ⟨d, F'', e, r, kd⟩ := p.use u
    exact hq d v F'' H' e r kd) hx
theorem le_c {d : D} {v : V} (r : ∀ F, Rep G F d v) : LE G W (dC d) (tC v) := fun F0 H0 ρ F σ H Q QX QV S q hq _ => hq _ _ F H (.val (.refl S.same) (r F)) q
theorem le_var {i : Nat} : LE G W (dVar i) (tVar i) := fun F0 H0 ρ F σ H Q QX QV S q hq _ => by
  unfold dVar at q
  cases hs : ρ[i]? with
  | none => rw [hs] at q; exact q.elim
  | some s =>
    rw [hs] at q
    cases s with
    | val d =>
      obtain ⟨v, h1, h2⟩ := S.sl i _ hs
      exact ⟨v, h1, hq _ v F H (.val (.refl S.same) h2) q⟩
    | _ => exact q.elim
theorem le_op {f : D → D → DK → Prop} {r : R2} (hf : LR2 G f r) (ha : LE G W ta Ta) (hb : LE G W tb Tb) : LE G W (dOp f ta tb) (tOp r Ta Tb) := fun F0 H0 ρ F σ H Q QX QV S q hq hx =>
  ha.v S q (fun x u F1 H1 e1 r1 q1 => hb.v (S.ext e1) q1 (fun y v F2 H2 e2 r2 q2 =>
    hf F2 H2 x y u v Q QV e2.fh (Rep.mono e2.f x r1) r2 q2 fun s w F3 H3 p q => hq s w F3 H3 (p.after (e1.trans e2)) q) (hx.ext e1)) hx
theorem le_un {f : D → DK → Prop} {r : V → Hp → VK → Prop} (hf : LR1 G f r) (ha : LE G W ta Ta) : LE G W (dUn f ta) (tUn r Ta) := fun F0 H0 ρ F σ H Q QX QV S q hq hx =>
  ha.v S q (fun x u F1 H1 e1 r1 q1 => hf F1 H1 x u Q QV e1.fh r1 q1 fun s w F3 H3 p q => hq s w F3 H3 (p.after e1) q) hx
theorem la_nil : LA G W 0 dNil tNil := fun F0 H0 ρ F σ H Q QX QV S q hq _ => hq [] [] F H (.refl S.same) (rfl : ([] : List V) = []) rfl q
theorem la_cons {n : Nat} (ha : LE G W ta Ta) (hr : LA G W n ts Ts) : LA G W (n + 1) (dCons ta ts) (tCons Ta Ts) := fun F0 H0 ρ F σ H Q QX QV S q hq hx =>
  ha.v S q (fun x u F1 H1 e1 r1 q1 => hr F0 H0 ρ F1 σ H1 _ QX _ (S.ext e1) q1 (fun ds vs F2 H2 e2 r2 l2 q2 => hq (x :: ds) (u :: vs) F2 H2 (e1.trans e2) ⟨u, vs, rfl, Rep.mono e2.f x r1, r2⟩ (by simp [l2]) q2) (hx.ext e1)) hx
theorem le_as {n : Nat} {f : List D → DK → Prop} {r : List V → Hp → VK → Prop} (hf : LRs G f r) (ha : LA G W n ts Ts) : LE G W (dAs f ts) (tCB r Ts) := fun F0 H0 ρ F σ H Q QX QV S q hq hx =>
  ha F0 H0 ρ F σ H _ QX _ S q (fun ds vs F1 H1 e1 r1 _ q1 => hf F1 H1 ds vs Q QV e1.fh r1 q1 fun s w F3 H3 p q => hq s w F3 H3 (p.after e1) q) hx
theorem small16 {n : Nat} (h : Nat.ble n 16777216 = true) : n ≤ sizeLine := by
  rw [sizeLine_eq]; exact Nat.le_of_ble_eq_true h
theorem le_tup {n : Nat} (ha : LA G W n ts Ts) (h16 : Nat.ble n 16777216 = true := by rfl) : LE G W (dTup ts) (tTup Ts) := fun F0 H0 ρ F σ H Q QX QV S q hq hx =>
  ha F0 H0 ρ F σ H _ QX _ S q (fun ds vs F1 H1 e1 r1 l1 q1 => ⟨by rw [r1.length, l1]; exact small16 h16, fun p hp =>
    hq _ _ (upd F1 p (.tup vs)) (upd H1 p (.tup vs)) (.val (e1.trans (.put e1.fh hp)) (by unfold Rep; exact ⟨p, vs, rfl, ⟨.inl (.inl upd_same), fun _ => upd_same⟩, RepL.mono (same_upd (e1.fh.free hp)) ds r1⟩)) q1⟩) hx
theorem Post.mkOwn {F H F1 H1 : Hp} {l : List D} {vs : List V} {p : Addr} (e : Ext F H F1 H1) (hp : H1 p = none) (r : RepL G F1 l vs) : Post G F H (.own l) (.ref p) F1 (upd H1 p (.lst vs)) :=
  ⟨e.trans (.lay e.fh hp), p, vs, rfl, upd_same, e.fh.free hp, e.h.free hp, r⟩
theorem le_lst {n : Nat} (ha : LA G W n ts Ts) (h16 : Nat.ble n 16777216 = true := by rfl) : LE G W (dLst ts) (tLst Ts) := fun F0 H0 ρ F σ H Q QX QV S q hq hx =>
  ha F0 H0 ρ F σ H _ QX _ S q (fun ds vs F1 H1 e1 r1 l1 q1 => ⟨by rw [r1.length, l1]; exact small16 h16, fun p hp => hq _ _ F1 _ (.mkOwn e1 hp r1) q1⟩) hx

theorem lt_val (ha : LE G W ta Ta) : LT G W ta (tTest Ta) := fun F0 H0 ρ F σ H k QX QV S q hq hx =>
  ha F0 H0 ρ F σ H _ QX _ S q (fun s v F1 H1 p q1 => by
    cases s with
    | val d =>
      cases d with
      | bl b => exact ⟨b, p.v, hq b F1 H1 p.e q1⟩
      | _ => exact q1.elim
    | _ => exact q1.elim) hx
theorem lt_valB (ha : LE G W ta Ta) : LT G W ta (tB Ta) := lt_val ha
theorem two_if {b : Bool} {A B A' B' : Prop} (h : two b A B) (ha : A → A') (hb : B → B') : if b = true then A' else B' := by
  cases b with
  | true => rw [if_pos rfl]; exact ha h
  | false => rw [if_neg Bool.false_ne_true]; exact hb h
theorem lt_and (ha : LT G W ta CA) (hb : LT G W tb CB) : LT G W (dAnd ta tb) (tAnd CA CB) := fun F0 H0 ρ F σ H k QX QV S q hq hx =>
  ha F0 H0 ρ F σ H _ QX _ S q (fun b F1 H1 e1 q1 => two_if q1 (fun z => hb F0 H0 ρ F1 σ H1 _ QX _ (S.ext e1) z (fun c F2 H2 e2 q2 => hq c F2 H2 (e1.trans e2) q2) (hx.ext e1)) fun z => hq false F1 H1 e1 z) hx
theorem lt_or (ha : LT G W ta CA) (hb : LT G W tb CB) : LT G W (dOr ta tb) (tOr CA CB) := fun F0 H0 ρ F σ H k QX QV S q hq hx =>
  ha F0 H0 ρ F σ H _ QX _ S q (fun b F1 H1 e1 q1 => two_if q1 (fun z => hq true F1 H1 e1 z) fun z => hb F0 H0 ρ F1 σ H1 _ QX _ (S.ext e1) z (fun c F2 H2 e2 q2 => hq c F2 H2 (e1.trans e2) q2) (hx.ext e1)) hx
theorem lt_not (ha : LT G W ta CA) : LT G W (dNot ta) (tNot CA) := fun F0 H0 ρ F σ H k QX QV S q hq hx =>
  ha F0 H0 ρ F σ H _ QX _ S q (fun b F1 H1 e1 q1 => hq _ F1 H1 e1 q1) hx
theorem le_bool {F0 H0 : Hp} {ρ : Env} {F : Hp} {σ : Sg} {H : Hp} {k : Bool → Prop} {QX : DX} {QV : VK} (h : LE G W ta Ta) (S : SRep G F0 H0 F H σ ρ) (q : ta ρ (fun s => s.bool k) QX) (hq : ∀ b F' H', Ext F H F' H' → k b → QV (.bl b) H') (hx : XWish G W F H σ QX) : Ta σ H QV :=
  h F0 H0 ρ F σ H _ QX _ S q (fun s v F1 H1 p q1 => by
    cases s with
    | val d =>
      cases d with
      | bl b => rw [show v = V.bl b from p.v]; exact hq b F1 H1 p.e q1
      | _ => exact q1.elim
    | _ => exact q1.elim) hx
theorem le_and (ha : LE G W ta Ta) (hb : LE G W tb Tb) : LE G W (dAnd ta tb) (tAndV Ta Tb) := fun F0 H0 ρ F σ H Q QX QV S q hq hx =>
  show Ta σ H _ from le_bool ha S q (fun b F1 H1 e1 q1 => ⟨b, rfl, two_if q1 (fun z => hb F0 H0 ρ F1 σ H1 _ QX _ (S.ext e1) z (fun s v F2 H2 p q2 => hq s v F2 H2 (p.after e1) q2) (hx.ext e1)) fun z => hq (.val (.bl false)) _ F1 H1 (.val e1 rfl) z⟩) hx
theorem le_or (ha : LE G W ta Ta) (hb : LE G W tb Tb) : LE G W (dOr ta tb) (tOrV Ta Tb) := fun F0 H0 ρ F σ H Q QX QV S q hq hx =>
  show Ta σ H _ from le_bool ha S q (fun b F1 H1 e1 q1 => ⟨b, rfl, two_if q1 (fun z => hq (.val (.bl true)) _ F1 H1 (.val e1 rfl) z) fun z => hb F0 H0 ρ F1 σ H1 _ QX _ (S.ext e1) z (fun s v F2 H2 p q2 => hq s v F2 H2 (p.after e1) q2) (hx.ext e1)⟩) hx
theorem le_not (ha : LE G W ta Ta) : LE G W (dNot ta) (tNotV Ta) := fun F0 H0 ρ F σ H Q QX QV S q hq hx =>
  show Ta σ H _ from le_bool ha S q (fun b F1 H1 e1 q1 => ⟨b, rfl, hq (.val (.bl !b)) _ F1 H1 (.val e1 rfl) q1⟩) hx
theorem le_ite (hc : LT G W tc CA) (ha : LE G W ta Ta) (hb : LE G W tb Tb) : LE G W (dIte tc ta tb) (tIf CA Ta Tb) := fun F0 H0 ρ F σ H Q QX QV S q hq hx =>
  hc F0 H0 ρ F σ H _ QX _ S q (fun b F1 H1 e1 q1 => two_if q1 (fun z => ha F0 H0 ρ F1 σ H1 _ QX _ (S.ext e1) z (fun s v F2 H2 p q2 => hq s v F2 H2 (p.after e1) q2) (hx.ext e1))
    fun z => hb F0 H0 ρ F1 σ H1 _ QX _ (S.ext e1) z (fun s v F2 H2 p q2 => hq s v F2 H2 (p.after e1) q2) (hx.ext e1)) hx

/-- what stands in H at the def's own places is looked at -/
theorem SRep.view {F0 H0 F H : Hp} {σ : Sg} {ρ : Env} (S : SRep G F0 H0 F H σ ρ) : ∃ F', SRep G F0 H0 F' H σ (view ρ) ∧ Same F F' ∧ ∀ a o, F' a = some o → F a = some o ∨ (F a = none ∧ (∃ p u, p = a ∧ H p = some u ∧ ((∃ vs, u = .lst vs) ∨ ∃ kvs, u = .dT kvs)) ∧ H0 a = none) := by
  classical
  let own : Addr → Prop := fun a => ∃ (i : Nat) (s : Sl), ρ[i]? = some s ∧ s.owns = true ∧ σ[i]? = some (some (V.ref a))
  let F' : Hp := fun a => if own a then H a else F a
  have at_own : ∀ {a}, own a → ∃ u, H a = some u ∧ F a = none ∧ H0 a = none ∧ ((∃ vs, u = .lst vs) ∨ ∃ kvs, u = .dT kvs) := fun {a} ⟨i, s, h1, h2, h3⟩ => by
    obtain ⟨p, u, z1, z2, z3, z4, z5⟩ := (S.sl i s h1).own_at h2
    rw [h3] at z1; cases z1
    exact ⟨u, z2, z3, z4, z5⟩
  have sFF : Same F F' := fun a o q => by
    show (if own a then H a else F a) = some o
    by_cases w : own a
    · obtain ⟨u, _, z, _⟩ := at_own w
      rw [z] at q; cases q
    · rw [if_neg w]; exact q
  have get : ∀ {a}, own a → F' a = H a := fun {a} w => if_pos w
  refine ⟨F', ⟨by simpa [DL.view] using S.len, S.t0, ⟨S.e.f.trans sFF, fun a o q => ?_, S.e.h, fun a o q => ?_⟩, fun i s q => ?_, fun i j s t p h1 h2 w1 w2 z1 z2 => ?_⟩, sFF, fun a o q => ?_⟩
  · by_cases w : own a
    · rw [get w] at q; exact q
    · have q : (if own a then H a else F a) = some o := q
      rw [if_neg w] at q; exact S.e.fh a o q
  · by_cases w : own a
    · obtain ⟨u, _, _, z, _⟩ := at_own w
      exact .inr (.inl z)
    · have q : (if own a then H a else F a) = some o := q
      rw [if_neg w] at q; exact S.e.new a o q
  · unfold DL.view at q
    rw [List.getElem?_map] at q
    cases e : ρ[i]? with
    | none => rw [e] at q; cases q
    | some t =>
      rw [e] at q
      cases q
      have z := S.sl i t e
      cases t with
      | un => trivial
      | val d => obtain ⟨v, h1, h2⟩ := z; exact ⟨v, h1, Rep.mono sFF d h2⟩
      | own l =>
        obtain ⟨p, vs, h1, h2, h3, h4, h5⟩ := z
        have w : own p := ⟨i, _, e, rfl, h1⟩
        exact ⟨.ref p, h1, by unfold Rep; exact ⟨p, vs, rfl, .inl (.inl ((get w).trans h2)), RepL.mono sFF l h5⟩⟩
      | ownd ks us =>
        obtain ⟨p, kvs, h1, h2, h3, h4, h5, h6⟩ := z
        have w : own p := ⟨i, _, e, rfl, h1⟩
        exact ⟨.ref p, h1, by unfold Rep; exact ⟨p, kvs, rfl, .inl ((get w).trans h2), h5, RepL.mono sFF us h6⟩⟩
  · unfold DL.view at h1
    rw [List.getElem?_map] at h1
    cases e : ρ[i]? with
    | none => rw [e] at h1; cases h1
    | some t' => rw [e] at h1; cases h1; cases t' <;> cases w1
  · by_cases w : own a
    · obtain ⟨u, z1, z2, z3, z4⟩ := at_own w
      exact .inr ⟨z2, ⟨a, u, rfl, z1, z4⟩, z3⟩
    · have q : (if own a then H a else F a) = some o := q
      rw [if_neg w] at q; exact .inl q
mutual
theorem Rep.imm {F F' : Hp} (hF : ∀ a o, F a = some o → F' a = some o ∨ ((∃ vs, o = HO.lst vs) ∨ ∃ kvs, o = HO.dT kvs)) : ∀ (d : D) {v : V}, d.imm = true → Rep G F d v → Rep G F' d v
  | .non, _, _, h => h
  | .bl _, _, _, h => h
  | .int _, _, _, h => h
  | .str _, _, _, h => h
  | .fn _, _, _, h => h.imp id fun ⟨h1, f, c, h2, h3, h4⟩ => ⟨h1, f, c, h2, (hF _ _ h3).resolve_right (fun z => by rcases z with ⟨_, z⟩ | ⟨_, z⟩ <;> (unfold LamO at z; cases z)), (hF _ _ h4).resolve_right (fun z => by rcases z with ⟨_, z⟩ | ⟨_, z⟩ <;> (unfold LamX.CodeO at z; cases z))⟩
  | .tup l, _, i, ⟨a, vs, e1, h1, h2⟩ => by
    refine ⟨a, vs, e1, ⟨?_, fun k => (hF a _ (h1.2 k)).resolve_right (fun z => by rcases z with ⟨_, z⟩ | ⟨_, z⟩ <;> cases z)⟩, RepL.imm hF l i h2⟩
    obtain ⟨h1, _⟩ := h1
    rcases h1 with (h1 | ⟨o, h1⟩) | h1
    · rcases hF a _ h1 with z | ⟨z, y⟩ | ⟨z, y⟩
      · exact .inl (.inl z)
      · cases y
      · cases y
    · rcases hF a _ h1 with z | ⟨z, y⟩ | ⟨z, y⟩
      · exact .inl (.inr ⟨o, z⟩)
      · cases y
      · cases y
    · exact .inr h1
  | .lst _, _, i, _ => by cases i
  | .dct _ _, _, i, _ => by cases i
  | .obj _ _, _, i, _ => by cases i
theorem RepL.imm {F F' : Hp} (hF : ∀ a o, F a = some o → F' a = some o ∨ ((∃ vs, o = HO.lst vs) ∨ ∃ kvs, o = HO.dT kvs)) : ∀ (l : List D) {vs : List V}, immL l = true → RepL G F l vs → RepL G F' l vs
  | [], _, _, h => h
  | d :: ds, _, i, ⟨v, r, e1, h1, h2⟩ => by
    have i' := Bool.and_eq_true_iff.mp i
    exact ⟨v, r, e1, Rep.imm hF d i'.1 h1, RepL.imm hF ds i'.2 h2⟩
end
/-- the looked-at places are hidden again -/
theorem hide {F H F1 F2 H2 : Hp} (sF : Same F F1) (hF1 : ∀ a o, F1 a = some o → F a = some o ∨ (F a = none ∧ (∃ p u, p = a ∧ H p = some u ∧ ((∃ vs, u = HO.lst vs) ∨ ∃ kvs, u = HO.dT kvs))))
    (e : Ext F1 H F2 H2) : ∃ F3, Ext F H F3 H2 ∧ (∀ a o, F2 a = some o → F3 a = some o ∨ ((∃ vs, o = HO.lst vs) ∨ ∃ kvs, o = HO.dT kvs)) ∧ ∀ a o, F3 a = some o → F2 a = some o := by
  classical
  let F3 : Hp := fun a => if F1 a = F a then F2 a else none
  have old : ∀ a o, F3 a = some o → F2 a = some o ∧ F1 a = F a := fun a o z => by
    have z : (if F1 a = F a then F2 a else none) = some o := z
    by_cases w : F1 a = F a
    · rw [if_pos w] at z; exact ⟨z, w⟩
    · rw [if_neg w] at z; cases z
  refine ⟨F3, ⟨fun a o z => ?_, fun a o z => e.fh a o (old a o z).1, e.h, fun a o z => ?_⟩, fun a o z => ?_, fun a o z => (old a o z).1⟩
  · have z1 := sF a o z
    show (if F1 a = F a then F2 a else none) = some o
    rw [if_pos (z1.trans z.symm)]
    exact e.f a o z1
  · obtain ⟨z1, z2⟩ := old a o z
    rcases e.new a o z1 with y | y
    · exact .inl (z2 ▸ y)
    · exact .inr y
  · by_cases w : F1 a = F a
    · exact .inl (show (if F1 a = F a then F2 a else none) = some o by rw [if_pos w]; exact z)
    · cases e1 : F1 a with
      | none =>
        cases e' : F a with
        | none => rw [e1, e'] at w; exact (w rfl).elim
        | some u => rw [sF a u e'] at e1; cases e1
      | some u =>
        rcases hF1 a u e1 with y | ⟨_, p', u', rfl, y, y'⟩
        · rw [e1, y] at w; exact (w rfl).elim
        · have z2 := e.fh _ _ z
          have y2 : H2 _ = some u' := e.h.x _ _ y fun _ z => by rcases y' with ⟨_, rfl⟩ | ⟨_, rfl⟩ <;> cases z
          rw [y2] at z2; cases z2
          exact .inr y'
theorem le_view (ha : LE G W ta Ta) : LE G W (dView ta) Ta := fun F0 H0 ρ F σ H Q QX QV S q hq hx => by
  obtain ⟨F1, S1, sF, hF1⟩ := S.view
  have hF1' : ∀ a o, F1 a = some o → F a = some o ∨ (F a = none ∧ (∃ p u, p = a ∧ H p = some u ∧ ((∃ vs, u = HO.lst vs) ∨ ∃ kvs, u = HO.dT kvs))) := fun a o z => (hF1 a o z).imp id fun y => ⟨y.1, y.2.1⟩
  refine ha F0 H0 (view ρ) F1 σ H _ _ QV S1 q (fun s v F2 H2 p q2 => ?_) (fun x qx cls d F2 H2 e r => ?_)
  · obtain ⟨im, q2⟩ := q2
    obtain ⟨F3, e3, keep, old⟩ := hide sF hF1' p.e
    have pv := p.v
    refine hq s v F3 H2 ⟨e3, ?_⟩ q2
    cases s with
    | un => exact pv
    | val d => exact Rep.imm keep d im pv
    | own l =>
      obtain ⟨a, vs, h1, h2, h3, h4, h5⟩ := pv
      refine ⟨a, vs, h1, h2, ?_, h4, RepL.imm keep l im h5⟩
      cases e : F3 a with
      | none => rfl
      | some o => rw [old a o e] at h3; cases h3
    | ownd ks us => cases im
  · obtain ⟨im, qx⟩ := qx
    obtain ⟨F3, e3, keep, old⟩ := hide sF hF1' e
    refine hx x qx cls d F3 H2 e3 ⟨r.1, r.2.imp id fun ⟨dd, fs, vs, h1, h2, h3, h4⟩ => ⟨dd, fs, vs, h1, (keep _ _ h2).resolve_right (fun z => by rcases z with ⟨_, z⟩ | ⟨_, z⟩ <;> cases z), RepL.imm keep _ im h3, h4⟩⟩
end
end DL

/- DLc -/
namespace DL
open PySem PySem.Spec PyProof.Rows L2
section
variable {G : Gx} {F H : Hp}
theorem rep_int {d : D} {i : Int} (h : Rep G F d (.int i)) : d = .int i := by
  cases d with
  | int j => have e : V.int i = V.int j := h; cases e; rfl
  | tup l => obtain ⟨a, vs, e, _⟩ := h; cases e
  | lst l => obtain ⟨a, vs, e, _⟩ := h; cases e
  | dct l m => obtain ⟨a, vs, e, _⟩ := h; cases e
  | obj l m => obtain ⟨a, e, _⟩ := h; cases e
  | non => have e : V.int i = V.non := h; cases e
  | bl b => have e : V.int i = V.bl b := h; cases e
  | str b => have e : V.int i = V.str ⟨b.toArray⟩ := h; cases e
  | fn b => obtain ⟨a, e⟩ := FnR.ref h; cases e
theorem lr_int {C : Int → Int → Prop} {g : Int → Int → Int} {f : D → D → DK → Prop} (hf : ∀ i j Q, f (.int i) (.int j) Q → C i j ∧ Q (.val (.int (g i j)))) (ho : ∀ x y Q, f x y Q → ∃ i j, x = .int i ∧ y = .int j) : LR2 G f (rI C fun i j => .int (g i j)) :=
  fun F H x y u v Q QV e rx ry q hq => by
    obtain ⟨i, j, rfl, rfl⟩ := ho x y Q q
    obtain ⟨c, q⟩ := hf i j Q q
    exact ⟨i, j, rx, ry, c, hq _ _ F H (.val (.refl e) (show Rep G F (.int (g i j)) (.int (g i j)) from rfl)) q⟩
theorem two_ints {f : D → D → DK → Prop} {x y : D} {Q : DK} (h : f x y Q) (h' : ∀ x y, (∀ i j, x = D.int i → y = D.int j → False) → ¬ f x y Q) : ∃ i j, x = D.int i ∧ y = D.int j := by
  by_cases w : ∃ i j, x = D.int i ∧ y = D.int j
  · exact w
  · exact (h' x y (fun i j e1 e2 => w ⟨i, j, e1, e2⟩) h).elim
theorem lr_sub : LR2 G oSub (rI (fun _ _ => True) fun i j => .int (i - j)) := lr_int (fun _ _ _ q => ⟨trivial, q⟩) fun x y Q q => by cases x <;> cases y <;> first | exact ⟨_, _, rfl, rfl⟩ | exact q.elim
theorem lr_mul : LR2 G oMul (rI (fun i j => Sz i j) fun i j => .int (i * j)) := lr_int (fun _ _ _ q => q) fun x y Q q => by cases x <;> cases y <;> first | exact ⟨_, _, rfl, rfl⟩ | exact q.elim
theorem lr_div : LR2 G oDiv (rI (fun i j => DivOk i j) fun i j => .int (i.fdiv j)) := lr_int (fun _ _ _ q => q) fun x y Q q => by cases x <;> cases y <;> first | exact ⟨_, _, rfl, rfl⟩ | exact q.elim
theorem lr_mod : LR2 G oMod (rI (fun _ j => j ≠ 0) fun i j => .int (i.fmod j)) := lr_int (fun _ _ _ q => q) fun x y Q q => by cases x <;> cases y <;> first | exact ⟨_, _, rfl, rfl⟩ | exact q.elim
theorem lr_pow : LR2 G oPow (rI CPow fun i j => .int (i ^ j.toNat)) := lr_int (fun _ _ _ q => q) fun x y Q q => by cases x <;> cases y <;> first | exact ⟨_, _, rfl, rfl⟩ | exact q.elim
theorem bits_eq (i : Int) : bits i = Builtin.Int.intBits i := by
  unfold bits Builtin.Int.intBits
  by_cases h : i = 0
  · subst h; rfl
  · rw [if_neg h]
    first
      | (rw [if_neg (by simpa using h)])
      | (simp [h])
theorem lr_shl : LR2 G oShl (rI CShl fun i j => .int (i * 2 ^ j.toNat)) := lr_int (fun i j _ q => ⟨⟨q.1.1, by rw [← bits_eq]; have := q.1.2; omega⟩, q.2⟩) fun x y Q q => by cases x <;> cases y <;> first | exact ⟨_, _, rfl, rfl⟩ | exact q.elim
variable {X : Cx}
theorem op_subD : OpR X (binaryOp .Sub) (rI (fun _ _ => True) fun i j => .int (i - j)) := opI fun _ _ _ _ _ _ _ _ q => sub_int q
theorem szOk {i j : Int} (h : Sz i j) : IntMulOk i j := by
  rcases h with h | h | h
  · exact IntMulOk.of_left (by rw [← bits_eq]; exact h)
  · exact IntMulOk.of_right (by rw [← bits_eq]; exact h)
  · exact CMulX.ok (by unfold CMulX; rw [← bits_eq, ← bits_eq]; omega)
theorem op_mulD : OpR X (binaryOp .Mult) (rI (fun i j => Sz i j) fun i j => .int (i * j)) := opI fun i j _ _ _ _ _ hc q => mul_int q (szOk hc)
theorem divOk {i j : Int} (h : DivOk i j) : Builtin.divisionGoesByPylong i j = false := by
  obtain ⟨hj, h⟩ := h
  rcases h with z | z
  · exact PyProof.noPylong_of_log2 z
  · rw [bits_eq, bits_eq] at z
    unfold Builtin.Int.intBits at z
    rw [if_neg (show ¬ (j == 0) = true by simpa using hj)] at z
    show (decide ((if j == 0 then 0 else j.natAbs.log2 / 30 + 1) > 300) && decide ((if i == 0 then 0 else i.natAbs.log2 / 30 + 1) > (if j == 0 then 0 else j.natAbs.log2 / 30 + 1) + 150)) = false
    rw [if_neg (show ¬ (j == 0) = true by simpa using hj)]
    have k : ¬ ((if i == 0 then 0 else i.natAbs.log2 / 30 + 1) > j.natAbs.log2 / 30 + 1 + 150) := by
      split at z
      · rename_i y
        rw [if_pos y]
        omega
      · rename_i y
        rw [if_neg y]
        omega
    rw [decide_eq_false k, Bool.and_false]
theorem op_divD : OpR X (binaryOp .FloorDiv) (rI (fun i j => DivOk i j) fun i j => .int (i.fdiv j)) := opI fun i j _ _ _ _ _ hc q => floordiv_int hc.1 q (.inl (divOk hc))
def rCatG (K : PySem.W.Frag) : R2 := fun x y H Q => ∃ l b xs zs, x = .ref l ∧ y = .ref b ∧ SqL K H l xs ∧ SqL K H b zs ∧ xs.length + zs.length ≤ sizeLine ∧ ∀ p, H p = none → Q (.ref p) (upd H p (.lst (xs ++ zs)))
theorem op_catG : OpR X (binaryOp .Add) (rCatG X.K) := by
  intro pins s σ H x y v u Q I rx ry h
  obtain ⟨l, b, xs, zs, rfl, rfl, hH, hB, hz, q⟩ := h
  cases rx
  cases ry
  obtain ⟨its, r, ⟨⟨cls, dd, data, sl⟩, n, ho, hc, hd0, hd⟩, _⟩ := I.list hH
  obtain ⟨its2, r2, ⟨⟨cls2, dd2, data2, sl2⟩, n2, ho2, hc2, hd02, hd2⟩, _⟩ := I.list hB
  simp only at hc hd hc2 hd2
  subst hc hd hc2 hd2
  have e : its.toArray ++ its2.toArray = (its ++ its2).toArray := by simp
  have e1 := r.length
  have e2 := r2.length
  refine concat_meets ⟨_, ho, rfl⟩ ⟨_, ho2, rfl⟩ noFill_list_add seq_list_add PySem.F.slot_list_add PySem.F.entry_list_add (PySem.F.args_list_add_2 _ _) (PyProof.Rows.list_addW l b its.toArray its2.toArray n n2 dd dd2 sl sl2 (by simp only [List.size_toArray]; omega)) ⟨ho, ho2, ?_⟩
  rw [e]
  exact ⟨.ref _, _, I.lnew (t' := s.toks) (r.append r2) (by rw [List.length_append]; omega), rfl, q _ I.fresh⟩
def rAddD (K : PySem.W.Frag) : R2 := fun x y H Q => rI0 (fun i j => .int (i + j)) x y H Q ∨ (∃ i j, x = .str i ∧ y = .str j ∧ i.length + j.length ≤ sizeLine ∧ Q (.str (i ++ j)) H) ∨ rCatG K x y H Q ∨ rCatT K x y H Q
theorem op_addD : OpR X (binaryOp .Add) (rAddD X.K) := op_add.or (op_add_str.or (op_catG.or op_catT))
theorem str_cat (a b : List Nat) : (⟨a.toArray⟩ : Str) ++ (⟨b.toArray⟩ : Str) = ⟨(a ++ b).toArray⟩ := by
  show (⟨a.toArray ++ b.toArray⟩ : Str) = _
  simp
theorem lr_add : LR2 G oAdd (rAddD G.K) := fun F H x y u v Q QV e rx ry q hq => by
  cases x <;> cases y <;> first | exact q.elim | skip
  · exact .inl ⟨_, _, rx, ry, hq _ _ F H (.val (.refl e) (show Rep G F (.int _) (.int _) from rfl)) q⟩
  · rename_i a b
    refine .inr (.inl ⟨_, _, rx, ry, ?_, ?_⟩)
    · rw [sizeLine_eq]
      have := q.1
      show (a.toArray).size + (b.toArray).size ≤ _
      simpa using this
    · rw [str_cat]
      exact hq _ _ F H (.val (.refl e) (show Rep G F (.str (a ++ b)) (.str ⟨(a ++ b).toArray⟩) from rfl)) q.2
  · obtain ⟨a, vs, rfl, h1, h2⟩ := rx
    obtain ⟨b, us, rfl, h3, h4⟩ := ry
    obtain ⟨⟨n1, n2, n3⟩, q⟩ := q
    refine .inr (.inr (.inr ⟨a, b, vs, us, rfl, rfl, sqT_mono e h1.1, sqT_mono e h3.1, fun z => n1 (List.eq_nil_of_length_eq_zero (by rw [← h2.length, z]; rfl)), by rw [h2.length, h4.length, sizeLine_eq]; exact n3, fun z => absurd (List.eq_nil_of_length_eq_zero (by rw [← h4.length, z]; rfl)) n2, fun _ p hp => ?_⟩))
    exact hq _ _ (upd F p (.tup (vs ++ us))) _ (.val (.put e hp) (by unfold Rep; exact ⟨p, _, rfl, ⟨.inl (.inl upd_same), fun _ => upd_same⟩, RepL.mono (same_upd (e.free hp)) _ (h2.append h4)⟩)) q
  · obtain ⟨a, vs, rfl, h1, h2⟩ := rx
    obtain ⟨b, us, rfl, h3, h4⟩ := ry
    refine .inr (.inr (.inl ⟨a, b, vs, us, rfl, rfl, sqL_mono e h1, sqL_mono e h3, ?_, fun p hp => hq _ _ F _ (.mkOwn (.refl e) hp (h2.append h4)) q.2⟩))
    rw [h2.length, h4.length, sizeLine_eq]
    exact q.1
theorem lr_cmp {p : Int → Int → Bool} : LR2 G (cB (oCmp p)) (rI0 fun i j => .bl (p i j)) := fun F H x y u v Q QV e rx ry q hq => by
  cases x <;> cases y <;> first | exact q.elim | skip
  exact ⟨_, _, rx, ry, hq _ _ F H (.val (.refl e) (show Rep G F (.bl _) (.bl _) from rfl)) q⟩
mutual
def toPy : D → PyData
  | .non => .none
  | .bl b => .bool b
  | .int i => .int i
  | .str s => .str ⟨s.toArray⟩
  | .tup l => .tuple (toPyL l)
  | .lst l => .list (toPyL l)
  | _ => .none
def toPyL : List D → List PyData
  | [] => []
  | d :: l => toPy d :: toPyL l
end
mutual
theorem dat_lay : ∀ (n : Nat) (d : D), d.dat n = true → (toPy d).canLay0 = true ∧ (toPy d).depth ≤ n
  | n, .non, _ => ⟨rfl, Nat.zero_le _⟩
  | n, .bl _, _ => ⟨rfl, Nat.zero_le _⟩
  | n, .int _, _ => ⟨rfl, Nat.zero_le _⟩
  | n, .str s, h => by
    refine ⟨?_, Nat.zero_le _⟩
    cases n <;> (show (s.toArray).all (fun c => decide (c < 0x110000)) = true; rw [List.all_toArray]; exact h)
  | 0, .tup _, h => by cases h
  | n + 1, .tup l, h => by
    obtain ⟨h1, h2⟩ := datL_lay n l h
    exact ⟨h1, Nat.succ_le_succ h2⟩
  | 0, .lst _, h => by cases h
  | n + 1, .lst l, h => by
    obtain ⟨h1, h2⟩ := datL_lay n l h
    exact ⟨h1, Nat.succ_le_succ h2⟩
  | n, .dct _ _, h => by cases n <;> cases h
  | n, .obj _ _, h => by cases n <;> cases h
  | n, .fn _, h => by cases n <;> cases h
theorem datL_lay : ∀ (n : Nat) (l : List D), datL n l = true → PyData.canLayAll0 (toPyL l) = true ∧ PyData.depthAll (toPyL l) ≤ n
  | n, [], _ => ⟨rfl, Nat.zero_le _⟩
  | n, d :: l, h => by
    have h' : d.dat n = true ∧ datL n l = true := by
      cases n <;> exact Bool.and_eq_true_iff.mp h
    obtain ⟨a1, a2⟩ := dat_lay n d h'.1
    obtain ⟨b1, b2⟩ := datL_lay n l h'.2
    exact ⟨Bool.and_eq_true_iff.mpr ⟨a1, b1⟩, Nat.max_le.mpr ⟨a2, b2⟩⟩
end
theorem dat_shaped {d : D} (h : d.dat 30 = true) : SeqAt.shaped (toPy d) = true := by
  obtain ⟨h1, h2⟩ := dat_lay 30 d h
  unfold SeqAt.shaped
  rw [h1, decide_eq_true (by omega : (toPy d).depth ≤ 64)]
  rfl
theorem strEq (a b : List Nat) : ((⟨a.toArray⟩ : Str) == ⟨b.toArray⟩) = (a == b) := by
  by_cases h : a = b
  · subst h; simp
  · have h' : ¬ (⟨a.toArray⟩ : Str) = ⟨b.toArray⟩ := fun e => h (by injection e with e; simpa using congrArg Array.toList e)
    rw [beq_eq_false_iff_ne.mpr h', beq_eq_false_iff_ne.mpr h]
mutual
theorem eq_eqv : ∀ (n m : Nat) (d e : D), d.dat n = true → e.dat m = true → PyData.eqv (toPy d) (toPy e) = D.eq d e
  | n, m, .non, e, h, h' => by cases e <;> first | rfl | (cases m <;> cases h')
  | n, m, .bl a, e, h, h' => by cases e <;> first | rfl | (cases m <;> cases h')
  | n, m, .int a, e, h, h' => by cases e <;> first | rfl | (cases m <;> cases h')
  | n, m, .str a, e, h, h' => by cases e <;> first | rfl | exact strEq _ _ | (cases m <;> cases h')
  | 0, m, .tup l, e, h, h' => by cases h
  | n + 1, m, .tup l, e, h, h' => by
    cases e with
    | tup k =>
      cases m with
      | zero => cases h'
      | succ m => exact eqL_eqv n m l k h h'
    | _ => first | rfl | (cases m <;> cases h')
  | 0, m, .lst l, e, h, h' => by cases h
  | n + 1, m, .lst l, e, h, h' => by
    cases e with
    | lst k =>
      cases m with
      | zero => cases h'
      | succ m => exact eqL_eqv n m l k h h'
    | _ => first | rfl | (cases m <;> cases h')
  | n, m, .dct _ _, e, h, h' => by cases n <;> cases h
  | n, m, .obj _ _, e, h, h' => by cases n <;> cases h
  | n, m, .fn _, e, h, h' => by cases n <;> cases h
theorem eqL_eqv : ∀ (n m : Nat) (d e : List D), datL n d = true → datL m e = true → PyData.eqvAll (toPyL d) (toPyL e) = eqL d e
  | n, m, [], [], h, h' => rfl
  | n, m, [], _ :: _, h, h' => rfl
  | n, m, _ :: _, [], h, h' => rfl
  | n, m, a :: l, b :: k, h, h' => by
    have g : a.dat n = true ∧ datL n l = true := by cases n <;> exact Bool.and_eq_true_iff.mp h
    have g' : b.dat m = true ∧ datL m k = true := by cases m <;> exact Bool.and_eq_true_iff.mp h'
    show (PyData.eqv (toPy a) (toPy b) && PyData.eqvAll (toPyL l) (toPyL k)) = (D.eq a b && eqL l k)
    rw [eq_eqv n m a b g.1 g'.1, eqL_eqv n m l k g.2 g'.2]
end
mutual
theorem rep_dp {F H : Hp} (e : Same F H) : ∀ (n : Nat) (d : D) (v : V), d.dat n = true → Rep G F d v → Dp G.K H v (toPy d)
  | n, .non, _, _, h => by rw [show _ = V.non from h]; exact .non
  | n, .bl b, _, _, h => by rw [show _ = V.bl b from h]; exact .bl b
  | n, .int b, _, _, h => by rw [show _ = V.int b from h]; exact .int b
  | n, .str b, _, _, h => by rw [show _ = V.str ⟨b.toArray⟩ from h]; exact .str _
  | 0, .tup l, _, w, h => by cases w
  | n + 1, .tup l, _, w, ⟨a, vs, e1, h1, h2⟩ => by subst e1; exact .tup (sqT_mono e h1.1) (repL_dp e n l vs w h2)
  | 0, .lst l, _, w, h => by cases w
  | n + 1, .lst l, _, w, ⟨a, vs, e1, h1, h2⟩ => by subst e1; exact .lst (sqL_mono e h1) (repL_dp e n l vs w h2)
  | n, .dct _ _, _, w, h => by cases n <;> cases w
  | n, .obj _ _, _, w, h => by cases n <;> cases w
  | n, .fn _, _, w, h => by cases n <;> cases w
theorem repL_dp {F H : Hp} (e : Same F H) : ∀ (n : Nat) (d : List D) (v : List V), datL n d = true → RepL G F d v → DpAll G.K H v (toPyL d)
  | n, [], _, _, h => by rw [show _ = ([] : List V) from h]; exact .nil
  | n, d :: l, _, w, ⟨v, r, e1, h1, h2⟩ => by
    have g : d.dat n = true ∧ datL n l = true := by cases n <;> exact Bool.and_eq_true_iff.mp w
    subst e1; exact .cons (rep_dp e n d v g.1 h1) (repL_dp e n l r g.2 h2)
end
theorem lr_eq : LR2 G (cB bEq) (rEqD G.K) := fun F H x y u v Q QV e rx ry q hq => by
  obtain ⟨⟨h1, h2⟩, q⟩ := bEq_any q
  refine ⟨_, _, rep_dp e 30 x u h1 rx, rep_dp e 30 y v h2 ry, dat_shaped h1, dat_shaped h2, ?_⟩
  rw [eq_eqv 30 30 x y h1 h2]
  exact hq _ _ F H (.val (.refl e) (show Rep G F (.bl _) (.bl _) from rfl)) q
theorem lr_ne : LR2 G (cB bNe) (rNeD G.K) := fun F H x y u v Q QV e rx ry q hq => by
  obtain ⟨⟨h1, h2⟩, q⟩ := bNe_any q
  refine ⟨_, _, rep_dp e 30 x u h1 rx, rep_dp e 30 y v h2 ry, dat_shaped h1, dat_shaped h2, ?_⟩
  rw [eq_eqv 30 30 x y h1 h2]
  exact hq _ _ F H (.val (.refl e) (show Rep G F (.bl _) (.bl _) from rfl)) q
theorem rep_non {F : Hp} {d : D} {v : V} (r : Rep G F d v) : decide (v = .non) = d.isNone := by
  cases d with
  | non => rw [show v = V.non from r]; rfl
  | bl b => rw [show v = V.bl b from r]; rfl
  | int b => rw [show v = V.int b from r]; rfl
  | str b => rw [show v = V.str ⟨b.toArray⟩ from r]; rfl
  | fn b => obtain ⟨a, rfl⟩ := FnR.ref r; rfl
  | tup l => obtain ⟨a, vs, rfl, _⟩ := r; rfl
  | lst l => obtain ⟨a, vs, rfl, _⟩ := r; rfl
  | dct l m => obtain ⟨a, vs, rfl, _⟩ := r; rfl
  | obj l m => obtain ⟨a, rfl, _⟩ := r; rfl
theorem le_isN {W : WX} {ta : DE} {Ta : TE} (ha : LE G W ta Ta) : LE G W (dUn oIsN ta) (tIsN Ta) := fun F0 H0 ρ F σ H Q QX QV S q hq hx =>
  ha.v S q (fun x u F1 H1 e1 r1 q1 => by rw [rep_non r1]; exact hq _ _ F1 H1 (.val e1 (show Rep G F1 (.bl _) (.bl _) from rfl)) q1) hx
theorem le_notN {W : WX} {ta : DE} {Ta : TE} (ha : LE G W ta Ta) : LE G W (dUn oNotN ta) (tNotN Ta) := fun F0 H0 ρ F σ H Q QX QV S q hq hx =>
  ha.v S q (fun x u F1 H1 e1 r1 q1 => by rw [rep_non r1]; exact hq _ _ F1 H1 (.val e1 (show Rep G F1 (.bl _) (.bl _) from rfl)) q1) hx
theorem lr_isB : LR2 G oIsB rIsB := fun F H x y u v Q QV e rx ry q hq => by
  cases x <;> cases y <;> first | exact q.elim | skip
  exact ⟨_, _, rx, ry, hq _ _ F H (.val (.refl e) (show Rep G F (.bl _) (.bl _) from rfl)) q⟩
theorem lr_notB : LR2 G oNotB rNotB := fun F H x y u v Q QV e rx ry q hq => by
  cases x <;> cases y <;> first | exact q.elim | skip
  exact ⟨_, _, rx, ry, hq _ _ F H (.val (.refl e) (show Rep G F (.bl _) (.bl _) from rfl)) q⟩
theorem lr_neg : LR1 G oNeg (rU fun i => .int (-i)) := fun F H x u Q QV e rx q hq => by
  cases x <;> first | exact q.elim | skip
  exact ⟨_, rx, hq _ _ F H (.val (.refl e) (show Rep G F (.int _) (.int _) from rfl)) q⟩
theorem ix_at {F : Hp} {l : List D} {vs : List V} {i : Int} {d : D} (r : RepL G F l vs) (h : ixI l i = some d) : ∃ v, atI vs i = some v ∧ Rep G F d v := by
  rw [ixI_eq] at h
  unfold atI
  have e : L2.ixN vs.length i = DL.ixN l.length i := by rw [r.length]; rfl
  rw [e]
  cases hj : DL.ixN l.length i with
  | none => rw [hj] at h; cases h
  | some j => rw [hj] at h; exact r.get h
theorem lr_ix : LR2 G oIx (rIx G.K) := fun F H x y u v Q QV e rx ry q hq => by
  cases x <;> cases y <;> first | exact q.elim | skip
  · rename_i l i
    have q : optD (ixI l i) fun d => Q (.val d) := q
    cases h : ixI l i with
    | none => rw [h] at q; exact q.elim
    | some d =>
      rw [h] at q
      obtain ⟨a, vs, rfl, h1, h2⟩ := rx
      obtain ⟨w, h3, h4⟩ := ix_at h2 h
      exact .inr (.inl ⟨a, vs, _, w, rfl, ry, sqT_mono e h1.1, h3, hq _ _ F H (.val (.refl e) h4) q⟩)
  · rename_i l i
    have q : optD (ixI l i) fun d => Q (.val d) := q
    cases h : ixI l i with
    | none => rw [h] at q; exact q.elim
    | some d =>
      rw [h] at q
      obtain ⟨a, vs, rfl, h1, h2⟩ := rx
      obtain ⟨w, h3, h4⟩ := ix_at h2 h
      exact .inl ⟨a, vs, _, w, rfl, ry, sqL_mono e h1, h3, hq _ _ F H (.val (.refl e) h4) q⟩
theorem one_rep {F : Hp} {d : D} {us : List V} (r : RepL G F [d] us) : ∃ v, us = [v] ∧ Rep G F d v := by
  obtain ⟨v, r', e, h, h'⟩ := r
  exact ⟨v, by rw [e, show r' = [] from h'], h⟩
theorem two_rep {F : Hp} {d e : D} {us : List V} (r : RepL G F [d, e] us) : ∃ v w, us = [v, w] ∧ Rep G F d v ∧ Rep G F e w := by
  obtain ⟨v, r', e1, h, h'⟩ := r
  obtain ⟨w, rfl, h2⟩ := one_rep h'
  exact ⟨v, w, e1, h, h2⟩
theorem rint {F : Hp} {d : Int} {v : V} (r : Rep G F (.int d) v) : v = .int d := r
theorem fin_int {F H : Hp} {i : Int} {Q : DK} {QV : VK} (e : Same F H) (hq : ∀ s w F' H', Post G F H s w F' H' → Q s → QV w H') (q : Q (.val (.int i))) : QV (.int i) H := hq _ _ F H (.val (.refl e) (show Rep G F (.int _) (.int _) from rfl)) q
theorem lr_len : LRs G fLen (fun xs H Q => ∃ p ys, xs = [V.ref p] ∧ (SqL G.K H p ys ∨ SqT G.K H p ys) ∧ Q (.int ys.length) H) := fun F H xs us Q QV e r q hq => by
  unfold fLen at q
  split at q
  · obtain ⟨v, rfl, a, vs, rfl, h1, h2⟩ := one_rep r
    exact ⟨a, vs, rfl, .inr (sqT_mono e h1.1), by rw [h2.length]; exact fin_int e hq q⟩
  · obtain ⟨v, rfl, a, vs, rfl, h1, h2⟩ := one_rep r
    exact ⟨a, vs, rfl, .inl (sqL_mono e h1), by rw [h2.length]; exact fin_int e hq q⟩
  · exact q.elim
theorem lr_abs : LRs G fAbs (fun xs H Q => ∃ i, xs = [V.int i] ∧ Q (.int (if i < 0 then -i else i)) H) := fun F H xs us Q QV e r q hq => by
  unfold fAbs at q
  split at q
  · rename_i i
    obtain ⟨v, rfl, h⟩ := one_rep r
    refine ⟨i, by rw [rint h], ?_⟩
    have z : (if i < 0 then -i else i) = (i.natAbs : Int) := by split <;> omega
    rw [z]
    exact fin_int e hq q
  · exact q.elim
theorem lr_max : LRs G fMax (fun xs H Q => ∃ i j, xs = [V.int i, V.int j] ∧ Q (.int (if j > i then j else i)) H) := fun F H xs us Q QV e r q hq => by
  unfold fMax at q
  split at q
  · rename_i i j
    obtain ⟨v, w, rfl, h, h'⟩ := two_rep r
    exact ⟨i, j, by rw [rint h, rint h'], fin_int e hq q⟩
  · exact q.elim
theorem lr_min : LRs G fMin (fun xs H Q => ∃ i j, xs = [V.int i, V.int j] ∧ Q (.int (if j < i then j else i)) H) := fun F H xs us Q QV e r q hq => by
  unfold fMin at q
  split at q
  · rename_i i j
    obtain ⟨v, w, rfl, h, h'⟩ := two_rep r
    exact ⟨i, j, by rw [rint h, rint h'], fin_int e hq q⟩
  · exact q.elim
theorem lr_int1 : LRs G fInt (fun xs H Q => (∃ i, xs = [V.int i] ∧ Q (.int i) H) ∨ ∃ k, xs = [V.bl k] ∧ Q (.int (if k then 1 else 0)) H) := fun F H xs us Q QV e r q hq => by
  unfold fInt at q
  split at q
  · rename_i i
    obtain ⟨v, rfl, h⟩ := one_rep r
    exact .inl ⟨i, by rw [rint h], fin_int e hq q⟩
  · rename_i b
    obtain ⟨v, rfl, h⟩ := one_rep r
    exact .inr ⟨b, by rw [show v = V.bl b from h], fin_int e hq q⟩
  · exact q.elim
def rDivmod : List V → Hp → VK → Prop := fun xs H Q => ∃ i j, xs = [.int i, .int j] ∧ DivOk i j ∧ ∀ p, H p = none → Q (.ref p) (upd H p (.tup [.int (i.fdiv j), .int (i.fmod j)]))
theorem call_divmodD : CallR X (.builtin "divmod") rDivmod := by
  intro pins s σ H xs us Q I r h
  obtain ⟨i, j, rfl, hd, q⟩ := h
  obtain ⟨u, w', rfl, ⟨t, rfl⟩, ⟨t', rfl⟩⟩ := vals2 r
  refine divmod_int hd.1 ?_ (.inl (divOk hd))
  have hn : H s.heap.objs.size = none := I.hok.fresh (Nat.le_refl _)
  refine ⟨.ref s.heap.objs.size, _, ?_, rfl, q _ hn⟩
  refine I.laid (fun b o e => Heap.get?_push_of_some _ e) (Nat.le_refl _) ⟨by simp only [List.length_cons, List.length_nil]; rw [sizeLine_eq]; decide, [.int (i.fdiv j) s.toks, .int (i.fmod j) (s.toks + 1)], .cons ⟨_, rfl⟩ (.cons ⟨_, rfl⟩ .nil), ?_⟩
  exact ⟨_, Heap.get?_push_size s.heap rfl, rfl, 0, rfl⟩
theorem lr_divmod : LRs G fDivmod rDivmod := fun F H xs us Q QV e r q hq => by
  unfold fDivmod at q
  split at q
  · rename_i i j
    obtain ⟨v, w, rfl, h, h'⟩ := two_rep r
    refine ⟨i, j, by rw [rint h, rint h'], q.1, fun p hp => hq _ _ (upd F p _) _ (.val (.put e hp) ?_) q.2⟩
    unfold Rep
    exact ⟨p, _, rfl, ⟨.inl (.inl upd_same), fun _ => upd_same⟩, _, _, rfl, rfl, _, _, rfl, rfl, rfl⟩
  · exact q.elim
end
section
variable {G : Gx}
theorem sqL_ty {K : PySem.W.Frag} {H : Hp} {a : Addr} {xs : List V} (h : SqL K H a xs) : TyX K H (.ref a) (.type "list") := by
  rcases h with (h | ⟨o, h⟩) | ⟨o, its, n, h, c, _⟩
  · exact .base (.lst h)
  · exact .base (.frz h)
  · exact .kList h c
theorem sqT_ty {K : PySem.W.Frag} {H : Hp} {a : Addr} {xs : List V} (h : SqT K H a xs) : TyX K H (.ref a) (.type "tuple") := by
  rcases h with (h | ⟨o, h⟩) | ⟨o, its, n, h, c, _⟩
  · exact .base (.tup h)
  · exact .fTuple h
  · exact .kTuple h c
def D.tyn : D → String
  | .non => "NoneType"
  | .bl _ => "bool"
  | .int _ => "int"
  | .str _ => "str"
  | .tup _ => "tuple"
  | .lst _ => "list"
  | _ => "object"
theorem rep_ty {F H : Hp} {d : D} {v : V} (e : Same F H) (hp : d.plain = true) (r : Rep G F d v) : TyX G.K H v (.type d.tyn) := by
  cases d with
  | non => rw [show v = V.non from r]; exact .base .non
  | bl b => rw [show v = V.bl b from r]; exact .base (.bl b)
  | int b => rw [show v = V.int b from r]; exact .base (.int b)
  | str b => rw [show v = V.str ⟨b.toArray⟩ from r]; exact .base (.str _)
  | tup l => obtain ⟨a, vs, rfl, h, _⟩ := r; exact sqT_ty (sqT_mono e h.1)
  | lst l => obtain ⟨a, vs, rfl, h, _⟩ := r; exact sqL_ty (sqL_mono e h)
  | fn b => cases hp
  | dct l m => cases hp
  | obj l m => cases hp
/-- p is what isinstance(x, T) tells of plain x -/
def IsiOk (T : String) (p : D → Bool) : Prop := ∀ d : D, d.plain = true → kitB d.tyn T = some (p d)
theorem isi_int : IsiOk "int" D.isInt := fun d h => by
  cases d with
  | non => exact (by decide +kernel : kitB "NoneType" "int" = some false)
  | bl b => exact (by decide +kernel : kitB "bool" "int" = some true)
  | int b => exact (by decide +kernel : kitB "int" "int" = some true)
  | str b => exact (by decide +kernel : kitB "str" "int" = some false)
  | tup l => exact (by decide +kernel : kitB "tuple" "int" = some false)
  | lst l => exact (by decide +kernel : kitB "list" "int" = some false)
  | dct l m => exact Bool.noConfusion (show false = true from h)
  | obj l m => exact Bool.noConfusion (show false = true from h)
  | fn l => exact Bool.noConfusion (show false = true from h)
theorem isi_bool : IsiOk "bool" D.isBool := fun d h => by
  cases d with
  | non => exact (by decide +kernel : kitB "NoneType" "bool" = some false)
  | bl b => exact (by decide +kernel : kitB "bool" "bool" = some true)
  | int b => exact (by decide +kernel : kitB "int" "bool" = some false)
  | str b => exact (by decide +kernel : kitB "str" "bool" = some false)
  | tup l => exact (by decide +kernel : kitB "tuple" "bool" = some false)
  | lst l => exact (by decide +kernel : kitB "list" "bool" = some false)
  | dct l m => exact Bool.noConfusion (show false = true from h)
  | obj l m => exact Bool.noConfusion (show false = true from h)
  | fn l => exact Bool.noConfusion (show false = true from h)
theorem isi_tuple : IsiOk "tuple" D.isTuple := fun d h => by
  cases d with
  | non => exact (by decide +kernel : kitB "NoneType" "tuple" = some false)
  | bl b => exact (by decide +kernel : kitB "bool" "tuple" = some false)
  | int b => exact (by decide +kernel : kitB "int" "tuple" = some false)
  | str b => exact (by decide +kernel : kitB "str" "tuple" = some false)
  | tup l => exact (by decide +kernel : kitB "tuple" "tuple" = some true)
  | lst l => exact (by decide +kernel : kitB "list" "tuple" = some false)
  | dct l m => exact Bool.noConfusion (show false = true from h)
  | obj l m => exact Bool.noConfusion (show false = true from h)
  | fn l => exact Bool.noConfusion (show false = true from h)
theorem isi_list : IsiOk "list" D.isList := fun d h => by
  cases d with
  | non => exact (by decide +kernel : kitB "NoneType" "list" = some false)
  | bl b => exact (by decide +kernel : kitB "bool" "list" = some false)
  | int b => exact (by decide +kernel : kitB "int" "list" = some false)
  | str b => exact (by decide +kernel : kitB "str" "list" = some false)
  | tup l => exact (by decide +kernel : kitB "tuple" "list" = some false)
  | lst l => exact (by decide +kernel : kitB "list" "list" = some true)
  | dct l m => exact Bool.noConfusion (show false = true from h)
  | obj l m => exact Bool.noConfusion (show false = true from h)
  | fn l => exact Bool.noConfusion (show false = true from h)
theorem isi_str : IsiOk "str" D.isStr := fun d h => by
  cases d with
  | non => exact (by decide +kernel : kitB "NoneType" "str" = some false)
  | bl b => exact (by decide +kernel : kitB "bool" "str" = some false)
  | int b => exact (by decide +kernel : kitB "int" "str" = some false)
  | str b => exact (by decide +kernel : kitB "str" "str" = some true)
  | tup l => exact (by decide +kernel : kitB "tuple" "str" = some false)
  | lst l => exact (by decide +kernel : kitB "list" "str" = some false)
  | dct l m => exact Bool.noConfusion (show false = true from h)
  | obj l m => exact Bool.noConfusion (show false = true from h)
  | fn l => exact Bool.noConfusion (show false = true from h)
theorem le_isi {W : WX} {ta : DE} {Ta : TE} {T : String} {p : D → Bool} (hp : IsiOk T p) (ha : LE G W ta Ta) : LE G W (dUn (oIsi p) ta) (tCB (rIsi G.K) (tCons Ta (tCons (tC (.ty T)) tNil))) := fun F0 H0 ρ F σ H Q QX QV S q hq hx =>
  ha.v S q (fun x u F1 H1 e1 r1 q1 => ⟨u, .ty T, .type x.tyn, .type T, p x, rfl, .ty T, rep_ty e1.fh q1.1 r1, kit_ty (hp x q1.1), hq _ _ F1 H1 (.val e1 (show Rep G F1 (.bl _) (.bl _) from rfl)) q1.2⟩) hx
end
section
variable {G : Gx} {X : Cx} {F H : Hp}
theorem dat_mono : ∀ (n m : Nat) (d : D), n ≤ m → d.dat n = true → d.dat m = true := by
  have key : ∀ (n : Nat), (∀ (d : D) (m : Nat), n ≤ m → d.dat n = true → d.dat m = true) := by
    intro n
    induction n with
    | zero =>
      intro d m hm h
      cases d <;> cases m <;> first | exact h | cases h | rfl
    | succ n ih =>
      have ihL : ∀ (l : List D) (m : Nat), n ≤ m → datL n l = true → datL m l = true := by
        intro l
        induction l with
        | nil => intro m _ _; cases m <;> rfl
        | cons d l ihl =>
          intro m hm h
          have h' : d.dat n = true ∧ datL n l = true := by cases n <;> exact Bool.and_eq_true_iff.mp h
          have z : (d.dat m && datL m l) = true := Bool.and_eq_true_iff.mpr ⟨ih d m hm h'.1, ihl m hm h'.2⟩
          cases m <;> exact z
      intro d m hm h
      obtain ⟨m, rfl⟩ : ∃ m', m = m' + 1 := ⟨m - 1, by omega⟩
      cases d with
      | tup l => exact ihL l m (by omega) h
      | lst l => exact ihL l m (by omega) h
      | _ => first | exact h | rfl
  exact fun n m d hm h => key n d m hm h
theorem any_eqv {x : D} : ∀ {l : List D}, x.dat 29 = true → datL 29 l = true → ((toPyL l).any fun z => PyData.eqv z (toPy x)) = inD x l
  | [], _, _ => rfl
  | d :: l, hx, h => by
    have h' := Bool.and_eq_true_iff.mp (show (d.dat 29 && datL 29 l) = true from h)
    show (PyData.eqv (toPy d) (toPy x) || (toPyL l).any fun z => PyData.eqv z (toPy x)) = (D.eq d x || inD x l)
    rw [eq_eqv 29 29 d x h'.1 hx, any_eqv hx h'.2]
theorem in_parts {x : D} {l : List D} (h : (x.dat 29 && datL 29 l) = true) : (x.dat 29 = true ∧ datL 29 l = true) ∧ SeqAt.shaped (toPy x) = true ∧ SeqAt.shaped (.list (toPyL l)) = true := by
  have h' := Bool.and_eq_true_iff.mp h
  exact ⟨h', dat_shaped (dat_mono 29 30 x (by decide) h'.1), dat_shaped (d := .lst l) h'.2⟩
theorem lr_in : LR2 G (cB bIn) (rInD G.K) := fun F H x y u v Q QV e rx ry q hq => by
  cases y with
  | lst l =>
    obtain ⟨h, q⟩ := q
    obtain ⟨⟨h1, h2⟩, s1, s2⟩ := in_parts h
    refine ⟨toPy x, toPyL l, rep_dp e 29 x u h1 rx, rep_dp e 30 (.lst l) v h2 ry, s1, s2, ?_⟩
    rw [any_eqv h1 h2]
    exact hq _ _ F H (.val (.refl e) (show Rep G F (.bl _) (.bl _) from rfl)) q
  | _ => exact q.elim
theorem lr_notIn : LR2 G (cB bNotIn) (rNotInD G.K) := fun F H x y u v Q QV e rx ry q hq => by
  cases y with
  | lst l =>
    obtain ⟨h, q⟩ := q
    obtain ⟨⟨h1, h2⟩, s1, s2⟩ := in_parts h
    refine ⟨toPy x, toPyL l, rep_dp e 29 x u h1 rx, rep_dp e 30 (.lst l) v h2 ry, s1, s2, ?_⟩
    rw [any_eqv h1 h2]
    exact hq _ _ F H (.val (.refl e) (show Rep G F (.bl _) (.bl _) from rfl)) q
  | _ => exact q.elim
theorem idx_eqv {y : D} : ∀ {l : List D} {j : Nat}, y.dat 29 = true → datL 29 l = true → idxD y l = some j → ∃ z, (toPyL l)[j]? = some z ∧ PyData.eqv z (toPy y) = true ∧ ∀ (m : Nat) (z' : PyData), m < j → (toPyL l)[m]? = some z' → PyData.eqv z' (toPy y) = false
  | [], j, _, _, e => by cases e
  | d :: l, j, hy, h, e => by
    have h' := Bool.and_eq_true_iff.mp (show (d.dat 29 && datL 29 l) = true from h)
    have e1 := eq_eqv 29 29 d y h'.1 hy
    have e : (if D.eq d y = true then some 0 else (idxD y l).map (· + 1)) = some j := e
    by_cases hd : D.eq d y = true
    · rw [if_pos hd] at e
      cases e
      exact ⟨toPy d, rfl, by rw [e1, hd], fun m _ hm => absurd hm (Nat.not_lt_zero _)⟩
    · rw [if_neg hd] at e
      cases e2 : idxD y l with
      | none => rw [e2] at e; cases e
      | some i =>
        rw [e2] at e
        cases e
        obtain ⟨z, z1, z2, z3⟩ := idx_eqv hy h'.2 e2
        refine ⟨z, z1, z2, fun m z' hm hz => ?_⟩
        cases m with
        | zero =>
          have : z' = toPy d := (Option.some.inj hz).symm
          rw [this, e1]
          simpa using hd
        | succ m => exact z3 m z' (by have hm : m + 1 < i + 1 := hm; omega) hz
theorem le_index {W : WX} {ta : DE} {Ta : TE} {n : Nat} {ts : DA} {Ts : TA} (ha : LE G W ta Ta) (hs : LA G W n ts Ts) : LE G W (dIndex ta ts) (tBM G.K "list" (rIndexD G.K) Ta Ts) := fun F0 H0 ρ F σ H Q QX QV S q hq hx =>
  ha.v S q (fun x u F1 H1 e1 r1 q1 => by
    cases x with
    | lst l =>
      obtain ⟨a, vs, rfl, h1, h2⟩ := id r1
      refine ⟨.inl ⟨rfl, vs, sqL_mono e1.fh h1⟩, hs F0 H0 ρ F1 σ H1 _ _ _ (S.ext e1) q1 (fun ds ws F2 H2 e2 r2 l2 q2 => ?_) (hx.ext e1)⟩
      obtain ⟨y, rfl⟩ : ∃ y, ds = [y] := by
        match ds, q2 with
        | [y], _ => exact ⟨y, rfl⟩
        | [], q => exact q.elim
        | _ :: _ :: _, q => exact q.elim
      obtain ⟨w, rfl, rw'⟩ := one_rep r2
      obtain ⟨hd, q3⟩ := q2
      obtain ⟨⟨d1, d2⟩, s1, s2⟩ := in_parts hd
      cases hj : idxD y l with
      | none => rw [hj] at q3; exact q3.elim
      | some j =>
        rw [hj] at q3
        obtain ⟨z, z1, z2, z3⟩ := idx_eqv d1 d2 hj
        have rl : Rep G F2 (.lst l) (.ref a) := Rep.mono e2.f (.lst l) r1
        exact ⟨a, w, toPy y, toPyL l, j, z, rfl, rfl, rep_dp e2.fh 30 (.lst l) _ d2 rl, rep_dp e2.fh 29 y w d1 rw', s2, s1, z1, z2, z3, hq _ _ F2 H2 (.val (e1.trans e2) (show Rep G F2 (.int _) (.int _) from rfl)) q3⟩
    | _ => exact q1.elim) hx
theorem lr_list : LRs G fList (fun xs H Q => ∃ p ys, xs = [V.ref p] ∧ (SqL G.K H p ys ∨ SqT G.K H p ys) ∧ ∀ l, H l = none → Q (.ref l) (upd H l (.lst ys))) := fun F H xs us Q QV e r q hq => by
  unfold fList at q
  split at q
  · obtain ⟨v, rfl, a, vs, rfl, h1, h2⟩ := one_rep r
    exact ⟨a, vs, rfl, .inl (sqL_mono e h1), fun p hp => hq _ _ F _ (.mkOwn (.refl e) hp h2) q⟩
  · obtain ⟨v, rfl, a, vs, rfl, h1, h2⟩ := one_rep r
    exact ⟨a, vs, rfl, .inr (sqT_mono e h1.1), fun p hp => hq _ _ F _ (.mkOwn (.refl e) hp h2) q⟩
  · exact q.elim
theorem le_bits {W : WX} {ta : DE} {Ta : TE} (ha : LE G W ta Ta) : LE G W (dUn oBits ta) (tBits Ta) := fun F0 H0 ρ F σ H Q QX QV S q hq hx =>
  ha.v S q (fun x u F1 H1 e1 r1 q1 => by
    cases x with
    | int i => exact ⟨i, r1, by rw [← bits_eq]; exact hq _ _ F1 H1 (.val e1 (show Rep G F1 (.int _) (.int _) from rfl)) q1⟩
    | _ => exact q1.elim) hx
theorem bool_r {f : D → D → (Bool → Prop) → Prop} {r : R2} (hl : LR2 G (cB f) r) {F H : Hp} {x y : D} {u v : V} {k : Bool → Prop} {QV : Bool → Hp → Prop} (e : Same F H) (rx : Rep G F x u) (ry : Rep G F y v) (q : f x y k) (hq : ∀ b F' H', Ext F H F' H' → k b → QV b H') : r u v H fun z H3 => ∃ b, z = .bl b ∧ QV b H3 :=
  hl F H x y u v (fun s => s.bool k) _ e rx ry q fun s w F' H' p q' => by
    cases s with
    | val d =>
      cases d with
      | bl b => exact ⟨b, p.v, hq b F' H' p.e q'⟩
      | _ => exact q'.elim
    | _ => exact q'.elim
theorem r_mono {f : D → D → (Bool → Prop) → Prop} {r : R2} (hl : LR2 G (cB f) r) {F H : Hp} {x y : D} {u v : V} {k : Bool → Prop} {QV : VK} (e : Same F H) (rx : Rep G F x u) (ry : Rep G F y v) (q : f x y k) (hq : ∀ b F' H', Ext F H F' H' → k b → QV (.bl b) H') : r u v H QV :=
  hl F H x y u v (fun s => s.bool k) _ e rx ry q fun s w F' H' p q' => by
    cases s with
    | val d =>
      cases d with
      | bl b => rw [show w = V.bl b from p.v]; exact hq b F' H' p.e q'
      | _ => exact q'.elim
    | _ => exact q'.elim
theorem le_chain {W : WX} {f g : D → D → (Bool → Prop) → Prop} {r r' : R2} {ta tb tc : DE} {Ta Tb Tc : TE} (hf : LR2 G (cB f) r) (hg : LR2 G (cB g) r') (ha : LE G W ta Ta) (hb : LE G W tb Tb) (hc : LE G W tc Tc) : LE G W (dChain f g ta tb tc) (tChain r r' Ta Tb Tc) := fun F0 H0 ρ F σ H Q QX QV S q hq hx =>
  ha.v S q (fun x u F1 H1 e1 r1 q1 => hb.v (S.ext e1) q1 (fun y v F2 H2 e2 r2 q2 =>
    bool_r hf e2.fh (Rep.mono e2.f x r1) r2 q2 fun b F3 H3 e3 q3 => two_if q3 (fun z => hc.v (((S.ext e1).ext e2).ext e3) z (fun w' v' F4 H4 e4 r4 q4 =>
      r_mono hg e4.fh (Rep.mono e4.f y (Rep.mono e3.f y r2)) r4 q4 fun c F5 H5 e5 q5 => hq _ _ F5 H5 (.val ((((e1.trans e2).trans e3).trans e4).trans e5) (show Rep G F5 (.bl c) (.bl c) from rfl)) q5) (((hx.ext e1).ext e2).ext e3))
      fun z => hq _ _ F3 H3 (.val ((e1.trans e2).trans e3) (show Rep G F3 (.bl false) (.bl false) from rfl)) z) (hx.ext e1)) hx
/-- a op1 b op2 c op3 d -/
def tChain3 (r r' r'' : R2) (ta tb tc td : TE) : TE := fun σ H Q => ta σ H fun x H1 => tb σ H1 fun y H2 => r x y H2 fun z H3 => ∃ k, z = .bl k ∧
  (if k = true then tc σ H3 fun w' H4 => r' y w' H4 fun z2 H5 => ∃ k2, z2 = .bl k2 ∧ (if k2 = true then td σ H5 fun w2 H6 => r'' w' w2 H6 Q else Q (.bl false) H5) else Q (.bl false) H3)
theorem pe_chain3 {op op' op'' : CmpOp} {r r' r'' : R2} {a b c d : Expr} {ta tb tc td : TE} {pos : Pos} (ho : OpR X (compareOp op) r) (ho' : OpR X (compareOp op') r') (ho'' : OpR X (compareOp op'') r'') (ha : PE X a ta) (hb : PE X b tb) (hc : PE X c tc) (hd : PE X d td)
    (hm : lastMarks [op, op', op''] [b, c, d] = false := by with_unfolding_all rfl) : PE X (.Compare a [op, op', op''] [b, c, d] pos) (tChain3 r r' r'' ta tb tc td) := by
  refine ⟨fun pins s σ H Q I h => ?_⟩
  refine Compare_chain (thn (ha.run pins s σ H _ I h) fun v s1 ⟨x, H1, I1, r1, q1⟩ => chain_link (thn (hb.run pins s1 σ H1 _ I1 q1) fun u s2 ⟨y, H2, I2, r2, q2⟩ =>
    thn (ho pins s2 σ H2 x y v u _ I2 r1 r2 q2) fun d' s3 ⟨z, H3, I3, r3, k, e, q3⟩ => ?_)) hm
  subst e
  cases r3
  refine wpAny_truthy_bool ?_
  cases k with
  | false => exact ite_ff ⟨.bl false, H3, I3, rfl, q3⟩
  | true =>
    refine ite_tt (chain_link (thn (hc.run pins s3 σ H3 _ I3 q3) fun w' s4 ⟨z', H4, I4, r4, q4⟩ => thn (ho' pins s4 σ H4 y z' u w' _ I4 r2 r4 q4) fun d2 s5 ⟨z2, H5, I5, r5, k2, e2, q5⟩ => ?_))
    subst e2
    cases r5
    refine wpAny_truthy_bool ?_
    cases k2 with
    | false => exact ite_ff ⟨.bl false, H5, I5, rfl, q5⟩
    | true => exact ite_tt (chain_last (thn (hd.run pins s5 σ H5 _ I5 q5) fun w2 s6 ⟨z3, H6, I6, r6, q6⟩ => ho'' pins s6 σ H6 z' z3 w' w2 Q I6 r4 r6 q6))
theorem pt_chain3 {op op' op'' : CmpOp} {r r' r'' : R2} {a b c d : Expr} {ta tb tc td : TE} {pos : Pos} (ho : OpR X (compareOp op) r) (ho' : OpR X (compareOp op') r') (ho'' : OpR X (compareOp op'') r'') (ha : PE X a ta) (hb : PE X b tb) (hc : PE X c tc) (hd : PE X d td)
    (hm : lastMarks [op, op', op''] [b, c, d] = false := by with_unfolding_all rfl) : PT X (.Compare a [op, op', op''] [b, c, d] pos) (tTest (tChain3 r r' r'' ta tb tc td)) := by
  refine ⟨fun pins s σ H Q I h => ?_⟩
  refine isTrue_chain (thn (ha.run pins s σ H _ I h) fun v s1 ⟨x, H1, I1, r1, q1⟩ => test_link (thn (hb.run pins s1 σ H1 _ I1 q1) fun u s2 ⟨y, H2, I2, r2, q2⟩ =>
    thn (ho pins s2 σ H2 x y v u _ I2 r1 r2 q2) fun d' s3 ⟨z, H3, I3, r3, k, e, q3⟩ => ?_)) hm
  subst e
  cases r3
  refine wpAny_truthy_bool ?_
  cases k with
  | false =>
    obtain ⟨k', e', q'⟩ := q3
    cases e'
    exact ite_ff ⟨H3, I3, q'⟩
  | true =>
    refine ite_tt (test_link (thn (hc.run pins s3 σ H3 _ I3 q3) fun w' s4 ⟨z', H4, I4, r4, q4⟩ => thn (ho' pins s4 σ H4 y z' u w' _ I4 r2 r4 q4) fun d2 s5 ⟨z2, H5, I5, r5, k2, e2, q5⟩ => ?_))
    subst e2
    cases r5
    refine wpAny_truthy_bool ?_
    cases k2 with
    | false =>
      obtain ⟨k', e', q'⟩ := q5
      cases e'
      exact ite_ff ⟨H5, I5, q'⟩
    | true =>
      refine ite_tt (test_last (thn (hd.run pins s5 σ H5 _ I5 q5) fun w2 s6 ⟨z3, H6, I6, r6, q6⟩ => thn (ho'' pins s6 σ H6 z' z3 w' w2 _ I6 r4 r6 q6) fun d3 s7 ⟨z4, H7, I7, r7, k3, e3, q7⟩ => ?_))
      subst e3
      cases r7
      exact wpAny_truthy_bool ⟨H7, I7, q7⟩
theorem le_chain3 {W : WX} {f g h : D → D → (Bool → Prop) → Prop} {r r' r'' : R2} {ta tb tc td : DE} {Ta Tb Tc Td : TE} (hf : LR2 G (cB f) r) (hg : LR2 G (cB g) r') (hh : LR2 G (cB h) r'') (ha : LE G W ta Ta) (hb : LE G W tb Tb) (hc : LE G W tc Tc) (hd : LE G W td Td) : LE G W (dChain3 f g h ta tb tc td) (tChain3 r r' r'' Ta Tb Tc Td) := fun F0 H0 ρ F σ H Q QX QV S q hq hx =>
  ha.v S q (fun x u F1 H1 e1 r1 q1 => hb.v (S.ext e1) q1 (fun y v F2 H2 e2 r2 q2 =>
    bool_r hf e2.fh (Rep.mono e2.f x r1) r2 q2 fun b F3 H3 e3 q3 => two_if q3 (fun z => hc.v (((S.ext e1).ext e2).ext e3) z (fun w' v' F4 H4 e4 r4 q4 =>
      bool_r hg e4.fh (Rep.mono e4.f y (Rep.mono e3.f y r2)) r4 q4 fun c F5 H5 e5 q5 => two_if q5 (fun z5 => hd.v (((((S.ext e1).ext e2).ext e3).ext e4).ext e5) z5 (fun w2 v2 F6 H6 e6 r6 q6 =>
        r_mono hh e6.fh (Rep.mono e6.f w' (Rep.mono e5.f w' r4)) r6 q6 fun c2 F7 H7 e7 q7 => hq _ _ F7 H7 (.val ((((((e1.trans e2).trans e3).trans e4).trans e5).trans e6).trans e7) (show Rep G F7 (.bl c2) (.bl c2) from rfl)) q7) (((((hx.ext e1).ext e2).ext e3).ext e4).ext e5))
        fun z5 => hq _ _ F5 H5 (.val ((((e1.trans e2).trans e3).trans e4).trans e5) (show Rep G F5 (.bl false) (.bl false) from rfl)) z5) (((hx.ext e1).ext e2).ext e3))
      fun z => hq _ _ F3 H3 (.val ((e1.trans e2).trans e3) (show Rep G F3 (.bl false) (.bl false) from rfl)) z) (hx.ext e1)) hx
end
end DL

/- DLd -/
namespace DL
open PySem PySem.Spec PyProof.Rows L2
section
variable {G : Gx} {W : WX} {ta tb tc te : DE} {Ta Tb Tc Te : TE} {ts : DA} {Ts : TA} {CA CB : TT} {t u : DS} {T U : TS}
theorem ls_next : LS G W dNext tNext := fun F0 H0 ρ F σ H N D' S E q => E.nx ρ F σ H S q
theorem ls_seq (h1 : LS G W t T) (h2 : LS G W u U) : LS G W (dSeq t u) (tSeq T U) := fun F0 H0 ρ F σ H N D' S E q =>
  h1 F0 H0 ρ F σ H { N with nx := fun r' => at_ u N r' } { D' with nx := U D' } S ⟨fun ρ' F' σ' H' S' q' => h2 F0 H0 ρ' F' σ' H' N D' S' E q', E.bk, E.ct, E.rt, E.xc⟩ q
theorem ls_cut (h1 : LS G W t T) (h2 : LS G W u U) : LS G W (dCut t u) (tSeq T U) := fun F0 H0 ρ F σ H N D' S E q => by
  obtain ⟨M, q1, q2⟩ := q
  exact h1 F0 H0 ρ F σ H { N with nx := M } { D' with nx := U D' } S ⟨fun ρ' F' σ' H' S' q' => h2 F0 H0 ρ' F' σ' H' N D' S' E (q2 ρ' q'), E.bk, E.ct, E.rt, E.xc⟩ q1
theorem ls_set {i : Nat} (he : LE G W te Te) : LS G W (dSet i te) (tAsg Te (gName i)) := fun F0 H0 ρ F σ H N D' S E q =>
  he F0 H0 ρ F σ H _ _ _ S q (fun s v F1 H1 p q1 => E.nx _ F1 _ H1 (S.set i p) q1) (E.xw S)
theorem Post.view {F H F' H' : Hp} {s : Sl} {v : V} (p : Post G F H s v F' H') : ∃ F'', Post G F H s.view v F'' H' := by
  cases s with
  | un => exact p.v.elim
  | val d => exact ⟨F', p⟩
  | own l =>
    obtain ⟨d, F'', e, r, k⟩ := p.use (k := fun d => d = .lst l) rfl
    subst k
    exact ⟨F'', e, r⟩
  | ownd ks us =>
    obtain ⟨d, F'', e, r, k⟩ := p.use (k := fun d => d = .dct ks us) rfl
    subst k
    exact ⟨F'', e, r⟩
theorem ls_setV {i : Nat} (he : LE G W te Te) : LS G W (dSetV i te) (tAsg Te (gName i)) := fun F0 H0 ρ F σ H N D' S E q =>
  he F0 H0 ρ F σ H _ _ _ S q (fun s v F1 H1 p q1 => by
    obtain ⟨F2, p2⟩ := p.view
    exact E.nx _ F2 _ H1 (S.set i p2) q1) (E.xw S)
theorem ls_drop (he : LE G W te Te) : LS G W (dDrop te) (tDrop Te) := fun F0 H0 ρ F σ H N D' S E q =>
  he F0 H0 ρ F σ H _ _ _ S q (fun s v F1 H1 p q1 => E.nx _ F1 _ H1 (S.ext p.e) q1) (E.xw S)
theorem ls_ret (he : LE G W te Te) : LS G W (dRet te) (tRet Te) := fun F0 H0 ρ F σ H N D' S E q =>
  he F0 H0 ρ F σ H _ _ _ S q (fun s v F1 H1 p q1 => E.rt s v F1 H1 (p.after S.e) q1) (E.xw S)
theorem ls_retN : LS G W dRetN tRetN := fun F0 H0 ρ F σ H N D' S E q => E.rt (.val .non) .non F H (.val S.e rfl) q
theorem ls_retOwn {i : Nat} : LS G W (dRetOwn i) (tRet (tVar i)) := fun F0 H0 ρ F σ H N D' S E q => by
  have q : (slotAt ρ i).given N.rt := q
  unfold slotAt at q
  cases hs : ρ[i]? with
  | none => rw [hs] at q; exact q.elim
  | some s =>
    rw [hs] at q
    cases s with
    | own l =>
      obtain ⟨p, vs, h1, h2, h3, h4, h5⟩ := S.sl i _ hs
      exact ⟨_, h1, E.rt (.own l) _ F H ⟨S.e, p, vs, rfl, h2, h3, h4, h5⟩ q⟩
    | ownd ks us =>
      obtain ⟨p, vs, h1, h2, h3, h4, h5⟩ := S.sl i _ hs
      exact ⟨_, h1, E.rt (.ownd ks us) _ F H ⟨S.e, p, vs, rfl, h2, h3, h4, h5⟩ q⟩
    | _ => exact q.elim
theorem ls_if (hc : LT G W tc CA) (ha : LS G W t T) (hb : LS G W u U) : LS G W (dIf tc t u) (tIfS CA T U) := fun F0 H0 ρ F σ H N D' S E q =>
  hc F0 H0 ρ F σ H _ _ _ S q (fun b F1 H1 e1 q1 => two_if q1 (fun z => ha F0 H0 ρ F1 σ H1 N D' (S.ext e1) E z) fun z => hb F0 H0 ρ F1 σ H1 N D' (S.ext e1) E z) (E.xw S)
theorem ls_never {T : TS} : LS G W dNever T := fun _ _ _ _ _ _ _ _ _ _ q => q.elim
theorem ls_break : LS G W dBreak tBreak := fun F0 H0 ρ F σ H N D' S E q => E.bk ρ F σ H S q
theorem ls_cont : LS G W dCont tCont := fun F0 H0 ρ F σ H N D' S E q => E.ct ρ F σ H S q
theorem SRep.frz {F0 H0 F H : Hp} {σ : Sg} {ρ : Env} (S : SRep G F0 H0 F H σ ρ) (i : Nat) : ∃ F', SRep G F0 H0 F' H σ (frz i ρ) ∧ Same F F' := by
  unfold DL.frz slotAt
  cases hi : ρ[i]? with
  | none =>
    have e : ρ.set i Sl.un = ρ := List.set_eq_of_length_le (List.getElem?_eq_none_iff.mp hi)
    exact ⟨F, by show SRep G F0 H0 F H σ (ρ.set i Sl.un); rw [e]; exact S, Same.refl _⟩
  | some s =>
    show ∃ F', SRep G F0 H0 F' H σ (ρ.set i s.view) ∧ Same F F'
    have hil : i < ρ.length := (List.getElem?_eq_some_iff.mp hi).1
    have nothing : s.view = s → ∃ F', SRep G F0 H0 F' H σ (ρ.set i s.view) ∧ Same F F' := fun e => by
      have e2 : ρ.set i s = ρ := by
        refine List.ext_getElem? fun j => ?_
        by_cases hj : i = j
        · subst hj; rw [List.getElem?_set_self hil, hi]
        · rw [List.getElem?_set_ne hj]
      rw [e, e2]
      exact ⟨F, S, Same.refl _⟩
    by_cases w : s.owns = true
    · obtain ⟨p, o, h1, h2, h3, h4, h5⟩ := (S.sl i s hi).own_at w
      have sF : Same F (upd F p o) := same_upd h3
      have e' : Ext F0 H0 (upd F p o) H := ⟨S.e.f.trans sF, fun b v z => by
          by_cases hb : b = p
          · subst hb; rw [upd_same] at z; cases z; exact h2
          · rw [upd_ne hb] at z; exact S.e.fh b v z, S.e.h, fun b v z => by
          by_cases hb : b = p
          · subst hb; exact .inr (.inl h4)
          · rw [upd_ne hb] at z; exact S.e.new b v z⟩
      refine ⟨upd F p o, ⟨by simpa using S.len, S.t0, e', fun j t q => ?_, fun j k t t' q z1 z2 w1 w2 y1 y2 => ?_⟩, sF⟩
      · by_cases hj : i = j
        · subst hj
          rw [List.getElem?_set_self hil] at q; cases q
          have z := S.sl i s hi
          cases s with
          | un => cases w
          | val d => cases w
          | own l =>
            obtain ⟨p', vs, k1, k2, k3, k4, k5⟩ := z
            rw [h1] at k1; cases k1
            rw [h2] at k2; cases k2
            exact ⟨.ref p, h1, by unfold Rep; exact ⟨p, vs, rfl, .inl (.inl upd_same), RepL.mono sF l k5⟩⟩
          | ownd ks us =>
            obtain ⟨p', vs, k1, k2, k3, k4, k5, k6⟩ := z
            rw [h1] at k1; cases k1
            rw [h2] at k2; cases k2
            exact ⟨.ref p, h1, by unfold Rep; exact ⟨p, vs, rfl, .inl upd_same, k5, RepL.mono sF us k6⟩⟩
        · rw [List.getElem?_set_ne hj] at q
          have z := S.sl j t q
          have np : ∀ {p'}, t.owns = true → σ[j]? = some (some (V.ref p')) → upd F p o p' = F p' := fun {p'} tw y => by
            refine upd_ne fun e => ?_
            subst e
            exact hj (S.dis i j s t p' hi q w tw h1 y)
          cases t with
          | un => trivial
          | val d => obtain ⟨v, k1, k2⟩ := z; exact ⟨v, k1, Rep.mono sF d k2⟩
          | own l => obtain ⟨p', vs, k1, k2, k3, k4, k5⟩ := z; exact ⟨p', vs, k1, k2, (np rfl k1).trans k3, k4, RepL.mono sF l k5⟩
          | ownd ks us => obtain ⟨p', vs, k1, k2, k3, k4, k5, k6⟩ := z; exact ⟨p', vs, k1, k2, (np rfl k1).trans k3, k4, k5, RepL.mono sF us k6⟩
      · have other : ∀ {j : Nat} {t : Sl}, (ρ.set i s.view)[j]? = some t → t.owns = true → ρ[j]? = some t := fun {j t} z tw => by
          by_cases hj : i = j
          · subst hj
            rw [List.getElem?_set_self hil] at z; cases z
            cases s <;> cases tw
          · rw [List.getElem?_set_ne hj] at z; exact z
        exact S.dis j k t t' q (other z1 w1) (other z2 w2) w1 w2 y1 y2
    · refine nothing ?_
      cases s with
      | un => rfl
      | val d => rfl
      | own l => exact (w rfl).elim
      | ownd l m => exact (w rfl).elim
theorem ls_frz {i : Nat} (h : LS G W t T) : LS G W (dFrz i t) T := fun F0 H0 ρ F σ H N D' S E q => by
  obtain ⟨F', S', _⟩ := S.frz i
  exact h F0 H0 _ F' σ H N D' S' E q
def setV : List Nat → List V → Sg → Sg
  | i :: is, v :: vs, σ => setV is vs (σ.set i (some v))
  | _, _, σ => σ
theorem SRep.setAll {F0 H0 F H : Hp} : ∀ {is : List Nat} {ds : List D} {vs : List V} {σ : Sg} {ρ : Env}, SRep G F0 H0 F H σ ρ → RepL G F ds vs → SRep G F0 H0 F H (setV is vs σ) (setAll is ds ρ)
  | [], _, _, _, _, S, _ => S
  | _ :: _, [], vs, σ, ρ, S, r => by rw [show vs = [] from r]; exact S
  | i :: is, d :: ds, vs, σ, ρ, S, ⟨v, r, e, h1, h2⟩ => by
    subst e
    exact SRep.setAll (is := is) (S.set i (.val (.refl S.same) h1)) h2
def gNs : List Nat → TGs
  | [] => gNil
  | i :: is => gCons (gName i) (gNs is)
theorem gNs_of : ∀ (is : List Nat) (vs : List V) (σ : Sg) (H : Hp) (Q : Sg → Hp → Prop), vs.length = is.length → Q (setV is vs σ) H → gNs is vs σ H Q
  | [], vs, σ, H, Q, l, q => by
    cases vs with
    | nil => exact ⟨rfl, q⟩
    | cons _ _ => cases l
  | i :: is, vs, σ, H, Q, l, q => by
    cases vs with
    | nil => cases l
    | cons v r => exact ⟨v, r, rfl, gNs_of is r _ H Q (by simpa using l) q⟩
theorem ls_unp {is : List Nat} {n : Nat} (he : LE G W te Te) (hn : n = is.length := by rfl) : LS G W (dUnp is te) (tAsg Te (gTup G.K n (gNs is))) := fun F0 H0 ρ F σ H N D' S E q => by
  subst hn
  refine he.v S q (fun d v F1 H1 e1 r1 q1 => ?_) (E.xw S)
  cases d with
  | tup l =>
    obtain ⟨a, vs, rfl, h1, h2⟩ := r1
    have h1 := h1.1
    refine ⟨a, vs, rfl, sqT_mono e1.fh h1, by rw [h2.length]; exact q1.1, gNs_of is vs σ H1 _ (by rw [h2.length]; exact q1.1) ?_⟩
    exact E.nx _ F1 _ H1 ((S.ext e1).setAll h2) q1.2
  | _ => exact q1.elim
theorem ls_unpL {is : List Nat} {n : Nat} (he : LE G W te Te) (hn : n = is.length := by rfl) : LS G W (dUnpL is te) (tAsg Te (gUnl G.K n (gNs is))) := fun F0 H0 ρ F σ H N D' S E q => by
  subst hn
  refine he.v S q (fun d v F1 H1 e1 r1 q1 => ?_) (E.xw S)
  cases d with
  | lst l =>
    obtain ⟨a, vs, rfl, h1, h2⟩ := r1
    refine ⟨a, vs, rfl, sqL_mono e1.fh h1, by rw [h2.length]; exact q1.1, gNs_of is vs σ H1 _ (by rw [h2.length]; exact q1.1) ?_⟩
    exact E.nx _ F1 _ H1 ((S.ext e1).setAll h2) q1.2
  | _ => exact q1.elim
theorem ls_par2 {i j : Nat} (ha : LA G W 2 ts Ts) : LS G W (dPar [i, j] ts) (tPar i j Ts) := fun F0 H0 ρ F σ H N D' S E q =>
  ha F0 H0 ρ F σ H _ _ _ S q (fun ds vs F1 H1 e1 r1 l1 q1 => by
    obtain ⟨d, e, rfl⟩ : ∃ d e, ds = [d, e] := by
      match ds, l1 with
      | [d, e], _ => exact ⟨d, e, rfl⟩
    obtain ⟨v, w, rfl, h1, h2⟩ := two_rep r1
    exact ⟨v, w, rfl, E.nx _ F1 _ H1 (SRep.setAll (is := [i, j]) (S.ext e1) r1) q1⟩) (E.xw S)
theorem ls_par3 {i j k : Nat} (ha : LA G W 3 ts Ts) : LS G W (dPar [i, j, k] ts) (tPar3 i j k Ts) := fun F0 H0 ρ F σ H N D' S E q =>
  ha F0 H0 ρ F σ H _ _ _ S q (fun ds vs F1 H1 e1 r1 l1 q1 => by
    obtain ⟨d, e, f, rfl⟩ : ∃ d e f, ds = [d, e, f] := by
      match ds, l1 with
      | [d, e, f], _ => exact ⟨d, e, f, rfl⟩
    obtain ⟨v, r', rfl, h1, h2⟩ := id r1
    obtain ⟨w, x, rfl, h3, h4⟩ := two_rep h2
    exact ⟨v, w, x, rfl, E.nx _ F1 _ H1 (SRep.setAll (is := [i, j, k]) (S.ext e1) r1) q1⟩) (E.xw S)
/-- four and more: the tuple is made and taken apart -/
theorem ls_parN {is : List Nat} {n : Nat} (ha : LA G W n ts Ts) (hn : n = is.length := by rfl) (h16 : Nat.ble n 16777216 = true := by rfl) : LS G W (dPar is ts) (tAsg (tTup Ts) (gTup G.K n (gNs is))) := fun F0 H0 ρ F σ H N D' S E q => by
  subst hn
  refine ha F0 H0 ρ F σ H _ _ _ S q (fun ds vs F1 H1 e1 r1 l1 q1 => ⟨by rw [r1.length, l1]; exact small16 h16, fun p hp => ?_⟩) (E.xw S)
  have e2 := e1.trans (.put (o := .tup vs) e1.fh hp)
  refine ⟨p, vs, rfl, .inl (.inl upd_same), by rw [r1.length, l1], gNs_of is vs σ _ _ (by rw [r1.length, l1]) ?_⟩
  exact E.nx _ _ _ _ ((S.ext e2).setAll (RepL.mono (same_upd (e1.fh.free hp)) ds r1)) q1
def LO (G : Gx) (W : WX) (t : DO) (T : TO) : Prop := ∀ F0 H0 (ρ : Env) F σ H (k : Option Int → Prop) (QX : DX) (QV : Option Int → Hp → Prop), SRep G F0 H0 F H σ ρ → t ρ k QX → (∀ o F' H', Ext F H F' H' → k o → QV o H') → XWish G W F H σ QX → T σ H QV
theorem lo_none : LO G W dNoPart tNoPart := fun F0 H0 ρ F σ H k QX QV S q hq _ => hq none F H (.refl S.same) q
theorem lo_some (ha : LE G W ta Ta) : LO G W (dPart ta) (tPart Ta) := fun F0 H0 ρ F σ H k QX QV S q hq hx =>
  ha.v S q (fun d v F1 H1 e1 r1 q1 => by
    cases d with
    | int i => exact ⟨i, r1, hq _ F1 H1 e1 q1⟩
    | _ => exact q1.elim) hx
theorem cutV_rep {F : Hp} {l : List D} {vs : List V} (r : RepL G F l vs) (lo hi : Option Int) : RepL G F (cutD l lo hi) (cutV vs lo hi) := by
  have e : vs.length = l.length := r.length
  have key : ∀ (n d : Nat) (o : Option Int), HT.sIx n d o = DL.sIx n d o := fun n d o => by cases o <;> rfl
  unfold cutV cutD
  rw [e, key, key]
  exact RepL.take _ (RepL.drop _ r)
theorem le_sl {tl th : DO} {Tl Th : TO} (ha : LE G W ta Ta) (hl : LO G W tl Tl) (hh : LO G W th Th) : LE G W (dSl ta tl th) (tSl (rSlL G.K) Ta Tl Th) := fun F0 H0 ρ F σ H Q QX QV S q hq hx =>
  ha.v S q (fun d v F1 H1 e1 r1 q1 => hl F0 H0 ρ F1 σ H1 _ _ _ (S.ext e1) q1 (fun lo F2 H2 e2 q2 => hh F0 H0 ρ F2 σ H2 _ _ _ ((S.ext e1).ext e2) q2 (fun hi F3 H3 e3 q3 => by
    cases d with
    | lst l =>
      obtain ⟨a, vs, rfl, h1, h2⟩ := r1
      have e23 := e2.trans e3
      exact ⟨a, vs, rfl, sqL_mono e23.fh (sqL_mono e23.f h1), fun p hp => hq _ _ F3 _ (.mkOwn (e1.trans e23) hp (cutV_rep (RepL.mono e23.f l h2) lo hi)) q3⟩
    | _ => exact q3.elim) ((hx.ext e1).ext e2)) (hx.ext e1)) hx
theorem ls_while (hc : LT G W tc CA) (hb : LS G W t T) : LS G W (dWhile tc t) (tWhile CA T) := fun F0 H0 ρ F σ H N D' S E q => by
  obtain ⟨Wd, ⟨m0, w0⟩, turn⟩ := q
  refine ⟨fun m σ H => ∃ ρ F, SRep G F0 H0 F H σ ρ ∧ Wd m ρ, ⟨m0, ρ, F, S, w0⟩, ?_⟩
  rintro m σ1 H1 ⟨ρ1, F1, S1, w1⟩
  refine hc F0 H0 ρ1 F1 σ1 H1 _ _ _ S1 (turn m ρ1 w1) (fun b F2 H2 e2 q2 => two_if q2 (fun z => ?_) fun z => E.nx ρ1 F2 σ1 H2 (S1.ext e2) z) (E.xw S1)
  refine ⟨fun σ' H' => ∃ m', m' < m ∧ ∃ ρ F, SRep G F0 H0 F H' σ' ρ ∧ Wd m' ρ, fun _ _ h => h, ?_⟩
  refine hb F0 H0 ρ1 F2 σ1 H2 { N with nx := fun r' => ∃ m', m' < m ∧ Wd m' r', ct := fun r' => ∃ m', m' < m ∧ Wd m' r', bk := N.nx } _ (S1.ext e2) (ERel.mk (fun ρ' F' σ' H' S' q => ?_) E.nx (fun ρ' F' σ' H' S' q => ?_) E.rt E.xc) z
  · obtain ⟨m', l, w'⟩ := q
    exact ⟨m', l, ρ', F', S', w'⟩
  · obtain ⟨m', l, w'⟩ := q
    exact ⟨m', l, ρ', F', S', w'⟩
/-- a list or a tuple, walked -/
def iSeq (K : PySem.W.Frag) (tl : TE) : TI := fun σ H R => tl σ H fun x H1 => (∃ a, x = .ref a ∧ (∃ xs, SqL K H1 a xs) ∧ R (Itl K a) H1) ∨ (∃ a, x = .ref a ∧ (∃ xs, SqT K H1 a xs) ∧ R (Itt K a) H1)
theorem pi_seq {X : Cx} {tg l : Expr} {tl : TE} (hl : PE X l tl) : PI X tg l (iSeq X.K tl) := by
  refine ⟨fun pins s σ H R I h => ?_⟩
  refine thn (hl.run pins s σ H _ I h) fun v s1 ⟨x, H1, I1, r1, q1⟩ => ?_
  have fresh : ∀ b ∈ [s1.heap.objs.size], FpOk X pins H1 b := fun b hb => by
    have e : b = s1.heap.objs.size := by simpa using hb
    subst e
    exact I1.fpOk (Nat.le_refl _) (I1.hok.fresh (Nat.le_refl _))
  rcases q1 with ⟨a, e, ⟨xs, hq⟩, q⟩ | ⟨a, e, ⟨xs, hq⟩, q⟩
  · subst e
    cases r1
    obtain ⟨its, rv, p, hz⟩ := I1.list hq
    refine wpAny_pyIter_list p.isList ?_
    exact ⟨s1.heap.objs.size, [s1.heap.objs.size], _, _, H1, rfl, I1.kept (t' := s1.toks) fun b o e => Heap.get?_push_of_some _ e, turn_list a _, ⟨_, Heap.get?_push_size _ rfl, rfl, rfl⟩, fresh, q⟩
  · subst e
    cases r1
    obtain ⟨its, rv, p, hz⟩ := I1.tuple hq
    refine wpAny_pyIter_tuple (show s1.heap.IsTuple a its.toArray from p) ?_
    exact ⟨s1.heap.objs.size, [s1.heap.objs.size], _, _, H1, rfl, I1.kept (t' := s1.toks) fun b o e => Heap.get?_push_of_some _ e, turn_tuple a _, ⟨_, Heap.get?_push_size _ rfl, rfl, rfl⟩, fresh, q⟩
/-- the state here as the ground of what follows -/
theorem SRep.rebase {F0 H0 F H : Hp} {σ : Sg} {ρ : Env} (S : SRep G F0 H0 F H σ ρ) : ∃ H1, SRep G F H1 F H σ ρ ∧ (∀ F' H' σ' ρ', SRep G F H1 F' H' σ' ρ' → SRep G F0 H0 F' H' σ' ρ') ∧ ∀ s v F' H', Post G F H1 s v F' H' → Post G F0 H0 s v F' H' := by
  classical
  let own : Addr → Prop := fun a => ∃ (i : Nat) (s : Sl), ρ[i]? = some s ∧ s.owns = true ∧ σ[i]? = some (some (V.ref a))
  let H1 : Hp := fun a => if own a then none else H a
  have at_own : ∀ {a}, own a → H0 a = none := fun {a} ⟨i, s, h1, h2, h3⟩ => by
    obtain ⟨p, u, z1, z2, z3, z4, z5⟩ := (S.sl i s h1).own_at h2
    rw [h3] at z1; cases z1
    exact z4
  have get : ∀ {a o}, H1 a = some o → H a = some o := fun {a o} z => by
    have z : (if own a then none else H a) = some o := z
    by_cases w : own a
    · rw [if_pos w] at z; cases z
    · rw [if_neg w] at z; exact z
  have none_of : ∀ {a}, H1 a = none → H0 a = none := fun {a} z => by
    have z : (if own a then none else H a) = none := z
    by_cases w : own a
    · exact at_own w
    · rw [if_neg w] at z; exact S.e.h.free z
  have up : Keep H0 H1 := S.e.h.less own (fun a w => if_neg w) fun a w => ⟨if_pos w, at_own w, by
    obtain ⟨i, s, h1, h2, h3⟩ := w
    obtain ⟨p, u, z1, z2, z3, z4, z5⟩ := (S.sl i s h1).own_at h2
    rw [h3] at z1; cases z1
    exact ⟨u, z2, z5⟩⟩
  have ex : ∀ {F' H'}, Ext F H1 F' H' → Ext F0 H0 F' H' := fun {F' H'} e => ⟨S.e.f.trans e.f, e.fh, up.trans e.h, fun a o z => by
    rcases e.new a o z with y | y
    · exact S.e.new a o y
    · exact .inr (y.imp none_of id)⟩
  refine ⟨H1, ⟨S.len, fun p hp => ⟨up.tab _ (S.t0 p hp).1, (S.tabs p hp).2⟩, ⟨Same.refl _, S.e.fh, .of fun a o z => get z, fun a o z => .inl z⟩, fun i s q => ?_, S.dis⟩, fun F' H' σ' ρ' S' => ⟨S'.len, S.t0, ex S'.e, fun i s q => ?_, S'.dis⟩, fun s v F' H' p => ⟨ex p.e, ?_⟩⟩
  · have z := S.sl i s q
    have hn : ∀ {p}, s.owns = true → σ[i]? = some (some (V.ref p)) → H1 p = none := fun {p} w y => if_pos ⟨i, s, q, w, y⟩
    cases s with
    | un => trivial
    | val d => exact z
    | own l => obtain ⟨p, vs, k1, k2, k3, k4, k5⟩ := z; exact ⟨p, vs, k1, k2, k3, hn rfl k1, k5⟩
    | ownd ks us => obtain ⟨p, vs, k1, k2, k3, k4, k5⟩ := z; exact ⟨p, vs, k1, k2, k3, hn rfl k1, k5⟩
  · have z := S'.sl i s q
    cases s with
    | un => trivial
    | val d => exact z
    | own l => obtain ⟨p, vs, k1, k2, k3, k4, k5⟩ := z; exact ⟨p, vs, k1, k2, k3, none_of k4, k5⟩
    | ownd ks us => obtain ⟨p, vs, k1, k2, k3, k4, k5⟩ := z; exact ⟨p, vs, k1, k2, k3, none_of k4, k5⟩
  · have z := p.v
    cases s with
    | un => exact z
    | val d => exact z
    | own l => obtain ⟨a, vs, k1, k2, k3, k4, k5⟩ := z; exact ⟨a, vs, k1, k2, k3, none_of k4, k5⟩
    | ownd ks us => obtain ⟨a, vs, k1, k2, k3, k4, k5⟩ := z; exact ⟨a, vs, k1, k2, k3, none_of k4, k5⟩
/-- one turn of a loop -/
theorem turn_step {N : DEnds} {D' : Ends} {F0 H0 F H : Hp} {σ : Sg} {ρ : Env} {M : Env → Prop} {P : Sg → Hp → Prop} (hb : LS G W t T) (E : ERel G W F0 H0 N D') (S : SRep G F0 H0 F H σ ρ) (q : t M N.rt N.nx M N.xc ρ)
    (hP : ∀ ρ2 F2 σ2 H2, SRep G F0 H0 F2 H2 σ2 ρ2 → Same F F2 → M ρ2 → P σ2 H2) : T { D' with nx := P, ct := P, bk := D'.nx } σ H := by
  obtain ⟨H1, S1, back, backP⟩ := S.rebase
  refine hb F H1 ρ F σ H { N with nx := M, ct := M, bk := N.nx } _ S1 (ERel.mk (fun ρ' F' σ' H' S' q => ?_) (fun ρ' F' σ' H' S' q => ?_) (fun ρ' F' σ' H' S' q => ?_) (fun s v F' H' p q => ?_) (fun x ρ' F' σ' H' cls d S' q r => ?_)) q
  · exact hP ρ' F' σ' H' (back _ _ _ _ S') S'.e.f q
  · exact E.nx ρ' F' σ' H' (back _ _ _ _ S') q
  · exact hP ρ' F' σ' H' (back _ _ _ _ S') S'.e.f q
  · exact E.rt s v F' H' (backP _ _ _ _ p) q
  · exact E.xc x ρ' F' σ' H' cls d (back _ _ _ _ S') q r
theorem drop_at {l : List D} {i : Nat} {d : D} (h : l[i]? = some d) : l.drop i = d :: l.drop (i + 1) := by
  obtain ⟨hi, e⟩ := List.getElem?_eq_some_iff.mp h
  rw [List.drop_eq_getElem_cons hi, e]
theorem at_of_len {G : Gx} {F : Hp} {l : List D} {vs : List V} {i : Nat} {v : V} (r : RepL G F l vs) (h : vs[i]? = some v) : ∃ d, l[i]? = some d ∧ Rep G F d v := by
  have hi := (List.getElem?_eq_some_iff.mp h).1
  rw [r.length] at hi
  obtain ⟨w, h1, h2⟩ := r.get (List.getElem?_eq_getElem hi)
  rw [h] at h1; cases h1
  exact ⟨_, List.getElem?_eq_getElem hi, h2⟩
/-- for x in a list -/
theorem ls_for {i : Nat} (hw : LE G W te Te) (hb : LS G W t T) : LS G W (dFor i te t) (tFor (iSeq G.K Te) (gName i) T) := fun F0 H0 ρ F σ H N D' S E q => by
  refine hw.v S q (fun d v F1 H1 e1 r1 q1 => ?_) (E.xw S)
  cases d with
  | lst l =>
    obtain ⟨a, vs, rfl, h1, h2⟩ := r1
    refine .inl ⟨a, rfl, ⟨vs, sqL_mono e1.fh h1⟩, for_list (K := G.K) (a := a) (xs := vs) (fun j σ H => ∃ ρ F, SRep G F0 H0 F H σ ρ ∧ SqL G.K F a vs ∧ RepL G F l vs ∧ dEvery i t N.nx N.rt N.xc (l.drop j) ρ) ⟨ρ, F1, S.ext e1, h1, h2, q1⟩ (fun j σ' H' _ ⟨ρ', F', S', g1, _⟩ => sqL_mono S'.same g1) ?_ ?_⟩
    · rintro j x σ' H' hj ⟨ρ', F', S', g1, g2, g3⟩
      obtain ⟨d, hd, rd⟩ := at_of_len g2 hj
      rw [drop_at hd] at g3
      exact turn_step hb E (S'.set i (.val (.refl S'.same) rd)) g3 fun ρ2 F2 σ2 H2 S2 sF m => ⟨ρ2, F2, S2, sqL_mono sF g1, RepL.mono sF l g2, m⟩
    · rintro σ' H' ⟨ρ', F', S', g1, g2, g3⟩
      rw [g2.length, List.drop_length] at g3
      exact E.nx ρ' F' σ' H' S' g3
  | tup l =>
    obtain ⟨a, vs, rfl, h1, h2⟩ := r1
    have h1 := h1.1
    refine .inr ⟨a, rfl, ⟨vs, sqT_mono e1.fh h1⟩, for_tup (K := G.K) (a := a) (xs := vs) (fun j σ H => ∃ ρ F, SRep G F0 H0 F H σ ρ ∧ SqT G.K F a vs ∧ RepL G F l vs ∧ dEvery i t N.nx N.rt N.xc (l.drop j) ρ) ⟨ρ, F1, S.ext e1, h1, h2, q1⟩ (fun j σ' H' _ ⟨ρ', F', S', g1, _⟩ => sqT_mono S'.same g1) ?_ ?_⟩
    · rintro j x σ' H' hj ⟨ρ', F', S', g1, g2, g3⟩
      obtain ⟨d, hd, rd⟩ := at_of_len g2 hj
      rw [drop_at hd] at g3
      exact turn_step hb E (S'.set i (.val (.refl S'.same) rd)) g3 fun ρ2 F2 σ2 H2 S2 sF m => ⟨ρ2, F2, S2, sqT_mono sF g1, RepL.mono sF l g2, m⟩
    · rintro σ' H' ⟨ρ', F', S', g1, g2, g3⟩
      rw [g2.length, List.drop_length] at g3
      exact E.nx ρ' F' σ' H' S' g3
  | _ => exact q1.elim

theorem rangeD_at {lo hi : Int} {i : Nat} (h : i < (hi - lo).toNat) : (rangeD lo hi)[i]? = some (.int (lo + i)) := by
  unfold rangeD
  rw [List.getElem?_map, List.getElem?_range h]
  rfl
theorem rangeD_len {lo hi : Int} : (rangeD lo hi).length = (hi - lo).toNat := by
  unfold rangeD
  rw [List.length_map, List.length_range]
/-- range(a), range(a, b): as an iterable's reading -/
def kRng (R : It → Hp → Prop) (vs : List V) (H1 : Hp) : Prop := (∃ j : Int, vs = [.int j] ∧ (-(2 ^ 62) ≤ j ∧ j < 2 ^ 62) ∧ R (Itr 0 j.toNat) H1) ∨ ∃ i j : Int, vs = [.int i, .int j] ∧ (-(2 ^ 62) ≤ i ∧ i < 2 ^ 62 ∧ -(2 ^ 62) ≤ j ∧ j < 2 ^ 62) ∧ R (Itr i (j - i).toNat) H1
def iRng (ta : TA) : TI := fun σ H R => ta σ H fun vs H1 => kRng R vs H1
theorem fRange_q {xs : List D} {Q : DK} (h : fRange xs Q) : ∃ lo hi : Int, Q (.val (.lst (rangeD lo hi))) ∧ ((xs = [.int hi] ∧ lo = 0 ∧ -(2 ^ 62) ≤ hi ∧ hi < 2 ^ 62) ∨ (xs = [.int lo, .int hi] ∧ (-(2 ^ 62) ≤ lo ∧ lo < 2 ^ 62 ∧ -(2 ^ 62) ≤ hi ∧ hi < 2 ^ 62))) := by
  unfold fRange at h
  split at h
  · rename_i j
    exact ⟨0, j, h.2, .inl ⟨rfl, rfl, h.1⟩⟩
  · rename_i i j
    exact ⟨i, j, h.2, .inr ⟨rfl, h.1⟩⟩
  · exact h.elim
theorem iRng_of {F : Hp} {xs : List D} {vs : List V} {Q : DK} {R : It → Hp → Prop} {H1 : Hp} (r : RepL G F xs vs) (h : fRange xs Q) (hR : ∀ lo hi, Q (.val (.lst (rangeD lo hi))) → R (Itr lo (hi - lo).toNat) H1) : kRng R vs H1 := by
  obtain ⟨lo, hi, q, ⟨e, e0, b⟩ | ⟨e, b⟩⟩ := fRange_q h
  · subst e e0
    obtain ⟨v, rfl, h1⟩ := one_rep r
    refine .inl ⟨hi, by rw [rint h1], b, ?_⟩
    have z := hR 0 hi q
    rwa [Int.sub_zero] at z
  · subst e
    obtain ⟨v, w, rfl, h1, h2⟩ := two_rep r
    exact .inr ⟨lo, hi, by rw [rint h1, rint h2], b, hR lo hi q⟩
theorem ls_forR {i n : Nat} (ha : LA G W n ts Ts) (hb : LS G W t T) : LS G W (dFor i (dAs fRange ts) t) (tFor (iRng Ts) (gName i) T) := fun F0 H0 ρ F σ H N D' S E q =>
  ha F0 H0 ρ F σ H _ _ _ S q (fun ds vs F1 H1 e1 r1 l1 q1 => by
    refine iRng_of r1 q1 fun lo hi q2 => ?_
    refine for_range (lo := lo) (n := (hi - lo).toNat) (fun j σ H => ∃ ρ F, SRep G F0 H0 F H σ ρ ∧ dEvery i t N.nx N.rt N.xc ((rangeD lo hi).drop j) ρ) ⟨ρ, F1, S.ext e1, q2⟩ ?_ ?_
    · rintro j σ' H' hj ⟨ρ', F', S', g3⟩
      rw [drop_at (rangeD_at hj)] at g3
      exact turn_step hb E (S'.set i (.val (.refl S'.same) (show Rep G F' (.int (lo + j)) (.int (lo + j)) from rfl))) g3 fun ρ2 F2 σ2 H2 S2 sF m => ⟨ρ2, F2, S2, m⟩
    · rintro σ' H' ⟨ρ', F', S', g3⟩
      rw [← rangeD_len (lo := lo) (hi := hi), List.drop_length] at g3
      exact E.nx ρ' F' σ' H' S' g3) (E.xw S)
/-- a turn of a comprehension: D the new list -/
theorem lc_step {tt : DE} {TT' : TT} {i : Nat} {F0 H0 : Hp} {ρ : Env} {σ : Sg} {F1 H1 F H : Hp} {D : Addr} {acc : List V} {ys : List DL.D} {x : DL.D} {v : V} {k : Option DL.D → Prop} {P : Hp → Prop} (ht : LT G (fun _ _ _ _ => False) tt TT') (he : LE G (fun _ _ _ _ => False) te Te)
    (S : SRep G F0 H0 F1 H1 σ ρ) (e : Ext F1 H1 F H) (hD : H D = some (.lst acc)) (hF : F D = none) (hn : H1 D = none) (ra : RepL G F ys acc) (rx : Rep G F x v) (hi : i < σ.length) (hl : acc.length < 16777216) (q : oneLc i tt te ρ x k)
    (hP : ∀ F' H' acc' o, Ext F1 H1 F' H' → Same F F' → H' D = some (.lst acc') → F' D = none → RepL G F' (match o with | some y => ys ++ [y] | none => ys) acc' → k o → P H') :
    gName i v (wipe σ [i]) H fun σ2 H2 => wipe σ2 [i] = wipe σ [i] ∧ TT' σ2 H2 fun b H3 => if b = true then Te σ2 H3 fun y H4 => ∃ acc, H4 D = some (.lst acc) ∧ acc.length < sizeLine ∧ P (upd H4 D (.lst (acc ++ [y]))) else P H3 := by
  have e0 : (wipe σ [i]).set i (some v) = σ.set i (some v) := by
    show ((σ.set i none).set i (some v)) = _
    rw [List.set_set]
  show wipe ((wipe σ [i]).set i (some v)) [i] = wipe σ [i] ∧ _
  rw [e0]
  refine ⟨by show (σ.set i (some v)).set i none = σ.set i none; rw [List.set_set], ?_⟩
  have Sx : SRep G F0 H0 F H (σ.set i (some v)) (ρ.set i (.val x)) := (S.ext e).set i (.val (.refl e.fh) rx)
  refine ht F0 H0 _ F _ H _ _ _ Sx q (fun b F2 H2 e2 q2 => two_if q2 (fun z => ?_) fun z => ?_) .none
  · refine he.v (Sx.ext e2) z (fun y w F3 H3 e3 r3 q3 => ?_) .none
    have e23 := e2.trans e3
    have hF3 : F3 D = none := e23.hidden hF hD (.inl ⟨_, rfl⟩)
    refine ⟨acc, e23.h.lst hD, by rw [sizeLine_eq]; exact hl, hP F3 _ _ (some y) ⟨e.f.trans e23.f, fun a o z => ?_, (e.h.trans e23.h).writeL hn (e23.h.lst hD), fun a o z => (e.trans e23).new a o z⟩ e23.f upd_same hF3 ((RepL.mono e23.f ys ra).append ⟨w, [], rfl, r3, rfl⟩) q3⟩
    · rw [upd_ne (fun h => by subst h; rw [hF3] at z; cases z)]; exact e23.fh a o z
  · exact hP F2 H2 acc none (e.trans e2) e2.f (e2.h.lst hD) (e2.hidden hF hD (.inl ⟨_, rfl⟩)) (RepL.mono e2.f ys ra) z
theorem dEach_len {f : DL.D → (Option DL.D → Prop) → Prop} {l : List DL.D} : True := trivial
/-- the iterable is a list or a tuple -/
theorem le_lcA {tw tt : DE} {Tw : TE} {TT' : TT} {i : Nat} (hw : LE G W tw Tw) (ht : LT G (fun _ _ _ _ => False) tt TT') (he : LE G (fun _ _ _ _ => False) te Te) {F0 H0 : Hp} {ρ : Env} {F : Hp} {σ : Sg} {H : Hp} {Q : DK} {QX : DX} {QV : VK} (hN : i < σ.length) (S : SRep G F0 H0 F H σ ρ) (q : dLc i tw tt te ρ Q QX) (hq : ∀ s v F' H', Post G F H s v F' H' → Q s → QV v H') (hx : XWish G W F H σ QX) :
    tLc (iSeq G.K Tw) (gName i) TT' Te [i] σ H QV := by
  refine hw.v S q (fun d v F1 H1 e1 r1 q1 => ?_) hx
  have S1 := S.ext e1
  have hi := hN
  have fin : ∀ {D : Addr} {H' : Hp} {F' : Hp} {acc : List V} {ys : List DL.D}, H1 D = none → Ext F1 H1 F' H' → H' D = some (.lst acc) → F' D = none → RepL G F' ys acc → Q (.own ys) → QV (.ref D) H' := fun {D H' F' acc ys} hn e h1 h2 r q => hq (.own ys) _ F' H' ⟨e1.trans e, D, acc, rfl, h1, h2, e1.h.free hn, r⟩ q
  cases d with
  | lst l =>
    obtain ⟨a, vs, rfl, h1, h2⟩ := r1
    obtain ⟨hl, q1⟩ := q1
    refine .inl ⟨a, rfl, ⟨vs, sqL_mono e1.fh h1⟩, fun D hD => lc_list (K := G.K) (a := a) (xs := vs) (fun j H => ∃ F acc ys, Ext F1 H1 F H ∧ H D = some (.lst acc) ∧ F D = none ∧ RepL G F ys acc ∧ acc.length ≤ j ∧ dEach (oneLc i tt te ρ) (l.drop j) fun zs => Q (.own (ys ++ zs)))
      ⟨F1, [], [], ⟨Same.refl _, e1.fh.trans (same_upd hD), .of (same_upd hD), fun _ _ z => .inl z⟩, upd_same, e1.fh.free hD, rfl, Nat.le_refl _, q1⟩ (fun j H' _ h => ?_) ?_ ?_⟩
    · obtain ⟨F', acc, ys, e, _⟩ := h
      exact sqL_mono e.fh (sqL_mono e.f h1)
    · rintro j x H' hj ⟨F', acc, ys, e, g1, g2, g3, g4, g5⟩
      obtain ⟨d, hd, rd⟩ := at_of_len h2 hj
      have hjl := (List.getElem?_eq_some_iff.mp hd).1
      rw [drop_at hd] at g5
      refine lc_step ht he S1 e g1 g2 hD g3 (Rep.mono e.f d rd) hi (by omega) g5 fun F2 H2 acc' o e2 sF k1 k2 k3 k4 => ⟨F2, acc', _, e2, k1, k2, k3, ?_, ?_⟩
      · have w := k3.length
        have w0 := g3.length
        cases o <;> simp at w <;> omega
      · cases o with
        | none => exact k4
        | some y => simpa using k4
    · rintro H' ⟨F', acc, ys, e, g1, g2, g3, g4, g5⟩
      rw [h2.length, List.drop_length] at g5
      have g5 : Q (.own (ys ++ [])) := g5
      rw [List.append_nil] at g5
      exact fin hD e g1 g2 g3 g5
  | tup l =>
    obtain ⟨a, vs, rfl, h1, h2⟩ := r1
    have h1 := h1.1
    obtain ⟨hl, q1⟩ := q1
    refine .inr ⟨a, rfl, ⟨vs, sqT_mono e1.fh h1⟩, fun D hD => lc_tup (K := G.K) (a := a) (xs := vs) (fun j H => ∃ F acc ys, Ext F1 H1 F H ∧ H D = some (.lst acc) ∧ F D = none ∧ RepL G F ys acc ∧ acc.length ≤ j ∧ dEach (oneLc i tt te ρ) (l.drop j) fun zs => Q (.own (ys ++ zs)))
      ⟨F1, [], [], ⟨Same.refl _, e1.fh.trans (same_upd hD), .of (same_upd hD), fun _ _ z => .inl z⟩, upd_same, e1.fh.free hD, rfl, Nat.le_refl _, q1⟩ (fun j H' _ h => ?_) ?_ ?_⟩
    · obtain ⟨F', acc, ys, e, _⟩ := h
      exact sqT_mono e.fh (sqT_mono e.f h1)
    · rintro j x H' hj ⟨F', acc, ys, e, g1, g2, g3, g4, g5⟩
      obtain ⟨d, hd, rd⟩ := at_of_len h2 hj
      have hjl := (List.getElem?_eq_some_iff.mp hd).1
      rw [drop_at hd] at g5
      refine lc_step ht he S1 e g1 g2 hD g3 (Rep.mono e.f d rd) hi (by omega) g5 fun F2 H2 acc' o e2 sF k1 k2 k3 k4 => ⟨F2, acc', _, e2, k1, k2, k3, ?_, ?_⟩
      · have w := k3.length
        have w0 := g3.length
        cases o <;> simp at w <;> omega
      · cases o with
        | none => exact k4
        | some y => simpa using k4
    · rintro H' ⟨F', acc, ys, e, g1, g2, g3, g4, g5⟩
      rw [h2.length, List.drop_length] at g5
      have g5 : Q (.own (ys ++ [])) := g5
      rw [List.append_nil] at g5
      exact fin hD e g1 g2 g3 g5
  | _ => exact q1.elim
theorem le_lcRA {tt : DE} {TT' : TT} {i n : Nat} (ha : LA G W n ts Ts) (ht : LT G (fun _ _ _ _ => False) tt TT') (he : LE G (fun _ _ _ _ => False) te Te) {F0 H0 : Hp} {ρ : Env} {F : Hp} {σ : Sg} {H : Hp} {Q : DK} {QX : DX} {QV : VK} (hN : i < σ.length) (S : SRep G F0 H0 F H σ ρ) (q : dLc i (dAs fRange ts) tt te ρ Q QX) (hq : ∀ s v F' H', Post G F H s v F' H' → Q s → QV v H') (hx : XWish G W F H σ QX) :
    tLc (iRng Ts) (gName i) TT' Te [i] σ H QV :=
  ha F0 H0 ρ F σ H _ _ _ S q (fun ds vs F1 H1 e1 r1 l1 q1 => by
    refine iRng_of r1 q1 fun lo hi q2 => ?_
    obtain ⟨hl, q2⟩ := q2
    have S1 := S.ext e1
    have hii := hN
    intro D hD
    refine lc_range (lo := lo) (n := (hi - lo).toNat) (fun j H => ∃ F acc ys, Ext F1 H1 F H ∧ H D = some (.lst acc) ∧ F D = none ∧ RepL G F ys acc ∧ acc.length ≤ j ∧ dEach (oneLc i tt te ρ) ((rangeD lo hi).drop j) fun zs => Q (.own (ys ++ zs)))
      ⟨F1, [], [], ⟨Same.refl _, e1.fh.trans (same_upd hD), .of (same_upd hD), fun _ _ z => .inl z⟩, upd_same, e1.fh.free hD, rfl, Nat.le_refl _, q2⟩ ?_ ?_
    · rintro j H' hj ⟨F', acc, ys, e, g1, g2, g3, g4, g5⟩
      have hjl : j < (rangeD lo hi).length := by rw [rangeD_len]; exact hj
      rw [drop_at (rangeD_at hj)] at g5
      refine lc_step ht he S1 e g1 g2 hD g3 (show Rep G F' (.int (lo + j)) (.int (lo + j)) from rfl) hii (by omega) g5 fun F2 H2 acc' o e2 sF k1 k2 k3 k4 => ⟨F2, acc', _, e2, k1, k2, k3, ?_, ?_⟩
      · have w := k3.length
        have w0 := g3.length
        cases o <;> simp at w <;> omega
      · cases o with
        | none => exact k4
        | some y => simpa using k4
    · rintro H' ⟨F', acc, ys, e, g1, g2, g3, g4, g5⟩
      rw [← rangeD_len (lo := lo) (hi := hi), List.drop_length] at g5
      have g5 : Q (.own (ys ++ [])) := g5
      rw [List.append_nil] at g5
      exact hq (.own ys) _ F' H' ⟨e1.trans e, D, acc, rfl, g1, g2, e1.h.free hD, g3⟩ g5) hx
theorem SRep.write {F0 H0 F H : Hp} {σ : Sg} {ρ : Env} {i : Nat} {l l' : List D} {p : Addr} {vs' : List V} (S : SRep G F0 H0 F H σ ρ) (hi : ρ[i]? = some (.own l)) (hp : σ[i]? = some (some (.ref p))) (r : RepL G F l' vs') :
    SRep G F0 H0 F (upd H p (.lst vs')) σ (ρ.set i (.own l')) := by
  obtain ⟨p', vs, k1, k2, k3, k4, k5⟩ := S.sl i _ hi
  rw [hp] at k1; cases k1
  have hil : i < ρ.length := (List.getElem?_eq_some_iff.mp hi).1
  refine ⟨by simpa using S.len, S.t0, ⟨S.e.f, fun a o z => ?_, S.e.h.writeL k4 k2, S.e.new⟩, fun j t q => ?_, fun j k t t' q z1 z2 w1 w2 y1 y2 => ?_⟩
  · rw [upd_ne (fun h => by subst h; rw [k3] at z; cases z)]; exact S.e.fh a o z
  · by_cases hj : i = j
    · subst hj
      rw [List.getElem?_set_self hil] at q; cases q
      exact ⟨p, vs', hp, upd_same, k3, k4, r⟩
    · rw [List.getElem?_set_ne hj] at q
      have z := S.sl j t q
      have np : ∀ {p'}, t.owns = true → σ[j]? = some (some (V.ref p')) → p' ≠ p := fun {p'} tw y e => by
        subst e
        exact hj (S.dis i j _ t p' hi q rfl tw hp y)
      cases t with
      | un => trivial
      | val d => exact z
      | own l => obtain ⟨p', ws, g1, g2, g3, g4, g5⟩ := z; exact ⟨p', ws, g1, by rw [upd_ne (np rfl g1)]; exact g2, g3, g4, g5⟩
      | ownd ks us => obtain ⟨p', ws, g1, g2, g3, g4, g5⟩ := z; exact ⟨p', ws, g1, by rw [upd_ne (np rfl g1)]; exact g2, g3, g4, g5⟩
  · have other : ∀ {j : Nat} {t : Sl}, (ρ.set i (.own l'))[j]? = some t → t.owns = true → ∃ t', ρ[j]? = some t' ∧ t'.owns = true := fun {j t} z tw => by
      by_cases hj : i = j
      · subst hj; exact ⟨_, hi, rfl⟩
      · rw [List.getElem?_set_ne hj] at z; exact ⟨t, z, tw⟩
    obtain ⟨s1, a1, b1⟩ := other z1 w1
    obtain ⟨s2, a2, b2⟩ := other z2 w2
    exact S.dis j k s1 s2 q a1 a2 b1 b2 y1 y2
theorem ls_app {i : Nat} (he : LE G W te Te) : LS G W (dApp i te) (tDrop (tBM G.K "list" rAppend (tVar i) (tCons Te tNil))) := fun F0 H0 ρ F σ H N D' S E q => by
  have q : (slotAt ρ i).owned fun l => te ρ (fun s => s.use fun d => l.length < 16777216 ∧ N.nx (ρ.set i (.own (l ++ [d])))) fun e => N.xc e ρ := q
  unfold slotAt at q
  cases hs : ρ[i]? with
  | none => rw [hs] at q; exact q.elim
  | some s =>
   rw [hs] at q
   cases s with
   | own l =>
    have hl := hs
    obtain ⟨p, vs, k1, k2, k3, k4, k5⟩ := S.sl i _ hl
    refine ⟨_, k1, .inl ⟨rfl, _, SqL.of k2⟩, ?_⟩
    refine he.v S q (fun d v F1 H1 e1 r1 q1 => ?_) (E.xw S)
    have S1 := S.ext e1
    refine ⟨p, vs, v, rfl, rfl, e1.h.lst k2, by rw [k5.length, sizeLine_eq]; exact q1.1, E.nx _ F1 σ _ (S1.write hl k1 ((RepL.mono e1.f l k5).append (show RepL G F1 [d] [v] from ⟨v, [], rfl, r1, rfl⟩))) q1.2⟩
   | _ => exact q.elim
/-- a def's promise over data, as a promise of the hand layer -/
def spD (G : Gx) (f : DF) : Sp := fun vs H Q E => ∃ F ds QD QX, Same F H ∧ TabsF G.tabs F H ∧ RepL G F ds vs ∧ f ds QD QX ∧ (∀ s v F' H', Post G F H s v F' H' → QD s → Q v H') ∧ ∀ x, QX x → ∀ cls d F' H', Ext F H F' H' → XRep G F' x cls d H' → E cls d H'
theorem le_call {n : Nat} {f : DF} (ha : LA G W n ts Ts) : LE G W (dCall f ts) (tCallS (spD G f) (WE W) Ts) := fun F0 H0 ρ F σ H Q QX QV S q hq hx =>
  ha F0 H0 ρ F σ H _ _ _ S q (fun ds vs F1 H1 e1 r1 l1 q1 => ⟨F1, ds, Q, QX, e1.fh, (S.ext e1).tabs, r1, q1, fun s v F2 H2 p q2 => hq s v F2 H2 (p.after e1) q2, hx.ext e1⟩) hx
theorem start_get {N : List Str} {vs : List V} {i : Nat} {v : V} (h : vs[i]? = some v) : (L2.start N vs)[i]? = some (some v) := by
  have hi := (List.getElem?_eq_some_iff.mp h).1
  unfold L2.start
  rw [List.getElem?_append_left (by simpa using hi), List.getElem?_map, h]
  rfl
theorem sRep_start {F H : Hp} {N : List Str} {np n : Nat} {ds : List D} {vs : List V} (e : Same F H) (tb : TabsF G.tabs F H) (r : RepL G F ds vs) (hN : N.length = n) (hp : ds.length = np) (hnp : np ≤ n) : SRep G F H F H (L2.start N vs) (ds.map Sl.val ++ List.replicate (n - np) .un) := by
  have rl := r.length
  refine ⟨?_, tb, .refl e, fun i s q => ?_, fun i j s t p h1 h2 w1 w2 _ _ => ?_⟩
  · unfold L2.start
    simp only [List.length_append, List.length_map, List.length_replicate]
    omega
  · by_cases hi : i < (ds.map Sl.val).length
    · rw [List.getElem?_append_left hi, List.getElem?_map] at q
      cases hd : ds[i]? with
      | none => rw [hd] at q; cases q
      | some d =>
        rw [hd] at q; cases q
        obtain ⟨v, h1, h2⟩ := r.get hd
        exact ⟨v, start_get h1, h2⟩
    · rw [List.getElem?_append_right (by omega)] at q
      rw [List.getElem?_replicate] at q
      split at q
      · cases q; trivial
      · cases q
  · have no : ∀ {i : Nat} {s : Sl}, (ds.map Sl.val ++ List.replicate (n - np) Sl.un)[i]? = some s → s.owns = true → False := fun {i s} q w => by
      by_cases hi : i < (ds.map Sl.val).length
      · rw [List.getElem?_append_left hi, List.getElem?_map] at q
        cases hd : ds[i]? with
        | none => rw [hd] at q; cases q
        | some d => rw [hd] at q; cases q; cases w
      · rw [List.getElem?_append_right (by omega), List.getElem?_replicate] at q
        split at q
        · cases q; cases w
        · cases q
    exact (no h1 w1).elim
end
/-- what a body must be: a walk with its reading over data -/
def JSs (X : Cx) (G : Gx) (W : WX) (st : List Stmt) (t : DS) : Prop := ∃ T, PSs X st T ∧ LS G W t T
def JS (X : Cx) (G : Gx) (W : WX) (st : Stmt) (t : DS) : Prop := ∃ T, PS X st T ∧ LS G W t T
def JE (X : Cx) (G : Gx) (W : WX) (e : Expr) (t : DE) : Prop := ∃ T, PE X e T ∧ LE G W t T
def JT (X : Cx) (G : Gx) (W : WX) (e : Expr) (t : DE) : Prop := ∃ T, PT X e T ∧ LT G W t T
def JW (X : Cx) (G : Gx) (W : WX) (e : Expr) (t : DE) : Prop := ∃ T, PW X e T ∧ LT G W t T
def JA (X : Cx) (G : Gx) (W : WX) (n : Nat) (es : List Expr) (t : DA) : Prop := ∃ T, PA X es T ∧ LA G W n t T
def JO (X : Cx) (G : Gx) (W : WX) (e : Option Expr) (t : DO) : Prop := ∃ T, PO X e T ∧ LO G W t T
/-- a def that keeps a promise over data, by its global name -/
structure Fn1 (P : Program) (w : World) (G : Gx) (mg : Str → Option Value) (base : Heap) (k : Nat) (x : Str) (f : DF) : Prop where
  ex : ∃ (a : Addr) (fd : FuncData) (ps : List Str), mg x = some (.ref a) ∧ PySem.W.keepIn G.K (.ref a) = true ∧ Binds G.K fd ps [] ∧ FnOk P w G.K mg base (L2.CX P w) k a fd ps (spD G f)
/-- a def of the text, by its global name -/
structure DefAt (G : Gx) (mg : Str → Option Value) (x : Str) (st : Stmt) : Prop where
  ex : ∃ (a : Addr) (fd : FuncData), mg x = some (.ref a) ∧ FunD G.K x x (defArgs st) (defBody st) (defScope st) [] [] a fd
/-- THE RULE for a def -/
theorem fnOk_mk {P : Program} {w : World} {G : Gx} {mg : Str → Option Value} {base : Heap} {k np n : Nat} {x : Str} {st : Stmt} {N ps : List Str} {t : DS} {a : Addr} {fd : FuncData} (F : FunD G.K x x (defArgs st) (defBody st) (defScope st) [] [] a fd) (S : FnScope N ps (defScope st)) (hN : N.length = n) (hp : ps.length = np) (hnp : np ≤ n)
    (hb : ∀ (f : Addr) (cdv : Value) (A : Around) (outer : List PySem.Env) (s : Shared) (H : Hp) (E : XK), Room k (A.deeper (envOfC x (defScope st) s.heap.objs.size f cdv)) →
      JSs (cxOf (L2.CX P w) P w G.K mg base N x (defScope st) f cdv A outer s H E) G (fun cls d _ H => E cls d H) (defBody st) t) : FnOk P w G.K mg base (L2.CX P w) (k + 1) a fd ps (spD G (dFun np n t)) := by
  refine F.ok S (fun vs H Q E h => ?_) fun cdv A outer s H vs Q E hr h => ?_
  · obtain ⟨F', ds, QD, QX, _, _, r, ⟨hl, _⟩, _⟩ := h
    rw [r.length, hl, hp]
  · obtain ⟨F', ds, QD, QX, e, tb, r, ⟨hl, q⟩, hQ, hX⟩ := h
    obtain ⟨T, hT, hL⟩ := hb a cdv A outer s H E hr
    refine ⟨T, hT, hL F' H _ F' _ H ⟨_, _, _, _, _⟩ _ (sRep_start e tb r hN hl hnp) (ERel.mk (fun ρ F1 σ H1 S1 q1 => ?_) (fun ρ F1 σ H1 S1 q1 => ?_) (fun ρ F1 σ H1 S1 q1 => ?_) (fun s v F1 H1 p q1 => ?_) (fun x ρ F1 σ H1 cls d S1 q1 r1 => ?_)) q⟩
    · exact hQ (.val .non) .non F1 H1 (.val S1.e rfl) q1
    · exact q1.elim
    · exact q1.elim
    · exact hQ s v F1 H1 p q1
    · exact hX x q1 cls d F1 H1 S1.e r1
theorem fn1_mk {P : Program} {w : World} {G : Gx} {mg : Str → Option Value} {base : Heap} {k np n : Nat} {x : Str} {st : Stmt} {N ps : List Str} {t : DS} (A : DefAt G mg x st) (S : FnScope N ps (defScope st)) (hN : N.length = n) (hp : ps.length = np) (hnp : np ≤ n)
    (hbind : ∀ (kV doc pm : Value) (an : Option Addr) (cdv ct : Value) (us : List Value), us.length = ps.length → bindArgs (PySem.W.fnOf x x (defArgs st) (defBody st) (defScope st) .none kV doc pm an cdv ct) ⟨us, []⟩ = pure (ps.zip us))
    (hb : ∀ (f : Addr) (cdv : Value) (A : Around) (outer : List PySem.Env) (s : Shared) (H : Hp) (E : XK), Room k (A.deeper (envOfC x (defScope st) s.heap.objs.size f cdv)) →
      JSs (cxOf (L2.CX P w) P w G.K mg base N x (defScope st) f cdv A outer s H E) G (fun cls d _ H => E cls d H) (defBody st) t) : Fn1 P w G mg base (k + 1) x (dFun np n t) := by
  obtain ⟨a, fd, hm, F⟩ := A.ex
  exact ⟨a, fd, ps, hm, F.kp, F.bindsN hbind, fnOk_mk F S hN hp hnp hb⟩
end DL

/- DLe -/
namespace DL
open PySem PySem.Spec PyProof.Rows L2
/-- where a derivation stands -/
structure Cxt (X : Cx) (G : Gx) (W : WX) (k : Nat) : Prop where
  K : X.K = G.K
  calm : X.calm = true
  nd : X.N.Nodup
  room : Room k X.A
  hx : ∀ σ, PassesAt (L2.CX X.prog X.w) X σ (WE W σ)
  own : PassesOwn (model X.prog X.w) X.A X.env X.xe
  tk : Takes X W
abbrev W0 : WX := fun _ _ _ _ => False
section
variable {X : Cx} {G : Gx} {W : WX} {k : Nat} {a b c e : Expr} {es : List Expr} {ta tb tc te : DE} {ts : DA} {t u : DS} {pos p p2 p3 : Pos} {n i : Nat} {x : Str}
theorem Cxt.units (C : Cxt X G W k) : X.A.units + 64 < cLine := C.room.units
/-- within a comprehension -/
theorem Cxt.blk (C : Cxt X G W k) (s : Shared) (H : Hp) (scope : Scope) (cenv : PySem.Env) (fp : List Addr) : Cxt (X.blk s H scope cenv fp) G W0 k :=
  ⟨C.K, C.calm, C.nd, C.room, fun σ pins H s e s' I h => by
    obtain ⟨_, _, _, _, _, _, _, _, _, _, _, _, z⟩ := h
    exact z.elim, PassesOwn.never, takes0⟩
theorem Cxt.blkq (C : Cxt X G W k) (scope : Scope) (q : Shared × Hp × Addr × List (Str × Addr) × List Addr) : Cxt (X.blk q.1 q.2.1 scope (compEnvC scope q.2.2.2.1 q.2.2.1 X.env) q.2.2.2.2) G W0 k := C.blk _ _ _ _ _
theorem j_v {i : Nat} {x : Str} {pos : Pos} (hN : X.N[i]? = some x := by rfl) (hv : Vis X.env.scope x := by first | exact Or.inl rfl | exact Or.inr (Or.inl rfl) | exact Or.inr (Or.inr rfl)) (hd : (x == ("__debug__" : Str)) = false := by decide)
    (hcd : (x == ("__classdict__" : Str)) = false := by decide) : JE X G W (.Name x pos) (dVar i) := ⟨_, pe_var hN hv hd hcd, le_var⟩
theorem j_i {i : Int} {j : Nat} : JE X G W (.Constant (.int i) j pos) (dC (.int i)) := ⟨_, pe_int, le_c fun _ => rfl⟩
theorem j_b {b : Bool} {j : Nat} : JE X G W (.Constant (.bool b) j pos) (dC (.bl b)) := ⟨_, pe_bl, le_c fun _ => rfl⟩
theorem j_n {j : Nat} : JE X G W (.Constant .none j pos) (dC .non) := ⟨_, pe_non, le_c fun _ => rfl⟩
theorem j_s {s : List Nat} {y : Str} {j : Nat} (h : y = ⟨s.toArray⟩ := by rfl) : JE X G W (.Constant (.str y) j pos) (dC (.str s)) := ⟨_, pe_str, le_c fun _ => by rw [h]; rfl⟩
theorem j_op {op : Operator} {r : R2} {f : D → D → DK → Prop} (ho : OpR X (binaryOp op) r) (hl : LR2 G f r) (ha : JE X G W a ta) (hb : JE X G W b tb) : JE X G W (.BinOp a op b pos) (dOp f ta tb) :=
  let ⟨_, p, l⟩ := ha; let ⟨_, q, m⟩ := hb; ⟨_, pe_op ho p q, le_op hl l m⟩
theorem j_add (C : Cxt X G W k) (ha : JE X G W a ta) (hb : JE X G W b tb) : JE X G W (.BinOp a .Add b pos) (dOp oAdd ta tb) := j_op op_addD (by rw [C.K]; exact lr_add) ha hb
theorem j_sub (ha : JE X G W a ta) (hb : JE X G W b tb) : JE X G W (.BinOp a .Sub b pos) (dOp oSub ta tb) := j_op op_subD lr_sub ha hb
theorem j_mul (ha : JE X G W a ta) (hb : JE X G W b tb) : JE X G W (.BinOp a .Mult b pos) (dOp oMul ta tb) := j_op op_mulD lr_mul ha hb
theorem j_div (ha : JE X G W a ta) (hb : JE X G W b tb) : JE X G W (.BinOp a .FloorDiv b pos) (dOp oDiv ta tb) := j_op op_divD lr_div ha hb
theorem j_mod (ha : JE X G W a ta) (hb : JE X G W b tb) : JE X G W (.BinOp a .Mod b pos) (dOp oMod ta tb) := j_op op_modN lr_mod ha hb
theorem j_pow (ha : JE X G W a ta) (hb : JE X G W b tb) : JE X G W (.BinOp a .Pow b pos) (dOp oPow ta tb) := j_op op_pow lr_pow ha hb
theorem j_shl (ha : JE X G W a ta) (hb : JE X G W b tb) : JE X G W (.BinOp a .LShift b pos) (dOp oShl ta tb) := j_op op_shlW lr_shl ha hb
theorem j_neg (ha : JE X G W a ta) : JE X G W (.UnaryOp .USub a pos) (dUn oNeg ta) := let ⟨_, p, l⟩ := ha; ⟨_, pe_un un_neg p, le_un lr_neg l⟩
theorem j_weak {e : Expr} {t t' : DE} (h : ∀ r Q Y, t' r Q Y → t r Q Y) (J : JE X G W e t) : JE X G W e t' := by
  obtain ⟨T, p, l⟩ := J
  exact ⟨T, p, fun F0 H0 ρ F σ H Q QX QV a b c d => l F0 H0 ρ F σ H Q QX QV a (h _ _ _ b) c d⟩
theorem jc_pow {i j v : Int} (ha : JE X G W a (dC (.int i))) (hb : JE X G W b (dC (.int j))) (h : (decide (0 ≤ j) && (decide (j ≤ 1000000) && (decide (i.natAbs < 2 ^ 64) && decide (i ^ j.toNat = v)))) = true) : JE X G W (.BinOp a .Pow b pos) (dC (.int v)) := by
  simp only [Bool.and_eq_true, decide_eq_true_eq] at h
  obtain ⟨h1, h2, h3, h4⟩ := h
  refine j_weak (fun r Q Y q => ?_) (j_pow ha hb)
  subst h4
  exact ⟨⟨h1, h2, h3⟩, q⟩
theorem jc_mul {i j v : Int} (ha : JE X G W a (dC (.int i))) (hb : JE X G W b (dC (.int j))) (h : (decide (bits i + bits j ≤ 134217728) && decide (i * j = v)) = true) : JE X G W (.BinOp a .Mult b pos) (dC (.int v)) := by
  simp only [Bool.and_eq_true, decide_eq_true_eq] at h
  obtain ⟨h1, h4⟩ := h
  refine j_weak (fun r Q Y q => ?_) (j_mul ha hb)
  subst h4
  exact ⟨.inr (.inr h1), q⟩
theorem jc_add {i j v : Int} (C : Cxt X G W k) (ha : JE X G W a (dC (.int i))) (hb : JE X G W b (dC (.int j))) (h : decide (i + j = v) = true) : JE X G W (.BinOp a .Add b pos) (dC (.int v)) := by
  have h4 := of_decide_eq_true h
  refine j_weak (fun r Q Y q => ?_) (j_add C ha hb)
  subst h4
  exact q
theorem jc_sub {i j v : Int} (ha : JE X G W a (dC (.int i))) (hb : JE X G W b (dC (.int j))) (h : decide (i - j = v) = true) : JE X G W (.BinOp a .Sub b pos) (dC (.int v)) := by
  have h4 := of_decide_eq_true h
  refine j_weak (fun r Q Y q => ?_) (j_sub ha hb)
  subst h4
  exact q
theorem jc_neg {i v : Int} (ha : JE X G W a (dC (.int i))) (h : decide (-i = v) = true) : JE X G W (.UnaryOp .USub a pos) (dC (.int v)) := by
  have h4 := of_decide_eq_true h
  refine j_weak (fun r Q Y q => ?_) (j_neg ha)
  subst h4
  exact q
theorem j_cmp {op : CmpOp} {r : R2} {f : D → D → DK → Prop} (ho : OpR X (compareOp op) r) (hl : LR2 G f r) (ha : JE X G W a ta) (hb : JE X G W b tb) (hm : behindInMarks op b = false) : JE X G W (.Compare a [op] [b] pos) (dOp f ta tb) :=
  let ⟨_, p, l⟩ := ha; let ⟨_, q, m⟩ := hb; ⟨_, pe_cmpR ho p q hm, le_op hl l m⟩
theorem j_lt (ha : JE X G W a ta) (hb : JE X G W b tb) : JE X G W (.Compare a [.Lt] [b] pos) (dOp (cB bLt) ta tb) := j_cmp op_lt lr_cmp ha hb (nomark _)
theorem j_le (ha : JE X G W a ta) (hb : JE X G W b tb) : JE X G W (.Compare a [.LtE] [b] pos) (dOp (cB bLe) ta tb) := j_cmp op_le lr_cmp ha hb (nomark _)
theorem j_gt (ha : JE X G W a ta) (hb : JE X G W b tb) : JE X G W (.Compare a [.Gt] [b] pos) (dOp (cB bGt) ta tb) := j_cmp op_gt lr_cmp ha hb (nomark _)
theorem j_ge (ha : JE X G W a ta) (hb : JE X G W b tb) : JE X G W (.Compare a [.GtE] [b] pos) (dOp (cB bGe) ta tb) := j_cmp op_ge lr_cmp ha hb (nomark _)
theorem j_eq (C : Cxt X G W k) (ha : JE X G W a ta) (hb : JE X G W b tb) : JE X G W (.Compare a [.Eq] [b] pos) (dOp (cB bEq) ta tb) := j_cmp (op_eqD C.units) (by rw [C.K]; exact lr_eq) ha hb (nomark _)
theorem j_ne (C : Cxt X G W k) (ha : JE X G W a ta) (hb : JE X G W b tb) : JE X G W (.Compare a [.NotEq] [b] pos) (dOp (cB bNe) ta tb) := j_cmp (op_neD C.units) (by rw [C.K]; exact lr_ne) ha hb (nomark _)
theorem j_isN {j : Nat} (ha : JE X G W a ta) : JE X G W (.Compare a [.Is] [.Constant .none j p] pos) (dUn oIsN ta) := let ⟨_, p, l⟩ := ha; ⟨_, pe_cmp (pc_isN p), le_isN l⟩
theorem j_notN {j : Nat} (ha : JE X G W a ta) : JE X G W (.Compare a [.IsNot] [.Constant .none j p] pos) (dUn oNotN ta) := let ⟨_, p, l⟩ := ha; ⟨_, pe_cmp (pc_notN p), le_notN l⟩
theorem j_isB (ha : JE X G W a ta) (hb : JE X G W b tb) : JE X G W (.Compare a [.Is] [b] pos) (dOp oIsB ta tb) := j_cmp op_isBl lr_isB ha hb (nomark _)
theorem j_notB (ha : JE X G W a ta) (hb : JE X G W b tb) : JE X G W (.Compare a [.IsNot] [b] pos) (dOp oNotB ta tb) := j_cmp op_notBl lr_notB ha hb (nomark _)
theorem j_ix (C : Cxt X G W k) (ha : JE X G W a ta) (hb : JE X G W b tb) (hs : PlainIx b := by exact fun _ _ => rfl) : JE X G W (.Subscript a b pos) (dOp oIx ta tb) :=
  let ⟨_, p, l⟩ := ha; let ⟨_, q, m⟩ := hb; ⟨_, pe_ix ix_seq p q hs, le_op (by rw [C.K]; exact lr_ix) l m⟩
theorem j_view (ha : JE X G W a ta) : JE X G W a (dView ta) := let ⟨_, p, l⟩ := ha; ⟨_, p, le_view l⟩
theorem ja_nil : JA X G W 0 [] dNil := ⟨_, pa_nil, la_nil⟩
theorem ja_cons (ha : JE X G W e te) (hr : JA X G W n es ts) (hs : starEach (e :: es) X.env = (false, eval e X.env) :: starEach es X.env := by rfl) : JA X G W (n + 1) (e :: es) (dCons te ts) :=
  let ⟨_, p, l⟩ := ha; let ⟨_, q, m⟩ := hr; ⟨_, pa_cons p q hs, la_cons l m⟩
/-- a module's constant -/
theorem j_gint {i : Int} (hm : ∃ t, X.mg x = some (.int i t)) (hg : Gl X x := by rfl) (hd : (x == ("__debug__" : Str)) = false := by decide) : JE X G W (.Name x pos) (dC (.int i)) :=
  let ⟨t, hm⟩ := hm; ⟨_, pe_glob (v := .int i) hg hm ⟨t, rfl⟩ hd, le_c fun _ => rfl⟩
theorem intsL {F : Hp} : ∀ ns : List Int, RepL G F (ns.map D.int) (ns.map V.int)
  | [] => rfl
  | n :: ns => ⟨V.int n, _, rfl, rfl, intsL ns⟩
theorem j_gtup {ns : List Int} {ds : List D} (hm : ∃ a, X.mg x = some (.ref a) ∧ ∀ H, SqT G.K H a (ns.map V.int)) (hds : ds = ns.map D.int := by rfl) (hn4 : Nat.ble 4 ns.length = true := by rfl) (hg : Gl X x := by rfl) (hd : (x == ("__debug__" : Str)) = false := by decide) : JE X G W (.Name x pos) (dC (.tup ds)) :=
  let ⟨a, hm, hs⟩ := hm; ⟨_, pe_glob (v := .ref a) hg hm rfl hd, le_c fun F => by subst hds; exact ⟨a, _, rfl, ⟨hs F, fun k => by rw [List.length_map] at k; have := Nat.le_of_ble_eq_true hn4; omega⟩, intsL ns⟩⟩
theorem j_bits {apos : Pos} (ha : JE X G W a ta) (hbase : attributeBase a "bit_length" X.env (eval a X.env) = eval a X.env := by rfl) (hline : (apos.endLine == pos.line) = true := by rfl) : JE X G W (.Call (.Attribute a "bit_length" apos) [] [] pos) (dUn oBits ta) :=
  let ⟨_, p, l⟩ := ha; ⟨_, pe_bits p hbase hline, le_bits l⟩
/-- a comparison by its rule -/
def JOp (X : Cx) (G : Gx) (op : CmpOp) (f : D → D → (Bool → Prop) → Prop) : Prop := ∃ r, OpR X (compareOp op) r ∧ LR2 G (cB f) r
theorem o_lt (C : Cxt X G W k) : JOp X G .Lt bLt := ⟨_, op_lt, lr_cmp⟩
theorem o_le (C : Cxt X G W k) : JOp X G .LtE bLe := ⟨_, op_le, lr_cmp⟩
theorem o_gt (C : Cxt X G W k) : JOp X G .Gt bGt := ⟨_, op_gt, lr_cmp⟩
theorem o_ge (C : Cxt X G W k) : JOp X G .GtE bGe := ⟨_, op_ge, lr_cmp⟩
theorem o_eq (C : Cxt X G W k) : JOp X G .Eq bEq := ⟨_, op_eqD C.units, by rw [C.K]; exact lr_eq⟩
theorem o_ne (C : Cxt X G W k) : JOp X G .NotEq bNe := ⟨_, op_neD C.units, by rw [C.K]; exact lr_ne⟩
theorem j_chain {op op' : CmpOp} {f g : D → D → (Bool → Prop) → Prop} (h1 : JOp X G op f) (h2 : JOp X G op' g) (ha : JE X G W a ta) (hb : JE X G W b tb) (hc : JE X G W c tc) (hm : lastMarks [op, op'] [b, c] = false := by with_unfolding_all rfl) : JE X G W (.Compare a [op, op'] [b, c] pos) (dChain f g ta tb tc) :=
  let ⟨_, o1, l1⟩ := h1; let ⟨_, o2, l2⟩ := h2; let ⟨_, p, l⟩ := ha; let ⟨_, q, m⟩ := hb; let ⟨_, r, n⟩ := hc; ⟨_, pe_chain o1 o2 p q r hm, le_chain l1 l2 l m n⟩
theorem jt_chain {op op' : CmpOp} {f g : D → D → (Bool → Prop) → Prop} (h1 : JOp X G op f) (h2 : JOp X G op' g) (ha : JE X G W a ta) (hb : JE X G W b tb) (hc : JE X G W c tc) (hm : lastMarks [op, op'] [b, c] = false := by with_unfolding_all rfl) : JT X G W (.Compare a [op, op'] [b, c] pos) (dChain f g ta tb tc) :=
  let ⟨_, o1, l1⟩ := h1; let ⟨_, o2, l2⟩ := h2; let ⟨_, p, l⟩ := ha; let ⟨_, q, m⟩ := hb; let ⟨_, r, n⟩ := hc; ⟨_, pt_chain o1 o2 p q r hm, lt_val (le_chain l1 l2 l m n)⟩
variable {d : Expr} {td : DE}
theorem j_chain3 {op op' op'' : CmpOp} {f g h : D → D → (Bool → Prop) → Prop} (h1 : JOp X G op f) (h2 : JOp X G op' g) (h3 : JOp X G op'' h) (ha : JE X G W a ta) (hb : JE X G W b tb) (hc : JE X G W c tc) (hd : JE X G W d td) (hm : lastMarks [op, op', op''] [b, c, d] = false := by with_unfolding_all rfl) : JE X G W (.Compare a [op, op', op''] [b, c, d] pos) (dChain3 f g h ta tb tc td) :=
  let ⟨_, o1, l1⟩ := h1; let ⟨_, o2, l2⟩ := h2; let ⟨_, o3, l3⟩ := h3; let ⟨_, p, l⟩ := ha; let ⟨_, q, m⟩ := hb; let ⟨_, r, n⟩ := hc; let ⟨_, s, o⟩ := hd; ⟨_, pe_chain3 o1 o2 o3 p q r s hm, le_chain3 l1 l2 l3 l m n o⟩
theorem jt_chain3 {op op' op'' : CmpOp} {f g h : D → D → (Bool → Prop) → Prop} (h1 : JOp X G op f) (h2 : JOp X G op' g) (h3 : JOp X G op'' h) (ha : JE X G W a ta) (hb : JE X G W b tb) (hc : JE X G W c tc) (hd : JE X G W d td) (hm : lastMarks [op, op', op''] [b, c, d] = false := by with_unfolding_all rfl) : JT X G W (.Compare a [op, op', op''] [b, c, d] pos) (dChain3 f g h ta tb tc td) :=
  let ⟨_, o1, l1⟩ := h1; let ⟨_, o2, l2⟩ := h2; let ⟨_, o3, l3⟩ := h3; let ⟨_, p, l⟩ := ha; let ⟨_, q, m⟩ := hb; let ⟨_, r, n⟩ := hc; let ⟨_, s, o⟩ := hd; ⟨_, pt_chain3 o1 o2 o3 p q r s hm, lt_val (le_chain3 l1 l2 l3 l m n o)⟩
theorem Cxt.units65 (C : Cxt X G W k) : X.A.units + 65 < cLine := by have := C.room.un; omega
theorem j_in (C : Cxt X G W k) (ha : JE X G W a ta) (hb : JE X G W b tb) (hm : behindInMarks .In b = false := by rfl) : JE X G W (.Compare a [.In] [b] pos) (dOp (cB bIn) ta tb) := j_cmp (op_inD C.units65) (by rw [C.K]; exact lr_in) ha hb hm
theorem j_notin (C : Cxt X G W k) (ha : JE X G W a ta) (hb : JE X G W b tb) (hm : behindInMarks .NotIn b = false := by rfl) : JE X G W (.Compare a [.NotIn] [b] pos) (dOp (cB bNotIn) ta tb) := j_cmp (op_notInD C.units65) (by rw [C.K]; exact lr_notIn) ha hb hm
theorem jt_in (C : Cxt X G W k) (ha : JE X G W a ta) (hb : JE X G W b tb) (hm : behindInMarks .In b = false := by rfl) : JT X G W (.Compare a [.In] [b] pos) (dOp (cB bIn) ta tb) := let ⟨_, p, l⟩ := ha; let ⟨_, q, m⟩ := hb; ⟨_, pt_cmpR (op_inD C.units65) p q hm, lt_val (le_op (by rw [C.K]; exact lr_in) l m)⟩
theorem jt_notin (C : Cxt X G W k) (ha : JE X G W a ta) (hb : JE X G W b tb) (hm : behindInMarks .NotIn b = false := by rfl) : JT X G W (.Compare a [.NotIn] [b] pos) (dOp (cB bNotIn) ta tb) := let ⟨_, p, l⟩ := ha; let ⟨_, q, m⟩ := hb; ⟨_, pt_cmpR (op_notInD C.units65) p q hm, lt_val (le_op (by rw [C.K]; exact lr_notIn) l m)⟩
theorem j_tup {kk : Nat} (h : JA X G W n es ts) (h16 : Nat.ble n 16777216 = true := by rfl) : JE X G W (.Tuple es kk pos) (dTup ts) := let ⟨_, p, l⟩ := h; ⟨_, pe_tup p, le_tup l h16⟩
theorem j_lst (h : JA X G W n es ts) (h16 : Nat.ble n 16777216 = true := by rfl) : JE X G W (.List es pos) (dLst ts) := let ⟨_, p, l⟩ := h; ⟨_, pe_lst p, le_lst l h16⟩
theorem jo_none : JO X G W none dNoPart := ⟨_, po_none, lo_none⟩
theorem jo_some (ha : JE X G W a ta) : JO X G W (some a) (dPart ta) := let ⟨_, p, l⟩ := ha; ⟨_, po_some p, lo_some l⟩
theorem j_sl {lo hi : Option Expr} {tl th : DO} (C : Cxt X G W k) (ha : JE X G W a ta) (hl : JO X G W lo tl) (hh : JO X G W hi th) : JE X G W (.Subscript a (.Slice lo hi none p2) pos) (dSl ta tl th) :=
  let ⟨_, p, l⟩ := ha; let ⟨_, q, m⟩ := hl; let ⟨_, r, o⟩ := hh; ⟨_, pe_slice (by have z := @sl_list X; rw [C.K] at z; exact z) p q r, le_sl l m o⟩
theorem j_call {f : DF} {j : Nat} (C : Cxt X G W k) (h : Fn1 X.prog X.w G X.mg X.base j x f) (ha : JA X G W n (e :: es) ts) (hj : j ≤ k := by decide) (hg : Gl X x := by rfl) (hdb : (x == ("__debug__" : Str)) = false := by decide)
    (he : starEach (e :: es) X.env = (false, eval e X.env) :: starEach es X.env := by rfl) (hpl : (backTo pos (starEach es X.env)).any (·.1) = false := by rfl) : JE X G W (.Call (.Name x p) (e :: es) [] pos) (dCall f ts) := by
  obtain ⟨a, fd, ps, hm, hk, hb, F⟩ := h.ex
  obtain ⟨T, q, l⟩ := ha
  exact ⟨_, pe_callS (by rw [C.K]; exact F) (C.room.mono hj) hg hm (by rw [C.K]; exact hk) (by rw [C.K]; exact hb) C.hx q hdb he hpl, le_call l⟩
theorem j_bi {r : List V → Hp → VK → Prop} {f : List D → DK → Prop} {id : String} (hc : CallR X (.builtin id) r) (hl : LRs G f r) (hg : Gl X x) (hm : X.mg x = none) (hv : bootBuiltins x = some (.builtin id)) (ha : JA X G W n (e :: es) ts) (hn : x ≠ "__name__" := by decide) (hdb : (x == ("__debug__" : Str)) = false := by decide)
    (he : starEach (e :: es) X.env = (false, eval e X.env) :: starEach es X.env := by rfl) (hpl : (backTo pos (starEach es X.env)).any (·.1) = false := by rfl) : JE X G W (.Call (.Name x p) (e :: es) [] pos) (dAs f ts) :=
  let ⟨_, q, l⟩ := ha; ⟨_, pe_callB hc hg hm hv q hn hdb he hpl, le_as hl l⟩
theorem boot_blt (x : Str) (v : Value) (h : bootBuiltins x = some v) : bootBuiltins x = some v := h
theorem boot_abs : bootBuiltins "abs" = some (.builtin "abs") := by decide +kernel
theorem boot_max : bootBuiltins "max" = some (.builtin "max") := by decide +kernel
theorem boot_min : bootBuiltins "min" = some (.builtin "min") := by decide +kernel
theorem boot_divmod : bootBuiltins "divmod" = some (.builtin "divmod") := by decide +kernel
theorem boot_isinstance : bootBuiltins "isinstance" = some (.builtin "isinstance") := by decide +kernel
theorem boot_int' : bootBuiltins "int" = some (.type "int") := by decide +kernel
theorem j_len (C : Cxt X G W k) (hm : X.mg "len" = none) (ha : JA X G W n [e] ts) (hg : Gl X "len" := by rfl) (he : starEach [e] X.env = [(false, eval e X.env)] := by rfl) : JE X G W (.Call (.Name "len" p) [e] [] pos) (dAs fLen ts) :=
  j_bi call_len_seq (by rw [C.K]; exact lr_len) hg hm PySem.boot_len ha (he := he)
theorem j_abs (hm : X.mg "abs" = none) (ha : JA X G W n [e] ts) (hg : Gl X "abs" := by rfl) (he : starEach [e] X.env = [(false, eval e X.env)] := by rfl) : JE X G W (.Call (.Name "abs" p) [e] [] pos) (dAs fAbs ts) :=
  j_bi call_abs lr_abs hg hm boot_abs ha (he := he)
theorem j_max (C : Cxt X G W k) (hm : X.mg "max" = none) (ha : JA X G W n (a :: [b]) ts) (hg : Gl X "max" := by rfl) (he : starEach (a :: [b]) X.env = (false, eval a X.env) :: starEach [b] X.env := by rfl) (hpl : (backTo pos (starEach [b] X.env)).any (·.1) = false := by rfl) : JE X G W (.Call (.Name "max" p) [a, b] [] pos) (dAs fMax ts) :=
  j_bi (call_max2 C.calm) lr_max hg hm boot_max ha (he := he) (hpl := hpl)
theorem j_min (C : Cxt X G W k) (hm : X.mg "min" = none) (ha : JA X G W n (a :: [b]) ts) (hg : Gl X "min" := by rfl) (he : starEach (a :: [b]) X.env = (false, eval a X.env) :: starEach [b] X.env := by rfl) (hpl : (backTo pos (starEach [b] X.env)).any (·.1) = false := by rfl) : JE X G W (.Call (.Name "min" p) [a, b] [] pos) (dAs fMin ts) :=
  j_bi (call_min2 C.calm) lr_min hg hm boot_min ha (he := he) (hpl := hpl)
theorem j_divmod (hm : X.mg "divmod" = none) (ha : JA X G W n (a :: [b]) ts) (hg : Gl X "divmod" := by rfl) (he : starEach (a :: [b]) X.env = (false, eval a X.env) :: starEach [b] X.env := by rfl) (hpl : (backTo pos (starEach [b] X.env)).any (·.1) = false := by rfl) : JE X G W (.Call (.Name "divmod" p) [a, b] [] pos) (dAs fDivmod ts) :=
  j_bi call_divmodD lr_divmod hg hm boot_divmod ha (he := he) (hpl := hpl)
theorem j_int (hm : X.mg "int" = none) (ha : JA X G W n [e] ts) (hg : Gl X "int" := by rfl) (he : starEach [e] X.env = [(false, eval e X.env)] := by rfl) : JE X G W (.Call (.Name "int" p) [e] [] pos) (dAs fInt ts) :=
  let ⟨_, q, l⟩ := ha; ⟨_, pe_callTy call_int1 hg hm boot_int' q (he := he), le_as lr_int1 l⟩
theorem j_list (C : Cxt X G W k) (hm : X.mg "list" = none) (ha : JA X G W n [e] ts) (hg : Gl X "list" := by rfl) (he : starEach [e] X.env = [(false, eval e X.env)] := by rfl) : JE X G W (.Call (.Name "list" p) [e] [] pos) (dAs fList ts) :=
  let ⟨_, q, l⟩ := ha; ⟨_, pe_callTy call_list_of hg hm (by decide +kernel) q (he := he), by rw [C.K]; exact le_as lr_list l⟩
/-- isinstance(x, T), T a built-in class -/
theorem j_isi {T : String} {P : D → Bool} {y : Str} (C : Cxt X G W k) (hP : IsiOk T P) (hm : X.mg "isinstance" = none) (hmT : X.mg y = none) (hvT : bootBuiltins y = some (.type T)) (ha : JE X G W a ta) (hg : Gl X "isinstance" := by rfl) (hgT : Gl X y := by rfl) (hny : y ≠ "__name__" := by decide) (hdy : (y == ("__debug__" : Str)) = false := by decide)
    (h1 : starEach (a :: [.Name y p2]) X.env = (false, eval a X.env) :: starEach [.Name y p2] X.env := by rfl) (h2 : starEach [.Name y p2] X.env = (false, eval (.Name y p2) X.env) :: starEach [] X.env := by rfl) (hpl : (backTo pos (starEach [.Name y p2] X.env)).any (·.1) = false := by rfl) :
    JE X G W (.Call (.Name "isinstance" p) [a, .Name y p2] [] pos) (dUn (oIsi P) ta) := by
  obtain ⟨T', q, l⟩ := ha
  refine ⟨_, pe_callB call_isi hg hm boot_isinstance (pa_cons q (pa_cons (pe_bltn (v := .ty T) hgT hmT hvT rfl hny hdy) pa_nil h2) h1) (he := h1) (hpl := hpl), ?_⟩
  rw [C.K]
  exact le_isi hP l
theorem jt_val {op : List CmpOp} {bs : List Expr} (h : JE X G W (.Compare a op bs pos) ta) (he : ∀ whole, isTrue (.Compare a op bs pos) X.env whole = (do let v ← whole; standAt pos; holding [v] (truthy v)) := by intro _; rfl) : JT X G W (.Compare a op bs pos) ta := let ⟨_, p, l⟩ := h; ⟨_, pt_val p he, lt_val l⟩
theorem jt_call {f : Expr} {kw : List Keyword} (h : JE X G W (.Call f es kw pos) ta) (he : ∀ whole, isTrue (.Call f es kw pos) X.env whole = (do let v ← whole; standAt pos; holding [v] (truthy v)) := by intro _; rfl) : JT X G W (.Call f es kw pos) ta := let ⟨_, p, l⟩ := h; ⟨_, pt_val p he, lt_val l⟩
theorem jt_any (h : JE X G W a ta) (he : ∀ whole, isTrue a X.env whole = (do let v ← whole; standAt a.pos; holding [v] (truthy v)) := by intro _; rfl) : JT X G W a ta := let ⟨_, p, l⟩ := h; ⟨_, pt_val p he, lt_val l⟩
theorem jt_cmp {op : CmpOp} {r : R2} {f : D → D → DK → Prop} (ho : OpR X (compareOp op) r) (hl : LR2 G f r) (ha : JE X G W a ta) (hb : JE X G W b tb) (hm : behindInMarks op b = false) : JT X G W (.Compare a [op] [b] pos) (dOp f ta tb) :=
  let ⟨_, p, l⟩ := ha; let ⟨_, q, m⟩ := hb; ⟨_, pt_cmpR ho p q hm, lt_val (le_op hl l m)⟩
theorem jt_lt (ha : JE X G W a ta) (hb : JE X G W b tb) : JT X G W (.Compare a [.Lt] [b] pos) (dOp (cB bLt) ta tb) := jt_cmp op_lt lr_cmp ha hb (nomark _)
theorem jt_le (ha : JE X G W a ta) (hb : JE X G W b tb) : JT X G W (.Compare a [.LtE] [b] pos) (dOp (cB bLe) ta tb) := jt_cmp op_le lr_cmp ha hb (nomark _)
theorem jt_gt (ha : JE X G W a ta) (hb : JE X G W b tb) : JT X G W (.Compare a [.Gt] [b] pos) (dOp (cB bGt) ta tb) := jt_cmp op_gt lr_cmp ha hb (nomark _)
theorem jt_ge (ha : JE X G W a ta) (hb : JE X G W b tb) : JT X G W (.Compare a [.GtE] [b] pos) (dOp (cB bGe) ta tb) := jt_cmp op_ge lr_cmp ha hb (nomark _)
theorem jt_eq (C : Cxt X G W k) (ha : JE X G W a ta) (hb : JE X G W b tb) : JT X G W (.Compare a [.Eq] [b] pos) (dOp (cB bEq) ta tb) := jt_cmp (op_eqD C.units) (by rw [C.K]; exact lr_eq) ha hb (nomark _)
theorem jt_ne (C : Cxt X G W k) (ha : JE X G W a ta) (hb : JE X G W b tb) : JT X G W (.Compare a [.NotEq] [b] pos) (dOp (cB bNe) ta tb) := jt_cmp (op_neD C.units) (by rw [C.K]; exact lr_ne) ha hb (nomark _)
theorem jt_isN {j : Nat} (ha : JE X G W a ta) : JT X G W (.Compare a [.Is] [.Constant .none j p] pos) (dUn oIsN ta) := let ⟨_, p, l⟩ := ha; ⟨_, pt_cmp (pc_isN p), lt_valB (le_isN l)⟩
theorem jt_notN {j : Nat} (ha : JE X G W a ta) : JT X G W (.Compare a [.IsNot] [.Constant .none j p] pos) (dUn oNotN ta) := let ⟨_, p, l⟩ := ha; ⟨_, pt_cmp (pc_notN p), lt_valB (le_notN l)⟩
theorem jt_isB (ha : JE X G W a ta) (hb : JE X G W b tb) : JT X G W (.Compare a [.Is] [b] pos) (dOp oIsB ta tb) := jt_cmp op_isBl lr_isB ha hb (nomark _)
theorem jt_notB (ha : JE X G W a ta) (hb : JE X G W b tb) : JT X G W (.Compare a [.IsNot] [b] pos) (dOp oNotB ta tb) := jt_cmp op_notBl lr_notB ha hb (nomark _)
theorem jt_not (ha : JT X G W a ta) : JT X G W (.UnaryOp .Not a pos) (dNot ta) := let ⟨_, p, l⟩ := ha; ⟨_, pt_not p, lt_not l⟩
theorem jt_w (h : JW X G W a ta) : JT X G W a ta := let ⟨_, p, l⟩ := h; ⟨_, p.pt, l⟩
theorem jw_and1 (ha : JT X G W a ta) : JW X G W (.BoolOp .And [a] pos) ta := let ⟨_, p, l⟩ := ha; ⟨_, pw_and1 p, l⟩
theorem jw_or1 (ha : JT X G W a ta) : JW X G W (.BoolOp .Or [a] pos) ta := let ⟨_, p, l⟩ := ha; ⟨_, pw_or1 p, l⟩
theorem jw_and (ha : JT X G W a ta) (hb : JW X G W (.BoolOp .And (b :: es) pos) tb) : JW X G W (.BoolOp .And (a :: b :: es) pos) (dAnd ta tb) := let ⟨_, p, l⟩ := ha; let ⟨_, q, m⟩ := hb; ⟨_, pw_and p q, lt_and l m⟩
theorem jw_or (ha : JT X G W a ta) (hb : JW X G W (.BoolOp .Or (b :: es) pos) tb) : JW X G W (.BoolOp .Or (a :: b :: es) pos) (dOr ta tb) := let ⟨_, p, l⟩ := ha; let ⟨_, q, m⟩ := hb; ⟨_, pw_or p q, lt_or l m⟩
theorem jt_view (h : JT X G W a ta) : JT X G W a (dViewT ta) := by
  obtain ⟨_, p, l⟩ := h
  refine ⟨_, p, fun F0 H0 ρ F σ H k QX QV S q hq hx => ?_⟩
  obtain ⟨F1, S1, sF, hF1⟩ := S.view
  have hF1' : ∀ a o, F1 a = some o → F a = some o ∨ (F a = none ∧ (∃ p u, p = a ∧ H p = some u ∧ ((∃ vs, u = HO.lst vs) ∨ ∃ kvs, u = HO.dT kvs))) := fun a o z => (hF1 a o z).imp id fun y => ⟨y.1, y.2.1⟩
  refine l F0 H0 (view ρ) F1 σ H _ _ QV S1 q (fun b F2 H2 e q2 => ?_) (fun x qx cls d F2 H2 e r => ?_)
  · obtain ⟨F3, e3, keep, old⟩ := hide sF hF1' e
    exact hq b F3 H2 e3 q2
  · obtain ⟨im, qx⟩ := qx
    obtain ⟨F3, e3, keep, old⟩ := hide sF hF1' e
    refine hx x qx cls d F3 H2 e3 ⟨r.1, r.2.imp id fun ⟨dd, fs, vs, h1, h2, h3, h4⟩ => ⟨dd, fs, vs, h1, (keep _ _ h2).resolve_right (fun z => by rcases z with ⟨_, z⟩ | ⟨_, z⟩ <;> cases z), RepL.imm keep _ im h3, h4⟩⟩
theorem j_one {op : BoolOp} (ha : JE X G W a ta) : JE X G W (.BoolOp op [a] pos) ta := let ⟨_, p, l⟩ := ha; ⟨_, pe_one p, l⟩
theorem j_and (ha : JE X G W a ta) (hb : JE X G W (.BoolOp .And (b :: es) pos) tb) : JE X G W (.BoolOp .And (a :: b :: es) pos) (dAnd ta tb) := let ⟨_, p, l⟩ := ha; let ⟨_, q, m⟩ := hb; ⟨_, pe_and p q, le_and l m⟩
theorem j_or (ha : JE X G W a ta) (hb : JE X G W (.BoolOp .Or (b :: es) pos) tb) : JE X G W (.BoolOp .Or (a :: b :: es) pos) (dOr ta tb) := let ⟨_, p, l⟩ := ha; let ⟨_, q, m⟩ := hb; ⟨_, pe_or p q, le_or l m⟩
theorem j_not (ha : JE X G W a ta) : JE X G W (.UnaryOp .Not a pos) (dNot ta) := let ⟨_, p, l⟩ := ha; ⟨_, pe_not p, le_not l⟩
theorem j_ite (hc : JT X G W c tc) (ha : JE X G W a ta) (hb : JE X G W b tb) : JE X G W (.IfExp c a b pos) (dIte tc ta tb) := let ⟨_, p, l⟩ := hc; let ⟨_, q, m⟩ := ha; let ⟨_, r, o⟩ := hb; ⟨_, pe_ifExp p q r, le_ite l m o⟩
variable {st : Stmt} {sts : List Stmt}
theorem js_nil : JSs X G W [] dNext := ⟨_, pss_nil, ls_next⟩
/-- a named tail of a block -/
theorem js_weak {t' : DS} (h : ∀ n q b c x r, t' n q b c x r → t n q b c x r) (J : JSs X G W sts t) : JSs X G W sts t' := by
  obtain ⟨T, p, l⟩ := J
  exact ⟨T, p, fun F0 H0 ρ F σ H N D' S E q => l F0 H0 ρ F σ H N D' S E (h _ _ _ _ _ _ q)⟩
theorem js_one (h : JS X G W st t) : JSs X G W [st] t := let ⟨_, p, l⟩ := h; ⟨_, pss_one p, l⟩
theorem js_cons (h : JS X G W st t) (hr : JSs X G W sts u) : JSs X G W (st :: sts) (dSeq t u) := let ⟨_, p, l⟩ := h; let ⟨_, q, m⟩ := hr; ⟨_, pss_cons p q, ls_seq l m⟩
theorem js_cut (h : JS X G W st t) (hr : JSs X G W sts u) : JSs X G W (st :: sts) (dCut t u) := let ⟨_, p, l⟩ := h; let ⟨_, q, m⟩ := hr; ⟨_, pss_cons p q, ls_cut l m⟩
theorem js_frz (h : JSs X G W sts t) : JSs X G W sts (dFrz i t) := let ⟨_, p, l⟩ := h; ⟨_, p, ls_frz l⟩
theorem s_set (C : Cxt X G W k) (he : JE X G W e te) (hi : X.N[i]? = some x := by rfl) (hx : Loc X.env.scope x := by first | exact Or.inl rfl | exact Or.inr rfl) (hs : swapsWith e (some (.Name x p)) pos.line X.env = pure false := by rfl) (hf : X.fn x = true ∨ X.env.scope.names.lookup x = some .local := by first | exact .inl rfl | exact .inr rfl) :
    JS X G W (.Assign [.Name x p] e pos) (dSet i te) := let ⟨_, q, l⟩ := he; ⟨_, ps_set C.nd hi hx q hs hf, ls_set l⟩
theorem s_setV (C : Cxt X G W k) (he : JE X G W e te) (hi : X.N[i]? = some x := by rfl) (hx : Loc X.env.scope x := by first | exact Or.inl rfl | exact Or.inr rfl) (hs : swapsWith e (some (.Name x p)) pos.line X.env = pure false := by rfl) (hf : X.fn x = true ∨ X.env.scope.names.lookup x = some .local := by first | exact .inl rfl | exact .inr rfl) :
    JS X G W (.Assign [.Name x p] e pos) (dSetV i te) := let ⟨_, q, l⟩ := he; ⟨_, ps_set C.nd hi hx q hs hf, ls_setV l⟩
theorem s_drop (he : JE X G W e te) (hs : swapsWith e none pos.line X.env = pure false := by rfl) : JS X G W (.Expr e pos) (dDrop te) := let ⟨_, q, l⟩ := he; ⟨_, ps_expr q hs, ls_drop l⟩
theorem s_ret (he : JE X G W e te) : JS X G W (.Return (some e) pos) (dRet te) := let ⟨_, q, l⟩ := he; ⟨_, ps_ret q, ls_ret l⟩
theorem s_retOwn (hN : X.N[i]? = some x := by rfl) (hv : Vis X.env.scope x := by first | exact Or.inl rfl | exact Or.inr (Or.inl rfl) | exact Or.inr (Or.inr rfl)) (hd : (x == ("__debug__" : Str)) = false := by decide) (hcd : (x == ("__classdict__" : Str)) = false := by decide) :
    JS X G W (.Return (some (.Name x p)) pos) (dRetOwn i) := ⟨_, ps_ret (pe_var hN hv hd hcd), ls_retOwn⟩
theorem s_retN : JS X G W (.Return none pos) dRetN := ⟨_, ps_retN, ls_retN⟩
theorem s_pass : JS X G W (.Pass pos) dPass := ⟨_, ps_pass, ls_next⟩
theorem s_break : JS X G W (.Break pos) dBreak := ⟨_, ps_break, ls_break⟩
theorem s_cont : JS X G W (.Continue pos) dCont := ⟨_, ps_continue, ls_cont⟩
theorem s_never : JS X G W st dNever := ⟨_, ps_never, ls_never⟩
theorem s_if (hc : JT X G W c tc) {A B : List Stmt} (ha : JSs X G W A t) (hb : JSs X G W B u) : JS X G W (.If c A B pos) (dIf tc t u) := let ⟨_, p, l⟩ := hc; let ⟨_, q, m⟩ := ha; let ⟨_, r, o⟩ := hb; ⟨_, ps_if p q r, ls_if l m o⟩
theorem s_while (C : Cxt X G W k) (hc : JT X G W c tc) (hb : JSs X G W sts t) : JS X G W (.While c sts [] pos) (dWhile tc t) := let ⟨_, p, l⟩ := hc; let ⟨_, q, m⟩ := hb; ⟨_, ps_while C.own p q, ls_while l m⟩
theorem s_for (C : Cxt X G W k) (hw : JE X G W e te) (hb : JSs X G W sts t) (hi : X.N[i]? = some x := by rfl) (hx : Loc X.env.scope x := by first | exact Or.inl rfl | exact Or.inr rfl) (hs : ∀ x, foldedSetIterable e X.env x = pure x := by intro _; rfl) (hf : X.fn x = true ∨ X.env.scope.names.lookup x = some .local := by first | exact .inl rfl | exact .inr rfl) :
    JS X G W (.For (.Name x p) e sts [] pos) (dFor i te t) := by
  obtain ⟨_, q, l⟩ := hw
  obtain ⟨_, r, m⟩ := hb
  refine ⟨_, ps_for C.own C.calm (pi_seq q) (pg_name C.nd hi hx hf) r hs, ?_⟩
  rw [C.K]
  exact ls_for l m
theorem pi_rng {X : Cx} {tg : Expr} {es : List Expr} {ta : TA} {p pos : Pos} (hg : Gl X "range") (hm : X.mg "range" = none) (ha : PA X es ta) (h2 : (es.length = 1 ∧ ∃ a, es = [a] ∧ starEach [a] X.env = [(false, eval a X.env)]) ∨ ∃ a b, es = [a, b] ∧ starEach [a, b] X.env = [(false, eval a X.env), (false, eval b X.env)] ∧ starEach [b] X.env = [(false, eval b X.env)]) :
    PI X tg (.Call (.Name "range" p) es [] pos) (iRng ta) := by
  refine ⟨fun pins s σ H R I h => ?_⟩
  rcases h2 with ⟨_, a, rfl, hs⟩ | ⟨a, b, rfl, hs, hs2⟩
  · refine Call_ (ld_blt I hg hm boot_range (PyProof.Rows.callWith_type1 (thn (ha.run pos pins s σ H _ I h) fun us s1 ⟨vs, H1, I1, r1, q1⟩ => ?_) hs rfl))
    rcases q1 with ⟨j, e, ⟨q1, q2⟩, q⟩ | ⟨i, j, e, ⟨q1, q2, q3, q4⟩, q⟩
    · subst e
      cases r1 with
      | cons r rr =>
        cases rr
        obtain ⟨t, rfl⟩ := r
        exact call_range_1 (range_it I1 (by omega) (by omega) q1 q2 (by simpa using q))
    · subst e
      cases r1 with
      | cons r rr =>
        cases rr with
        | cons r' rr =>
          cases rr
          obtain ⟨t, rfl⟩ := r
          obtain ⟨t', rfl⟩ := r'
          exact call_range_2 (range_it I1 q1 q2 q3 q4 q)
  · refine Call_ (ld_blt I hg hm boot_range (PyProof.Rows.callWith_type1 (thn (ha.run pos pins s σ H _ I h) fun us s1 ⟨vs, H1, I1, r1, q1⟩ => ?_) (by rw [hs, hs2]) (by rw [hs2]; rfl)))
    rcases q1 with ⟨j, e, ⟨q1, q2⟩, q⟩ | ⟨i, j, e, ⟨q1, q2, q3, q4⟩, q⟩
    · subst e
      cases r1 with
      | cons r rr =>
        cases rr
        obtain ⟨t, rfl⟩ := r
        exact call_range_1 (range_it I1 (by omega) (by omega) q1 q2 (by simpa using q))
    · subst e
      cases r1 with
      | cons r rr =>
        cases rr with
        | cons r' rr =>
          cases rr
          obtain ⟨t, rfl⟩ := r
          obtain ⟨t', rfl⟩ := r'
          exact call_range_2 (range_it I1 q1 q2 q3 q4 q)
/-- a walked range: JR of its arguments -/
def JR (X : Cx) (G : Gx) (W : WX) (n : Nat) (tg it : Expr) (ts : DA) : Prop := ∃ T, PI X tg it (iRng T) ∧ LA G W n ts T
theorem jr_1 {tg : Expr} (hm : X.mg "range" = none) (ha : JA X G W n [a] ts) (hg : Gl X "range" := by rfl) (hs : starEach [a] X.env = [(false, eval a X.env)] := by rfl) : JR X G W n tg (.Call (.Name "range" p) [a] [] pos) ts :=
  let ⟨_, q, l⟩ := ha; ⟨_, pi_rng hg hm q (.inl ⟨rfl, a, rfl, hs⟩), l⟩
theorem jr_2 {tg : Expr} (hm : X.mg "range" = none) (ha : JA X G W n [a, b] ts) (hg : Gl X "range" := by rfl) (hs : starEach [a, b] X.env = [(false, eval a X.env), (false, eval b X.env)] := by rfl) (hs2 : starEach [b] X.env = [(false, eval b X.env)] := by rfl) : JR X G W n tg (.Call (.Name "range" p) [a, b] [] pos) ts :=
  let ⟨_, q, l⟩ := ha; ⟨_, pi_rng hg hm q (.inr ⟨a, b, rfl, hs, hs2⟩), l⟩
theorem s_forR {it : Expr} (C : Cxt X G W k) (hw : JR X G W n (.Name x p) it ts) (hb : JSs X G W sts t) (hi : X.N[i]? = some x := by rfl) (hx : Loc X.env.scope x := by first | exact Or.inl rfl | exact Or.inr rfl) (hs : ∀ x, foldedSetIterable it X.env x = pure x := by intro _; rfl) (hf : X.fn x = true ∨ X.env.scope.names.lookup x = some .local := by first | exact .inl rfl | exact .inr rfl) :
    JS X G W (.For (.Name x p) it sts [] pos) (dFor i (dAs fRange ts) t) := by
  obtain ⟨_, q, l⟩ := hw
  obtain ⟨_, r, m⟩ := hb
  exact ⟨_, ps_for C.own C.calm q (pg_name C.nd hi hx hf) r hs, ls_forR l m⟩
/-- the tests of a comprehension -/
def JI (X : Cx) (G : Gx) (ifs : List Expr) (t : DE) : Prop := ∃ T, PTs X ifs T ∧ LT G W0 t T
theorem ji_nil : JI X G [] dYes := ⟨_, pts_nil, fun F0 H0 ρ F σ H k QX QV S q hq _ => hq true F H (.refl S.same) q⟩
theorem ji_one (h : JT X G W0 a ta) : JI X G [a] ta := let ⟨_, p, l⟩ := h; ⟨_, pts_one p, l⟩
/-- one reading for all blocks -/
theorem pe_uni {I : Type} {Y : I → Cx} {e : Expr} {t : DE} {W : WX} (h : ∀ i, JE (Y i) G W e t) : ∃ T, (∀ i, PE (Y i) e T) ∧ LE G W t T := by
  classical
  let T : I → TE := fun i => Classical.choose (h i)
  have hT : ∀ i, PE (Y i) e (T i) ∧ LE G W t (T i) := fun i => Classical.choose_spec (h i)
  exact ⟨fun σ H Q => ∀ i, T i σ H Q, fun i => ⟨fun pins s σ H Q J q => (hT i).1.run pins s σ H Q J (q i)⟩, fun F0 H0 ρ F σ H Q QX QV S q hq hx i => (hT i).2 F0 H0 ρ F σ H Q QX QV S q hq hx⟩
theorem pts_uni {I : Type} {Y : I → Cx} {ifs : List Expr} {t : DE} (h : ∀ i, JI (Y i) G ifs t) : ∃ T, (∀ i, PTs (Y i) ifs T) ∧ LT G W0 t T := by
  classical
  let T : I → TT := fun i => Classical.choose (h i)
  have hT : ∀ i, PTs (Y i) ifs (T i) ∧ LT G W0 t (T i) := fun i => Classical.choose_spec (h i)
  exact ⟨fun σ H Q => ∀ i, T i σ H Q, fun i => ⟨fun pins s σ H Q J q => (hT i).1.run pins s σ H Q J (q i)⟩, fun F0 H0 ρ F σ H Q QX QV S q hq hx i => (hT i).2 F0 H0 ρ F σ H Q QX QV S q hq hx⟩
abbrev BI := Shared × Hp × Addr × List (Str × Addr) × List Addr
abbrev blkOf (X : Cx) (scope : Scope) (q : BI) : Cx := X.blk q.1 q.2.1 scope (compEnvC scope q.2.2.2.1 q.2.2.1 X.env) q.2.2.2.2
section
variable {scope : Scope} {elt iter : Expr} {ifs : List Expr} {tt : DE} {sp : Pos}
theorem LE.len {t : DE} {T : TE} (N : Nat) (h : ∀ F0 H0 (ρ : Env) F σ H (Q : DK) (QX : DX) (QV : VK), σ.length = N → SRep G F0 H0 F H σ ρ → t ρ Q QX → (∀ s v F' H', Post G F H s v F' H' → Q s → QV v H') → XWish G W F H σ QX → T σ H QV) : LE G W t (fun σ H Q => σ.length = N → T σ H Q) :=
  fun F0 H0 ρ F σ H Q QX QV S q hq hx hN => h F0 H0 ρ F σ H Q QX QV hN S q hq hx
theorem PE.len {e : Expr} {T : TE} (h : PE X e T) : PE X e (fun σ H Q => σ.length = X.N.length → T σ H Q) := ⟨fun pins s σ H Q I q => h.run pins s σ H Q I (q I.len)⟩
theorem j_lc (C : Cxt X G W k) (hw : JE X G W iter te) {el : DE} (ok : BlkOk X.N X.env.scope scope [(x, i)]) (ht : ∀ q : BI, JI (blkOf X scope q) G ifs tt) (he : ∀ q : BI, JE (blkOf X scope q) G W0 elt el)
    (hx : ∀ q : BI, Loc (blkOf X scope q).env.scope x := by exact fun _ => Or.inl rfl) (hf : ∀ q : BI, (blkOf X scope q).fn x = true ∨ (blkOf X scope q).env.scope.names.lookup x = some .local := by first | exact fun _ => .inr rfl | exact fun _ => .inl rfl)
    (hi : X.N[i]? = some x := by rfl) (hs : ∀ x, foldedSetIterable iter X.env x = pure x := by intro _; rfl) : JE X G W (.ListComp elt [⟨.Name x p, iter, ifs, 0⟩] scope pos) (dLc i te tt el) := by
  obtain ⟨Tw, q, l⟩ := hw
  obtain ⟨TT', h1, l1⟩ := pts_uni ht
  obtain ⟨Te, h2, l2⟩ := pe_uni he
  have hil : i < X.N.length := (List.getElem?_eq_some_iff.mp hi).1
  refine ⟨_, PE.len (pe_lc (own := [(x, i)]) C.calm C.nd (pi_seq q) ok (fun s H C' cl fp => pg_name (i := i) C.nd hi (hx (s, H, C', cl, fp)) (hf (s, H, C', cl, fp))) (fun s H C' cl fp => h1 (s, H, C', cl, fp)) (fun s H C' cl fp => h2 (s, H, C', cl, fp)) hs), LE.len _ ?_⟩
  intro F0 H0 ρ F σ H Q QX QV hN S qq hq hxx
  rw [C.K]
  exact le_lcA l l1 l2 (by rw [hN]; exact hil) S qq hq hxx
theorem j_lcR {tsR : DA} (C : Cxt X G W k) (hw : JR X G W n (.Name x p) iter tsR) {el : DE} (ok : BlkOk X.N X.env.scope scope [(x, i)]) (ht : ∀ q : BI, JI (blkOf X scope q) G ifs tt) (he : ∀ q : BI, JE (blkOf X scope q) G W0 elt el)
    (hx : ∀ q : BI, Loc (blkOf X scope q).env.scope x := by exact fun _ => Or.inl rfl) (hf : ∀ q : BI, (blkOf X scope q).fn x = true ∨ (blkOf X scope q).env.scope.names.lookup x = some .local := by first | exact fun _ => .inr rfl | exact fun _ => .inl rfl)
    (hi : X.N[i]? = some x := by rfl) (hs : ∀ x, foldedSetIterable iter X.env x = pure x := by intro _; rfl) : JE X G W (.ListComp elt [⟨.Name x p, iter, ifs, 0⟩] scope pos) (dLc i (dAs fRange tsR) tt el) := by
  obtain ⟨Tw, q, l⟩ := hw
  obtain ⟨TT', h1, l1⟩ := pts_uni ht
  obtain ⟨Te, h2, l2⟩ := pe_uni he
  have hil : i < X.N.length := (List.getElem?_eq_some_iff.mp hi).1
  refine ⟨_, PE.len (pe_lc (own := [(x, i)]) C.calm C.nd q ok (fun s H C' cl fp => pg_name (i := i) C.nd hi (hx (s, H, C', cl, fp)) (hf (s, H, C', cl, fp))) (fun s H C' cl fp => h1 (s, H, C', cl, fp)) (fun s H C' cl fp => h2 (s, H, C', cl, fp)) hs), LE.len _ ?_⟩
  intro F0 H0 ρ F σ H Q QX QV hN S qq hq hxx
  exact le_lcRA l l1 l2 (by rw [hN]; exact hil) S qq hq hxx
/-- y = [..] on one line -/
theorem s_setLcV {y : Nat} {yn : Str} {py spos : Pos} (C : Cxt X G W k) (hw : JE X G W iter te) {el : DE} (ok : BlkOk X.N X.env.scope scope [(x, i)]) (ht : ∀ q : BI, JI (blkOf X scope q) G ifs tt) (he : ∀ q : BI, JE (blkOf X scope q) G W0 elt el)
    (hsw : swapsWith (.ListComp elt [⟨.Name x p, iter, ifs, 0⟩] scope pos) (some (.Name yn py)) spos.line X.env = pure true)
    (hx : ∀ q : BI, Loc (blkOf X scope q).env.scope x := by exact fun _ => Or.inl rfl) (hf : ∀ q : BI, (blkOf X scope q).fn x = true ∨ (blkOf X scope q).env.scope.names.lookup x = some .local := by first | exact fun _ => .inr rfl | exact fun _ => .inl rfl)
    (hi : X.N[i]? = some x := by rfl) (hy : X.N[y]? = some yn := by rfl) (hyl : X.env.scope.names.lookup yn = some .local := by rfl) (hs : ∀ x, foldedSetIterable iter X.env x = pure x := by intro _; rfl) : JS X G W (.Assign [.Name yn py] (.ListComp elt [⟨.Name x p, iter, ifs, 0⟩] scope pos) spos) (dSetV y (dLc i te tt el)) := by
  obtain ⟨Tw, q, l⟩ := hw
  obtain ⟨TT', h1, l1⟩ := pts_uni ht
  obtain ⟨Te, h2, l2⟩ := pe_uni he
  have hil : i < X.N.length := (List.getElem?_eq_some_iff.mp hi).1
  have z := ps_setLc (i := y) (own := [(x, i)]) C.calm C.nd hy hyl hsw (pi_seq q) ok (fun s H C' cl fp => pg_name (i := i) C.nd hi (hx (s, H, C', cl, fp)) (hf (s, H, C', cl, fp))) (fun s H C' cl fp => h1 (s, H, C', cl, fp)) (fun s H C' cl fp => h2 (s, H, C', cl, fp)) hs
  refine ⟨fun D σ H => σ.length = X.N.length → _, ⟨fun pins s σ H D I h => z.run pins s σ H D I (h I.len)⟩, fun F0 H0 ρ F σ H N D' S E qq hN => ?_⟩
  rw [C.K]
  exact le_lcA l l1 l2 (by rw [hN]; exact hil) S qq (fun s v F1 H1 p q1 => by
    obtain ⟨F2, p2⟩ := p.view
    exact E.nx _ F2 _ H1 (S.set y p2) q1) (E.xw S)
theorem s_setLcRV {tsR : DA} {y : Nat} {yn : Str} {py spos : Pos} (C : Cxt X G W k) (hw : JR X G W n (.Name x p) iter tsR) {el : DE} (ok : BlkOk X.N X.env.scope scope [(x, i)]) (ht : ∀ q : BI, JI (blkOf X scope q) G ifs tt) (he : ∀ q : BI, JE (blkOf X scope q) G W0 elt el)
    (hsw : swapsWith (.ListComp elt [⟨.Name x p, iter, ifs, 0⟩] scope pos) (some (.Name yn py)) spos.line X.env = pure true)
    (hx : ∀ q : BI, Loc (blkOf X scope q).env.scope x := by exact fun _ => Or.inl rfl) (hf : ∀ q : BI, (blkOf X scope q).fn x = true ∨ (blkOf X scope q).env.scope.names.lookup x = some .local := by first | exact fun _ => .inr rfl | exact fun _ => .inl rfl)
    (hi : X.N[i]? = some x := by rfl) (hy : X.N[y]? = some yn := by rfl) (hyl : X.env.scope.names.lookup yn = some .local := by rfl) (hs : ∀ x, foldedSetIterable iter X.env x = pure x := by intro _; rfl) : JS X G W (.Assign [.Name yn py] (.ListComp elt [⟨.Name x p, iter, ifs, 0⟩] scope pos) spos) (dSetV y (dLc i (dAs fRange tsR) tt el)) := by
  obtain ⟨Tw, q, l⟩ := hw
  obtain ⟨TT', h1, l1⟩ := pts_uni ht
  obtain ⟨Te, h2, l2⟩ := pe_uni he
  have hil : i < X.N.length := (List.getElem?_eq_some_iff.mp hi).1
  have z := ps_setLc (i := y) (own := [(x, i)]) C.calm C.nd hy hyl hsw q ok (fun s H C' cl fp => pg_name (i := i) C.nd hi (hx (s, H, C', cl, fp)) (hf (s, H, C', cl, fp))) (fun s H C' cl fp => h1 (s, H, C', cl, fp)) (fun s H C' cl fp => h2 (s, H, C', cl, fp)) hs
  refine ⟨fun D σ H => σ.length = X.N.length → _, ⟨fun pins s σ H D I h => z.run pins s σ H D I (h I.len)⟩, fun F0 H0 ρ F σ H N D' S E qq hN => ?_⟩
  exact le_lcRA l l1 l2 (by rw [hN]; exact hil) S qq (fun s v F1 H1 p q1 => by
    obtain ⟨F2, p2⟩ := p.view
    exact E.nx _ F2 _ H1 (S.set y p2) q1) (E.xw S)
/-- .. a list of the def's own -/
theorem s_setLc {y : Nat} {yn : Str} {py spos : Pos} (C : Cxt X G W k) (hw : JE X G W iter te) {el : DE} (ok : BlkOk X.N X.env.scope scope [(x, i)]) (ht : ∀ q : BI, JI (blkOf X scope q) G ifs tt) (he : ∀ q : BI, JE (blkOf X scope q) G W0 elt el)
    (hsw : swapsWith (.ListComp elt [⟨.Name x p, iter, ifs, 0⟩] scope pos) (some (.Name yn py)) spos.line X.env = pure true)
    (hx : ∀ q : BI, Loc (blkOf X scope q).env.scope x := by exact fun _ => Or.inl rfl) (hf : ∀ q : BI, (blkOf X scope q).fn x = true ∨ (blkOf X scope q).env.scope.names.lookup x = some .local := by first | exact fun _ => .inr rfl | exact fun _ => .inl rfl)
    (hi : X.N[i]? = some x := by rfl) (hy : X.N[y]? = some yn := by rfl) (hyl : X.env.scope.names.lookup yn = some .local := by rfl) (hs : ∀ x, foldedSetIterable iter X.env x = pure x := by intro _; rfl) : JS X G W (.Assign [.Name yn py] (.ListComp elt [⟨.Name x p, iter, ifs, 0⟩] scope pos) spos) (dSet y (dLc i te tt el)) := by
  obtain ⟨Tw, q, l⟩ := hw
  obtain ⟨TT', h1, l1⟩ := pts_uni ht
  obtain ⟨Te, h2, l2⟩ := pe_uni he
  have hil : i < X.N.length := (List.getElem?_eq_some_iff.mp hi).1
  have z := ps_setLc (i := y) (own := [(x, i)]) C.calm C.nd hy hyl hsw (pi_seq q) ok (fun s H C' cl fp => pg_name (i := i) C.nd hi (hx (s, H, C', cl, fp)) (hf (s, H, C', cl, fp))) (fun s H C' cl fp => h1 (s, H, C', cl, fp)) (fun s H C' cl fp => h2 (s, H, C', cl, fp)) hs
  refine ⟨fun D σ H => σ.length = X.N.length → _, ⟨fun pins s σ H D I h => z.run pins s σ H D I (h I.len)⟩, fun F0 H0 ρ F σ H N D' S E qq hN => ?_⟩
  rw [C.K]
  exact le_lcA l l1 l2 (by rw [hN]; exact hil) S qq (fun s v F1 H1 p q1 => E.nx _ F1 _ H1 (S.set y p) q1) (E.xw S)
theorem s_setLcR {tsR : DA} {y : Nat} {yn : Str} {py spos : Pos} (C : Cxt X G W k) (hw : JR X G W n (.Name x p) iter tsR) {el : DE} (ok : BlkOk X.N X.env.scope scope [(x, i)]) (ht : ∀ q : BI, JI (blkOf X scope q) G ifs tt) (he : ∀ q : BI, JE (blkOf X scope q) G W0 elt el)
    (hsw : swapsWith (.ListComp elt [⟨.Name x p, iter, ifs, 0⟩] scope pos) (some (.Name yn py)) spos.line X.env = pure true)
    (hx : ∀ q : BI, Loc (blkOf X scope q).env.scope x := by exact fun _ => Or.inl rfl) (hf : ∀ q : BI, (blkOf X scope q).fn x = true ∨ (blkOf X scope q).env.scope.names.lookup x = some .local := by first | exact fun _ => .inr rfl | exact fun _ => .inl rfl)
    (hi : X.N[i]? = some x := by rfl) (hy : X.N[y]? = some yn := by rfl) (hyl : X.env.scope.names.lookup yn = some .local := by rfl) (hs : ∀ x, foldedSetIterable iter X.env x = pure x := by intro _; rfl) : JS X G W (.Assign [.Name yn py] (.ListComp elt [⟨.Name x p, iter, ifs, 0⟩] scope pos) spos) (dSet y (dLc i (dAs fRange tsR) tt el)) := by
  obtain ⟨Tw, q, l⟩ := hw
  obtain ⟨TT', h1, l1⟩ := pts_uni ht
  obtain ⟨Te, h2, l2⟩ := pe_uni he
  have hil : i < X.N.length := (List.getElem?_eq_some_iff.mp hi).1
  have z := ps_setLc (i := y) (own := [(x, i)]) C.calm C.nd hy hyl hsw q ok (fun s H C' cl fp => pg_name (i := i) C.nd hi (hx (s, H, C', cl, fp)) (hf (s, H, C', cl, fp))) (fun s H C' cl fp => h1 (s, H, C', cl, fp)) (fun s H C' cl fp => h2 (s, H, C', cl, fp)) hs
  refine ⟨fun D σ H => σ.length = X.N.length → _, ⟨fun pins s σ H D I h => z.run pins s σ H D I (h I.len)⟩, fun F0 H0 ρ F σ H N D' S E qq hN => ?_⟩
  exact le_lcRA l l1 l2 (by rw [hN]; exact hil) S qq (fun s v F1 H1 p q1 => E.nx _ F1 _ H1 (S.set y p) q1) (E.xw S)
end
/-- several names as targets -/
def JG (X : Cx) (is : List Nat) (es : List Expr) : Prop := PGs X es (gNs is)
theorem jg_nil : JG X [] [] := pgs_nil
theorem jg_cons {is : List Nat} (C : Cxt X G W k) (hr : JG X is es) (hi : X.N[i]? = some x := by rfl) (hx : Loc X.env.scope x := by first | exact Or.inl rfl | exact Or.inr rfl) (hf : X.fn x = true ∨ X.env.scope.names.lookup x = some .local := by first | exact .inl rfl | exact .inr rfl)
    (hs : (assignEach (.Name x p :: es) X.env).map (·.2) = assign (.Name x p) X.env :: (assignEach es X.env).map (·.2) := by rfl) : JG X (i :: is) (.Name x p :: es) := pgs_cons (pg_name C.nd hi hx hf) hr hs
theorem s_unp {is : List Nat} {kk m : Nat} (C : Cxt X G W k) (he : JE X G W e te) (hg : JG X is es) (hn : (assignEach es X.env).length = m := by rfl) (hm : m = is.length := by rfl) (hst : (assignEach es X.env).findIdx? (·.1) = none := by rfl)
    (hs : swapsWithSole [.Tuple es kk p] e pos.line X.env = pure false := by rfl) (hw : swappedStores [.Tuple es kk p] e X.env = pure none := by rfl) (h1 : (assignEach [.Tuple es kk p] X.env).map (·.2) = [assign (.Tuple es kk p) X.env] := by rfl) :
    JS X G W (.Assign [.Tuple es kk p] e pos) (dUnp is te) := by
  obtain ⟨_, q, l⟩ := he
  refine ⟨_, ps_asg q (pg_tup C.calm hg hn hst) hs hw h1, ?_⟩
  rw [C.K]
  exact ls_unp l hm
theorem s_unpL {is : List Nat} {kk m : Nat} (C : Cxt X G W k) (he : JE X G W e te) (hg : JG X is es) (hn : (assignEach es X.env).length = m := by rfl) (hm : m = is.length := by rfl) (hst : (assignEach es X.env).findIdx? (·.1) = none := by rfl)
    (hs : swapsWithSole [.Tuple es kk p] e pos.line X.env = pure false := by rfl) (hw : swappedStores [.Tuple es kk p] e X.env = pure none := by rfl) (h1 : (assignEach [.Tuple es kk p] X.env).map (·.2) = [assign (.Tuple es kk p) X.env] := by rfl) :
    JS X G W (.Assign [.Tuple es kk p] e pos) (dUnpL is te) := by
  obtain ⟨_, q, l⟩ := he
  refine ⟨_, ps_asg q (pg_unl C.calm hg hn hst) hs hw h1, ?_⟩
  rw [C.K]
  exact ls_unpL l hm
theorem s_par2 {i j : Nat} {x y : Str} {px py pt pt2 : Pos} {kt k2 : Nat} (C : Cxt X G W k) (ha : JA X G W 2 [a, b] ts) (hij : i ≠ j := by decide) (hi : X.N[i]? = some x := by rfl) (hj : X.N[j]? = some y := by rfl) (hx : X.env.scope.names.lookup x = some .local := by rfl) (hy : X.env.scope.names.lookup y = some .local := by rfl)
    (hw : swappedStores [.Tuple [.Name x px, .Name y py] kt pt] (.Tuple [a, b] k2 pt2) X.env = pure (some [x, y]) := by rfl) (hs : swapsWithSole [.Tuple [.Name x px, .Name y py] kt pt] (.Tuple [a, b] k2 pt2) pos.line X.env = pure false := by rfl) :
    JS X G W (.Assign [.Tuple [.Name x px, .Name y py] kt pt] (.Tuple [a, b] k2 pt2) pos) (dPar [i, j] ts) := let ⟨_, q, l⟩ := ha; ⟨_, ps_par C.calm C.nd hi hj hij hx hy q hw hs, ls_par2 l⟩
theorem s_par3 {i j l : Nat} {x y z : Str} {px py pz pt pt2 : Pos} {kt k2 : Nat} (C : Cxt X G W k) (ha : JA X G W 3 [a, b, c] ts) (hij : i ≠ j := by decide) (hil : i ≠ l := by decide) (hjl : j ≠ l := by decide) (hi : X.N[i]? = some x := by rfl) (hj : X.N[j]? = some y := by rfl) (hl : X.N[l]? = some z := by rfl)
    (hx : X.env.scope.names.lookup x = some .local := by rfl) (hy : X.env.scope.names.lookup y = some .local := by rfl) (hz : X.env.scope.names.lookup z = some .local := by rfl)
    (hw : swappedStores [.Tuple [.Name x px, .Name y py, .Name z pz] kt pt] (.Tuple [a, b, c] k2 pt2) X.env = pure (some [x, y, z]) := by rfl) (hs : swapsWithSole [.Tuple [.Name x px, .Name y py, .Name z pz] kt pt] (.Tuple [a, b, c] k2 pt2) pos.line X.env = pure false := by rfl) :
    JS X G W (.Assign [.Tuple [.Name x px, .Name y py, .Name z pz] kt pt] (.Tuple [a, b, c] k2 pt2) pos) (dPar [i, j, l] ts) := let ⟨_, q, m⟩ := ha; ⟨_, ps_par3 C.calm C.nd hi hj hl hij hil hjl hx hy hz q hw hs, ls_par3 m⟩
theorem s_parN {is : List Nat} {fs : List Expr} {kk k2 m : Nat} {pt2 : Pos} (C : Cxt X G W k) (ha : JA X G W n fs ts) (hg : JG X is es) (hnl : n = is.length := by rfl) (h16 : Nat.ble n 16777216 = true := by rfl) (hn : (assignEach es X.env).length = m := by rfl) (hm : m = n := by rfl) (hst : (assignEach es X.env).findIdx? (·.1) = none := by rfl)
    (hs : swapsWithSole [.Tuple es kk p] (.Tuple fs k2 pt2) pos.line X.env = pure false := by rfl) (hw : swappedStores [.Tuple es kk p] (.Tuple fs k2 pt2) X.env = pure none := by rfl) (h1 : (assignEach [.Tuple es kk p] X.env).map (·.2) = [assign (.Tuple es kk p) X.env] := by rfl) :
    JS X G W (.Assign [.Tuple es kk p] (.Tuple fs k2 pt2) pos) (dPar is ts) := by
  obtain ⟨_, q, l⟩ := ha
  subst hm
  refine ⟨_, ps_asg (pe_tup q) (pg_tup C.calm hg hn hst) hs hw h1, ?_⟩
  rw [C.K]
  exact ls_parN l hnl h16
theorem s_app {pa : Pos} (C : Cxt X G W k) (he : JE X G W e te) (hN : X.N[i]? = some x := by rfl) (hv : Vis X.env.scope x := by first | exact Or.inl rfl | exact Or.inr (Or.inl rfl)) (hd : (x == ("__debug__" : Str)) = false := by decide) (hcd : (x == ("__classdict__" : Str)) = false := by decide)
    (hbase : attributeBase (.Name x p) "append" X.env (eval (.Name x p) X.env) = eval (.Name x p) X.env := by rfl)
    (hfew : ((backTo p2 (starEach [e] X.env)).all (fun x => !x.1) && (backToKw p2 (keywordEach [] X.env)).all (fun x => x.1.isSome)
      && decide ([e].length + ([] : List Keyword).length + (if ([] : List Keyword).isEmpty then 0 else 1) < 30)) = true := by rfl)
    (hline : (pa.endLine == p2.line) = true := by rfl) (hst : starEach [e] X.env = [(false, eval e X.env)] := by rfl)
    (hs : swapsWith (.Call (.Attribute (.Name x p) "append" pa) [e] [] p2) none pos.line X.env = pure false := by rfl) : JS X G W (.Expr (.Call (.Attribute (.Name x p) "append" pa) [e] [] p2) pos) (dApp i te) := by
  obtain ⟨_, q, l⟩ := he
  refine ⟨_, ps_expr (pe_bm PySem.F.plainAttrs_list PySem.F.slot_list_append PySem.F.type_list_append mt_append (pe_var hN hv hd hcd) (pa_cons q pa_nil hst) hbase hfew hline hst) hs, ?_⟩
  rw [C.K]
  exact ls_app l
theorem s_aug (C : Cxt X G W k) (he : JE X G W e te) (hi : X.N[i]? = some x := by rfl) (hx : Loc X.env.scope x := by first | exact Or.inl rfl | exact Or.inr rfl) (hf : X.fn x = true ∨ X.env.scope.names.lookup x = some .local := by first | exact .inl rfl | exact .inr rfl) :
    JS X G W (.AugAssign (.Name x p) .Add e pos) (dAug i iAdd te) := by
  obtain ⟨Te, q, l⟩ := he
  refine ⟨_, ps_aug C.nd hi hx q ip_add hf, fun F0 H0 ρ F σ H N D' S E qq => ?_⟩
  have qq : (slotAt ρ i).datum fun d => te ρ (fun s => s.use fun y => iAdd d y fun s => N.nx (ρ.set i s)) fun e => N.xc e ρ := qq
  unfold slotAt at qq
  cases hs : ρ[i]? with
  | none => rw [hs] at qq; exact qq.elim
  | some s =>
    rw [hs] at qq
    cases s with
    | val d =>
      obtain ⟨v, h1, h2⟩ := S.sl i _ hs
      refine ⟨v, h1, l.v S qq (fun y u F1 H1 e1 r1 q1 => ?_) (E.xw S)⟩
      cases d <;> cases y <;> first | exact q1.elim | skip
      exact ⟨_, _, h2, r1, E.nx _ F1 _ H1 ((S.ext e1).set i (s := .val (.int _)) (.val (.refl e1.fh) (show Rep G F1 (.int _) (.int _) from rfl))) q1⟩
    | _ => exact qq.elim
theorem cxt_def {P : Program} {w : World} {G : Gx} {mg : Str → Option Value} {base : Heap} {N : List Str} {x : Str} {sc : Scope} {f : Addr} {cdv : Value} {A : Around} {outer : List PySem.Env} {s : Shared} {H : Hp} {E : XK} {k : Nat} (hN : N.Nodup) (hr : Room k (A.deeper (envOfC x sc s.heap.objs.size f cdv))) :
    Cxt (cxOf (L2.CX P w) P w G.K mg base N x sc f cdv A outer s H E) G (fun cls d _ H => E cls d H) k := by
  have tk : Takes (cxOf (L2.CX P w) P w G.K mg base N x sc f cdv A outer s H E) (fun cls d _ H => E cls d H) := takes_of rfl rfl rfl rfl
  exact ⟨rfl, rfl, hN, hr, fun σ => passAt tk σ, passes_of rfl, tk⟩
end
end DL
namespace DL
open PySem PySem.Spec PyProof.Rows L2
theorem bt_int : bootBuiltins "int" = some (.type "int") := by decide +kernel
theorem bt_bool : bootBuiltins "bool" = some (.type "bool") := by decide +kernel
theorem bt_tuple : bootBuiltins "tuple" = some (.type "tuple") := by decide +kernel
theorem bt_list : bootBuiltins "list" = some (.type "list") := by decide +kernel
theorem bt_str : bootBuiltins "str" = some (.type "str") := by decide +kernel
end DL

/- DLf -/
namespace DL
open PySem PySem.Spec PyProof.Rows L2
/-- what of the heap is looked at -/
def asX (g : Addr → Option Obj) (n : Nat) : List Addr := He.asD g n ++ [cStatics]
/-- the defs, the facts, and a check of the written part -/
def hookX (n : Nat) (fa : List He.Fa) (fn : List He.DefD) (chk : PySem.W.Frag → Bool) : PySem.W.Hook where
  α := He.AlD × Bool
  obs := fun s => (He.obsD fa fn (He.frG s.heap.get? (asX s.heap.get? n)), chk (He.frG s.heap.get? (asX s.heap.get? n)))
  val := fun _ => (He.valD fn, true)
  says := fun _ h => ∃ K : PySem.W.Frag, K.In h ∧ He.SaysD fa fn K ∧ chk K = true
  of := fun _ s e => ⟨He.frG s.heap.get? (asX s.heap.get? n), He.frG_in, congrArg Prod.fst e, congrArg Prod.snd e⟩
  keeps := fun _ _ _ ⟨K, hK, c⟩ k => ⟨K, PySem.W.Frag.In.keeps hK k, c⟩
def obX (n : Nat) (fa : List He.Fa) (fn : List He.DefD) (chk : PySem.W.Frag → Bool) (g : Addr → Option Obj) : He.AlD × Bool := (He.obsD fa fn (He.frG g (asX g n)), chk (He.frG g (asX g n)))
theorem obX_eq {n : Nat} {fa : List He.Fa} {fn : List He.DefD} {chk : PySem.W.Frag → Bool} {g : Addr → Option Obj} {s : Shared} (h : ∀ a, g a = s.heap.get? a) : obX n fa fn chk g = (hookX n fa fn chk).obs s := by
  have e : g = s.heap.get? := funext h
  rw [e] <;> rfl
theorem ints_rep {G : Gx} {F : Hp} : ∀ ns : List Int, RepL G F (ns.map D.int) (ns.map V.int)
  | [] => rfl
  | n :: ns => ⟨V.int n, _, rfl, rfl, ints_rep ns⟩
/-- all but the tables -/
def noTab (H : Hp) : Hp := fun a => match H a with
  | some (.tbl _) => none
  | x => x
theorem noTab_same {H : Hp} : Same (noTab H) H := fun a o z => by
  unfold noTab at z
  split at z
  · cases z
  · exact z
/-- the law's promise from its reading over data -/
theorem law_sp {G : Gx} {f : DF} {ns : List Int} {H : Hp} {a : Addr} (h : f [.lst (ns.map D.int)] (fun s => s = .val (.bl true)) fun _ => False) (hS : SqL G.K H a (ns.map V.int)) (hT : TabsW G.tabs H) : spD G f [.ref a] H (fun v _ => v = .bl true) fun _ _ _ => False := by
  have no : ∀ a o, H a = some o → (∀ ps, o ≠ .tbl ps) → noTab H a = some o := fun a o z n => by
    unfold noTab
    rw [z]
    cases o <;> first | rfl | exact (n _ rfl).elim
  have hS' : SqL G.K (noTab H) a (ns.map V.int) := by
    rcases hS with (z | ⟨o, z⟩) | z
    · exact .inl (.inl (no _ _ z fun _ y => nomatch y))
    · exact .inl (.inr ⟨o, no _ _ z fun _ y => nomatch y⟩)
    · exact .inr z
  refine ⟨noTab H, [.lst (ns.map D.int)], _, _, noTab_same, fun P hP => ⟨hT P hP, ?_⟩, ⟨.ref a, [], rfl, ⟨a, _, rfl, hS', ints_rep ns⟩, rfl⟩, h, fun s v F' H' p e => ?_, fun x q => q.elim⟩
  · obtain ⟨ps, h1, _⟩ := hT P hP
    unfold noTab; rw [h1]
  · subst e
    exact p.v
/-- a law's end: F gives the written part, the function object, the promise over every base -/
theorem walk_ofX {l : PySem.W.OpenLaw} {n k : Nat} {q : Program} {loose : List Str} {XP : (Str → Option Value) → Heap → Prop} {YP : World → Heap → Prop} {d : DefRec} {CX : World → CXT} {x : Str}
    (hn : l.most = some n) (hn2 : n ≤ sizeLine) (hdf : d.params.defaults = []) (hr : Room k callerA)
    (F : ∀ (w : World) (mg : Str → Option Value) (fa : Addr) (h : Heap), YP w h → h.Ns mainGlobals mg → mg d.name = some (.ref fa) →
      ∃ (K : PySem.W.Frag) (fd : FuncData) (sp : Sp), K.In h ∧ (∀ (s : Shared) (u : Value), BindsTo s fd ⟨[u], []⟩ [(x, u)]) ∧
        (∀ (H : Hp) (a : Addr) (ns : List Int), ns.length ≤ n → (∀ z ∈ ns, bits z ≤ 1048576) → SqL K H a (ns.map V.int) → sp [.ref a] H (fun v _ => v = .bl true) fun _ _ _ => False) ∧
        ∀ base : Heap, K.In base → base.Ns mainGlobals mg → FnOk l.prog w K mg base (CX w) k fa fd [x] sp)
    (hCX : ∀ (w : World) (H : Hp) (s : Shared) (e : Value) (s' : Shared), CX w [] H s (fun _ _ _ => False) e s' → False) :
    PySem.W.WalkO q loose XP YP l.row.toRowW d [] (fun f vs => PySem.call f vs) := by
  refine Att.attach_callB hn hdf fun w s₀ s₁ mg mb fa o pm cd doc a vs ns G Y ho hd hcd hmg hobj hints hlen hbits hg => ?_
  obtain ⟨K, fd, sp, KX, hb, hsp, hF⟩ := F w mg fa _ Y G.T.g hmg
  exact law_call KX G.T.g G.T.b G.T.builtins G.T.nolimit hg hobj hints (Nat.le_trans hlen hn2) hr hF hb (fun H hO hS => hsp H a ns hlen (fun z hz => by rw [bits_eq]; exact hbits z hz) hS) fun H e s' => hCX w H s₁ e s'
theorem cx_none {P : Program} {w : World} {H : Hp} {s : Shared} {e : Value} {s' : Shared} (h : L2.CX P w [] H s (fun _ _ _ => False) e s') : False := by
  obtain ⟨_, _, _, _, _, _, _, _, _, _, _, _, z⟩ := h
  exact z.elim
theorem defAt {G : Gx} {mg : Str → Option Value} {h : Heap} {fa : List He.Fa} {fn : List He.DefD} {x : Str} {st : Stmt} (X : G.K.In h) (N : h.Ns mainGlobals mg) (c : He.SaysD fa fn G.K) (i j : Nat) (hi : fn[i]? = some ⟨(x, none), x, x, defArgs st, defBody st, defScope st, [], []⟩) (hj : fa[j]? = some (.glo x)) : DefAt G mg x st := by
  obtain ⟨fd, F⟩ := c.def_ i hi
  exact ⟨_, fd, He.glo_ok X N (c.fact j hj), F⟩
end DL

/- DLx -/
namespace DL
open PySem PySem.Spec PyProof.Rows L2
theorem exK_ok {P : Program} {w : World} {H : Hp} {h : Heap} {a : Addr} {cls : Value} {d : Option Addr} {oe : Obj} {vs : Array Value} (e : h.get? a = some oe) (z : Zc cls d oe) (dt : oe.data = .fields vs) : ObjOk P w H h a (ExK cls d a) :=
  ⟨⟨oe, vs, e, z, dt⟩, ⟨oe, e⟩, fun _ _ ⟨o, v, q, r⟩ k => ⟨o, v, k o q, r⟩⟩
section
variable {X : Cx} {pins : List (Addr × Obj)} {σ : Sg} {H : Hp} {s : Shared}
/-- a pinned exception, new since the entry, is told by the abstract heap -/
theorem track {a : Addr} {oe : Obj} {vs : Array Value} {cls : Value} {d : Option Addr} (I : Inv X ((a, oe) :: pins) σ H s) (z : Zc cls d oe) (hd : oe.data = .fields vs) (n0 : X.s_0.heap.get? a = none) (np : ∀ p ∈ X.pn ++ pins, p.1 ≠ a) :
    H a = none ∧ Inv X pins σ (upd H a (ExK cls d a)) s := by
  obtain ⟨ha, hn, nL, nF, nc⟩ := I.pin (a, oe) (List.mem_append_right _ List.mem_cons_self)
  have ne0 : ∀ b o, X.s_0.heap.get? b = some o → b ≠ a := fun b o e q => by rw [q, n0] at e; cases e
  have nx : ∀ {b : Addr} {u : HO}, H b = some u → b ≠ a := fun {b u} e => ne_of_none e hn
  refine ⟨hn, I.ok, I.os, I.bare, ⟨I.base.keep, I.base.slot, fun b o e n hb => ?_, I.base.there, fun b xs e => ?_, fun b o u e => ?_, fun b ps e => ?_⟩, I.loc, I.cell, ?_, fun x c e => ?_, fun p hp => ?_, fun b u e => ?_, I.len⟩
  · rw [upd_ne (ne0 b o e)]; exact I.base.free b o e n hb
  · have q := I.base.tups b xs e
    rw [upd_ne (nx q)]; exact q
  · have q := I.base.frzs b o u e
    rw [upd_ne (nx q)]; exact q
  · obtain ⟨m, q⟩ := I.base.tbls b ps e
    exact ⟨m, by rw [upd_ne (nx q)]; exact q⟩
  · rw [upd_ne (Ne.symm nL)]; exact I.free
  · have hc : c ≠ a := fun q => by
      obtain ⟨v, o, ho, hdc⟩ := I.cell x c e
      rw [q] at ho
      have ho' : s.heap.get? a = some o := ho
      have : oe = o := Option.some.inj (ha.symm.trans ho')
      subst this
      exact nc _ hdc
    rw [upd_ne hc]; exact I.freeC x c e
  · have hp' : p ∈ X.pn ++ ((a, oe) :: pins) := by
      rcases List.mem_append.mp hp with h | h
      · exact List.mem_append_left _ h
      · exact List.mem_append_right _ (List.mem_cons_of_mem _ h)
    obtain ⟨e, n, ne, nf, dd⟩ := I.pin p hp'
    exact ⟨e, by rw [upd_ne (np p hp)]; exact n, ne, nf, dd⟩
  · by_cases hb : b = a
    · subst hb
      rw [upd_same] at e; cases e
      exact exK_ok ha z hd
    · rw [upd_ne hb] at e
      exact (I.hok b u e).stay (fun c v _ q => q) (fun c q => by rw [upd_ne (nx q)]; exact q) fun c xs q => by rw [upd_ne (nx q)]; exact q
theorem unsuiteP {a : Addr} {oe : Obj} (I : Inv (X.suite a ((a, oe) :: (X.pn ++ pins))) [] σ H s) (ok : X.Ok) : Inv X ((a, oe) :: pins) σ H s :=
  ⟨ok, I.os, I.bare, I.base, I.loc, I.cell, I.free, I.freeC, fun p hp => I.pin p (by
    have hp' : p ∈ X.pn ++ ((a, oe) :: pins) := hp
    refine List.mem_append_left _ ?_
    rcases List.mem_append.mp hp' with h | h
    · exact List.mem_cons_of_mem _ (List.mem_append_left _ h)
    · rcases List.mem_cons.mp h with h | h
      · rw [h]; exact List.mem_cons_self
      · exact List.mem_cons_of_mem _ (List.mem_append_right _ h)), I.hok, I.len⟩
end
/-- what the clause 'except x as n: suite' wishes, where the exception is kept behind it -/
def wKeep (K : PySem.W.Frag) (c : Value) (i m : Nat) (ts : Addr → Value → Option Addr → TS) (D : Ends) : WX := fun cls d σ H =>
  PySem.W.exmOne K cls c = some true ∧ ∀ a, H a = none → σ.length = m → ts a cls d { nx := fun σ' H' => H' a = none → D.nx (σ'.set i none) (upd H' a (ExK cls d a)), rt := fun _ _ => False, bk := fun _ _ => False, ct := fun _ _ => False } (σ.set i (some (.ref a))) H
section
variable {X : Cx} {x n : Str} {c : Value} {i : Nat} {body suite : List Stmt} {b₀ : Stmt} {np pos pos' : Pos} {tb : WX → TS} {ts : Addr → Value → Option Addr → TS}
theorem ps_try_keep (hs : X.stack = X.env :: X.outer) (hf : X.env.frame = some X.env.locals) (hex : X.ex = []) (hN : X.N.Nodup) (hi : X.N[i]? = some n) (hln : X.env.kindOf n = some .local) (hc : Names X x c)
    (hb : ∀ (W : WX) (pn : List (Addr × Obj)) (xe : Value → Shared → Prop), Takes (X.tr pn xe) W → PassesOwn (model X.prog X.w) X.A X.env xe → PSs (X.tr pn xe) body (tb W))
    (hsu : ∀ (a : Addr) (oe : Obj) (cls : Value) (d : Option Addr) (pn : List (Addr × Obj)), Zc cls d oe → (∃ vs, oe.data = .fields vs) → PSs (X.suite a ((a, oe) :: pn)) (b₀ :: suite) (ts a cls d)) :
    PS X (.Try body [.ExceptHandler (some (.Name x np)) (some n) (b₀ :: suite) pos'] [] [] pos) (fun D σ H => tb (wKeep X.K c i X.N.length ts D) D σ H) := by
  refine ⟨fun pins s σ H D I h => ?_⟩
  have ok := I.ok
  have hfr : X.A.frames = some (X.env :: X.outer) := by rw [ok.frames, hs]
  have hloc : Loc X.env.scope n := .inl hln
  refine wpAny_Try_except ?_
  refine wpAny_mono ((hb (wKeep X.K c i X.N.length ts D) (X.pn ++ pins) (fun e s₁ => wpAny (model X.prog X.w) X.A (noteFrame e X.env) (fun _ s₂ => wpAny (model X.prog X.w) X.A (setFlight e none) (fun _ s₃ =>
    wpAny (model X.prog X.w) X.A (handleBy e X.env [.ExceptHandler (some (.Name x np)) (some n) (b₀ :: suite) pos']) (SP X pins D) X.xe s₃) X.xe s₂) X.xe s₁) (fun u s' xx => ?_) PassesOwn.looking).run [] s σ H D (I.toTry _) h) (fun f s1 hsp => ?_) (fun e s1 he => he)
  · obtain ⟨a, B, sI, pins', σ', H', cls, d, rfl, J', nb, up, sky, na, os, ag, hb1, hyes⟩ := xx
    have J : Inv X pins σ' H' sI := J'.ofTry ok
    have sky' : Sky B (X.env :: X.outer) a (Zc cls d) X.env.locals s'.heap := by rw [← hs]; exact sky
    have Ba : B.get? a = none := by
      rcases sky' with ⟨_, z, _⟩ | ⟨_, z, _⟩ | ⟨_, z, _⟩ <;> exact z
    show wpAny (model X.prog X.w) X.A (noteFrame (.ref a) X.env) _ _ _
    refine Sky.land Zc.steady hfr hf sky' fun h3 fl3 up3 => ?_
    have J3 : Inv X pins σ' H' { s' with heap := h3 } := J.landed nb fl3.1 (up.trans up3) os ag
    obtain ⟨oe3, vs3, he3, hz3, hd3⟩ := fl3.there
    have notFr : ∀ {h : Heap} {o : Obj} {vs : Array Value}, h.FunFrames B (X.env :: X.outer) → h.get? a = some o → o.data = .fields vs → a ∉ frs (X.env :: X.outer) := fun {h o vs} ff e dd hm => by
      obtain ⟨_, o', e', hnf⟩ := ff.mem hm
      rw [e] at e'; cases e'
      exact hnf _ dd
    have nfr := notFr fl3.2.2.1 he3 hd3
    have nL : a ≠ X.env.locals := fun z => nfr (List.mem_filterMap.mpr ⟨X.env, List.mem_cons_self, by rw [hf, z]⟩)
    have nF : a ∉ X.fs := fun hm => by
      obtain ⟨e, he, q⟩ := List.mem_filterMap.mp hm
      exact nfr (List.mem_filterMap.mpr ⟨e, List.mem_cons_of_mem _ he, q⟩)
    have sIa : sI.heap.get? a = none := by
      cases e : sI.heap.get? a with
      | none => rfl
      | some o =>
        have z := nb a o e (by rw [hs]; exact nfr)
        rw [Ba] at z; cases z
    have n0 : X.s_0.heap.get? a = none := by
      cases e : X.s_0.heap.get? a with
      | none => rfl
      | some o =>
        obtain ⟨o', z⟩ := J.base.there a o e (by rw [hex]; exact fun z => nomatch z)
        rw [sIa] at z; cases z
    have npin : ∀ p ∈ X.pn ++ pins, p.1 ≠ a := fun p hp z => by
      have q := (J.pin p hp).1
      rw [z, sIa] at q; cases q
    have S3 := J3.suite he3 hd3 na nL nF
    refine wpAny_handleBy_cons (codeAny_handlers_test ?_) (by intro q; cases q)
    have LT : PySem.W.Looks (model X.prog X.w) h3 (typeOf (.ref a)) cls := fun A Q E s k q => wpAny_typeOf_ref (k _ _ he3) (by rw [hz3.1]; exact q)
    have LM := PySem.W.exm_one (M := model X.prog X.w) (J3.kIn) LT hb1
    have test : ∀ {Q : Value → Shared → Prop} {E : Value → Shared → Prop}, Q c { s' with heap := h3 } → wpAny (model X.prog X.w) (X.A.mark (some (.ref a))) (eval (.Name x np) X.env) Q E { s' with heap := h3 } := fun {Q E} q => by
      obtain ⟨hg, hdbg, hm | ⟨hm, hv, hnn⟩⟩ := hc
      · exact ld_glob (X := X.suite a ((a, oe3) :: (X.pn ++ pins))) S3 hg hm q hdbg
      · exact ld_blt (X := X.suite a ((a, oe3) :: (X.pn ++ pins))) S3 hg hm hv q hnn hdbg
    refine test (LM.here ?_)
    refine codeAny_handlers_suite_as ?_
    refine HandSPX.lands_againZ fl3 fun h4 fl4 up4 => ?_
    have J4 : Inv X pins σ' H' { s' with heap := h4 } := J.landed nb fl4.1 ((up.trans up3).trans up4) os ag
    obtain ⟨oe4, vs4, he4, hz4, hd4⟩ := fl4.there
    have S4 := J4.suite he4 hd4 na nL nF
    refine store_ok (X := X.suite a ((a, oe4) :: (X.pn ++ pins))) (v := .ref a) S4 hN hi hloc rfl (fun s5 S5 => ?_) (.inr hln)
    refine wpAny_mono ((hsu a oe4 cls d (X.pn ++ pins) hz4 ⟨_, hd4⟩).run [] s5 _ H' _ S5 (hyes a na J.len)) (fun f s6 hsp => ?_) (fun _ _ z => False.elim z)
    cases f with
    | next =>
      obtain ⟨σ6, H6, S6, q6⟩ := hsp
      exact gone_ok (unsuiteP S6 ok) hN hi hln fun s7 J7 => by
        obtain ⟨z1, z2⟩ := track J7 hz4 hd4 n0 npin
        exact ⟨_, _, z2, q6 z1⟩
    | brk =>
      obtain ⟨σ6, H6, S6, q6⟩ := hsp
      exact False.elim q6
    | cont =>
      obtain ⟨σ6, H6, S6, q6⟩ := hsp
      exact False.elim q6
    | ret u =>
      obtain ⟨v6, σ6, H6, S6, r6, q6⟩ := hsp
      exact False.elim q6
  · cases f with
    | next =>
      obtain ⟨σ', H', J', q⟩ := hsp
      exact wpAny_execs_nil ⟨σ', H', J'.ofTry ok, q⟩
    | brk =>
      obtain ⟨σ', H', J', q⟩ := hsp
      exact ⟨σ', H', J'.ofTry ok, q⟩
    | cont =>
      obtain ⟨σ', H', J', q⟩ := hsp
      exact ⟨σ', H', J'.ofTry ok, q⟩
    | ret u =>
      obtain ⟨v, σ', H', J', r, q⟩ := hsp
      exact ⟨v, σ', H', J'.ofTry ok, r, q⟩
end
/-- what a class must say so that its instances can be asked -/
structure KxC (K : PySem.W.Frag) (C : Addr) : Prop where
  cl : (PySem.W.clsIn K C).isSome = true
  hg : PySem.W.findIn K (.ref C) "__getattribute__" = some (some (.builtin "BaseException.__getattribute__"))
  hk : PySem.W.findIn K (.ref C) "__getattr__" = some none
  hs : PySem.W.subIn K (.ref C) (.type "BaseException") = some true
  hd : PySem.W.hasDictIn K C = true
  ha : PySem.W.findIn K (.ref C) "__class__" = some (some (.builtin "object.__class__"))
  hn : PySem.W.specialIn K (.builtin "object.__class__") "__get__" = some (some (.builtin "getset_descriptor.__get__"))
  ht : PySem.W.takesIn K (.builtin "object.__class__") = some true
  hm : PySem.W.mroIn K C (.type "object") = some true
/-- a value's type: TyX, or a kept exception's class -/
inductive TyK (K : PySem.W.Frag) (H : Hp) : V → Value → Prop where
  | base {x : V} {t : Value} (h : TyX K H x t) : TyK K H x t
  | exc {a C : Addr} (C1 : KxC K C) (e : H a = some (ExK (.ref C) none a)) : TyK K H (.ref a) (.ref C)
  | excD {a C dd : Addr} {fs : List (Str × V)} (C1 : KxC K C) (e : H a = some (ExK (.ref C) (some dd) a)) (e2 : H dd = some (.xd fs)) : TyK K H (.ref a) (.ref C)
def rIsK (K : PySem.W.Frag) : List V → Hp → VK → Prop := fun xs H Q => ∃ (x c : V) (t u : Value) (b : Bool), xs = [x, c] ∧ ClsV c u ∧ TyK K H x t ∧ PySem.W.kitOne K t u = some b ∧ Q (.bl b) H
def rIsKT (K : PySem.W.Frag) : List V → Hp → VK → Prop := fun xs H Q => ∃ (x : V) (tp : Addr) (cs : List V) (t : Value) (us : List Value) (b : Bool), xs = [x, .ref tp] ∧ H tp = some (.tup cs) ∧ Paired ClsV cs us ∧ TyK K H x t ∧ PySem.W.kitAny K t us = some b ∧ Q (.bl b) H
section
variable {X : Cx} {pins : List (Addr × Obj)} {σ : Sg} {H : Hp} {s : Shared}
theorem exK_at {P : Program} {w : World} {h : Heap} {a : Addr} {cls : Value} {d : Option Addr} (hok : HOk P w H h) (e : H a = some (ExK cls d a)) : ∃ (oe : Obj) (vs : Array Value), h.get? a = some oe ∧ Zc cls d oe ∧ oe.data = .fields vs := by
  have x : ObjOk P w H h a (ExK cls d a) := hok a _ e
  exact x.1
theorem xd_at {P : Program} {w : World} {h : Heap} {a : Addr} {fs : List (Str × V)} (hok : HOk P w H h) (e : H a = some (.xd fs)) : ∃ mA, h.Ns1 a mA ∧ ∀ f, RelO (fs.lookup f) (mA f) := hok a _ e
theorem kit_ofK {x : V} {u t : Value} (I : Inv X pins σ H s) (rx : RelV x u) (ty : TyK X.K H x t) : ∃ P : Heap → Prop, PySem.W.KitX X.K u t P ∧ P s.heap ∧ u ≠ .builtin "__main__.__loader__#opaque" := by
  cases ty with
  | base b => exact kit_of I rx b
  | @exc a C C1 e =>
    cases (show u = Value.ref a from rx)
    obtain ⟨oe, vs, h1, h2, h3⟩ := exK_at I.hok e
    exact ⟨_, PySem.W.kitx_exc (ox := oe) (od := none) C1.cl C1.hg C1.hk C1.hs C1.ha C1.hn C1.ht C1.hm, ⟨h1, h2.1, by unfold PySem.W.notCls; rw [h3] <;> rfl, by rw [h2.2]; trivial⟩, fun z => nomatch z⟩
  | @excD a C dd fs C1 e e2 =>
    cases (show u = Value.ref a from rx)
    obtain ⟨oe, vs, h1, h2, h3⟩ := exK_at I.hok e
    obtain ⟨mA, ⟨od, es, ep, ho, _⟩, _⟩ := xd_at I.hok e2
    exact ⟨_, PySem.W.kitx_exc (ox := oe) (od := some od) C1.cl C1.hg C1.hk C1.hs C1.ha C1.hn C1.ht C1.hm, ⟨h1, h2.1, by unfold PySem.W.notCls; rw [h3] <;> rfl, by rw [h2.2]; exact ho⟩, fun z => nomatch z⟩
theorem call_isK : CallR X (.builtin "isinstance") (rIsK X.K) := by
  intro pins s σ H xs us Q I r h
  obtain ⟨x, c, t, u, b, rfl, k, ty, e, q⟩ := h
  obtain ⟨u1, u2, rfl, r1, r2⟩ := vals2 r
  have e2 := k.eq r2
  subst e2
  obtain ⟨P, Z, p, hx⟩ := kit_ofK I r1 ty
  exact PySem.W.kia_one Z I.kIn p e hx fun tk => ⟨.bl b, H, I.tok tk, rfl, q⟩
theorem call_isKT : CallR X (.builtin "isinstance") (rIsKT X.K) := by
  intro pins s σ H xs us Q I r h
  obtain ⟨x, tp, cs, t, ws, b, rfl, hT, k, ty, e, q⟩ := h
  obtain ⟨u1, u2, rfl, r1, r2⟩ := vals2 r
  cases (show u2 = Value.ref tp from r2)
  obtain ⟨P, Z, p, hx⟩ := kit_ofK I r1 ty
  obtain ⟨_, its, rv, o, h1, h2, n, h3⟩ := (show ObjOk X.prog X.w H s.heap tp (.tup cs) from I.hok tp _ hT)
  have e3 := ClsV.all k rv
  subst e3
  obtain ⟨oc, od, dt, sl⟩ := o
  simp only at h2 h3
  subst h2 h3
  exact PySem.W.kia_tup Z I.kIn p h1 e hx fun tk => ⟨.bl b, H, I.tok tk, rfl, q⟩
/-- e.f of a kept exception -/
def tXk (K : PySem.W.Frag) (f : Str) (te : TE) : TE := fun σ H Q => te σ H fun x H1 => ∃ (a C dd : Addr) (fs : List (Str × V)) (v : V), x = .ref a ∧ KxC K C ∧ PySem.W.findIn K (.ref C) f = some none ∧ H1 a = some (ExK (.ref C) (some dd) a) ∧ H1 dd = some (.xd fs) ∧ fs.lookup f = some v ∧ Q v H1
theorem pe_xk {e : Expr} {te : TE} {pos : Pos} {n : Str} (he : PE X e te) (hb : attributeBase e n X.env (eval e X.env) = eval e X.env := by rfl) : PE X (.Attribute e n pos) (tXk X.K n te) := by
  refine ⟨fun pins s σ H Q I h => ?_⟩
  refine attr_of hb (thn (he.run pins s σ H _ I h) fun u s1 hh => ?_)
  obtain ⟨x, H1, I1, rx, a, C, dd, fs, v, ex, T, hno, ea, ed, l, q⟩ := hh
  subst ex
  obtain rfl : u = Value.ref a := rx
  obtain ⟨oe, vs, ha, hz, hd⟩ := exK_at I1.hok ea
  obtain ⟨mA, hns, hr⟩ := xd_at I1.hok ed
  obtain ⟨od, ho, hl⟩ := lookIn_ns hns
  obtain ⟨u, hu, ru⟩ := RelO.some_of (v := v) (o := mA n) (by rw [← l]; exact hr n)
  have J : PySem.W.InstAt s1.heap a oe C (some od) := ⟨ha, hz.1, by unfold PySem.W.notCls; rw [hd] <;> rfl, by rw [hz.2]; exact ho⟩
  exact HandSPX.exc_get I1.kIn J T.hg T.hk T.hs (PySem.W.findObj_own T.hd hno rfl (by rw [hl, hu])) (handed_of ru) ⟨v, H1, I1.tok _, ru, q⟩
end

/-- the classes of refusals by their numbers: their fields -/
def XF : Nat → List Str := fun c => ([["turn"], ["form"], ["number", "most"], ["number"], ["form"], ["turn"], [], ["form"], ["number"], [], ["point"], [], ["form", "measure", "ground"], ["form", "measure", "ways"], []] : List (List Str)).getD c []
structure XTab (G : Gx) : Prop where
  kx : ∀ c, c < 11 → KxC G.K (G.cm c)
  one : ∀ c j, c < 11 → j < 11 → PySem.W.kitOne G.K (.ref (G.cm c)) (.ref (G.cm j)) = some (c == j)
  ve : ∀ c, c < 11 → PySem.W.kitOne G.K (.ref (G.cm c)) (.type "ValueError") = some true
  n1 : ∀ j, j < 11 → PySem.W.kitOne G.K (.type "NoneType") (.ref (G.cm j)) = some false
  ex : ∀ c, c < 11 → PySem.W.exmOne G.K (.ref (G.cm c)) (.ref (G.cm 11)) = some true
  nf : ∀ c f, c < 11 → f ∈ XF c → PySem.W.findIn G.K (.ref (G.cm c)) f = some none
  fn : ∀ c, c < 11 → G.fnm c = XF c
theorem nve (K : PySem.W.Frag) : PySem.W.kitOne K (.type "NoneType") (.type "ValueError") = some false := by
  unfold PySem.W.kitOne
  rw [if_neg (by decide)]
  show (if PySem.W.kitMeta "ValueError" = true then PySem.W.subIn K (.type "NoneType") (.type "ValueError") else none) = some false
  rw [if_pos (by decide +kernel)]
  exact (by decide +kernel : (fastBuiltinMro "NoneType").map (·.contains (Value.type "ValueError")) = some false)
section
variable {G : Gx} {W : WX} {ta : DE} {Ta : TE}
theorem obj_ty {F H : Hp} {c : Nat} {us : List D} {v : V} (T : XTab G) (hc : c < 11) (e : Same F H) (r : Rep G F (.obj c us) v) : TyK G.K H v (.ref (G.cm c)) := by
  obtain ⟨a, rfl, ⟨h0, _⟩ | ⟨_, d, h1, h2⟩⟩ := r
  · omega
  · rcases h2 with ⟨_, rfl⟩ | ⟨dd, fs, vs, rfl, h3, _⟩
    · exact .exc (T.kx c hc) (e _ _ h1)
    · exact .excD (T.kx c hc) (e _ _ h1) (e _ _ h3)
/-- p tells which classes u takes -/
structure IsxOk (G : Gx) (u : Value) (p : Nat → Bool) : Prop where
  c : ∀ c, c < 11 → PySem.W.kitOne G.K (.ref (G.cm c)) u = some (p c)
  n : PySem.W.kitOne G.K (.type "NoneType") u = some false
structure IsxsOk (G : Gx) (us : List Value) (p : Nat → Bool) : Prop where
  c : ∀ c, c < 11 → PySem.W.kitAny G.K (.ref (G.cm c)) us = some (p c)
  n : PySem.W.kitAny G.K (.type "NoneType") us = some false
theorem isx_cls (T : XTab G) {j : Nat} (hj : j < 11) : IsxOk G (.ref (G.cm j)) fun c => c == j := ⟨fun c hc => T.one c j hc hj, T.n1 j hj⟩
theorem isx_ve (T : XTab G) : IsxOk G (.type "ValueError") fun _ => true := ⟨fun c hc => T.ve c hc, nve _⟩
theorem isxs_nil : IsxsOk G [] fun _ => false := ⟨fun _ _ => rfl, rfl⟩
theorem isxs_cons {u : Value} {us : List Value} {p q : Nat → Bool} (h : IsxOk G u p) (hs : IsxsOk G us q) : IsxsOk G (u :: us) fun c => p c || q c := by
  refine ⟨fun c hc => ?_, ?_⟩
  · unfold PySem.W.kitAny
    rw [h.c c hc]
    show (match some (p c) with | some true => some true | some false => PySem.W.kitAny G.K (.ref (G.cm c)) us | none => none) = some (p c || q c)
    cases p c with
    | true => rfl
    | false => exact hs.c c hc
  · unfold PySem.W.kitAny
    rw [h.n]
    exact hs.n
theorem le_isx {u : Value} {c : V} {p : Nat → Bool} (T : XTab G) (hp : IsxOk G u p) (hc : ClsV c u) (ha : LE G W ta Ta) : LE G W (dUn (oIsX p) ta) (tCB (rIsK G.K) (tCons Ta (tCons (tC c) tNil))) := fun F0 H0 ρ F σ H Q QX QV S q hq hx =>
  ha.v S q (fun x v F1 H1 e1 r1 q1 => by
    cases x with
    | non => exact ⟨v, c, .type "NoneType", u, false, rfl, hc, .base (by rw [show v = V.non from r1]; exact .base .non), hp.n, hq _ _ F1 H1 (.val e1 (show Rep G F1 (.bl _) (.bl _) from rfl)) q1⟩
    | obj k us => exact ⟨v, c, .ref (G.cm k), u, p k, rfl, hc, obj_ty T q1.1 e1.fh r1, hp.c k q1.1, hq _ _ F1 H1 (.val e1 (show Rep G F1 (.bl _) (.bl _) from rfl)) q1.2⟩
    | _ => exact q1.elim) hx
theorem le_isxs {us : List Value} {cs : List V} {Ts : TA} {p : Nat → Bool} (T : XTab G) (hp : IsxsOk G us p) (hc : Paired ClsV cs us) (hT : ∀ (σ : Sg) (H : Hp) (Q : List V → Hp → Prop), Q cs H → Ts σ H Q) (hl : cs.length ≤ sizeLine) (ha : LE G W ta Ta) :
    LE G W (dUn (oIsX p) ta) (tCB (rIsKT G.K) (tCons Ta (tCons (tTup Ts) tNil))) := fun F0 H0 ρ F σ H Q QX QV S q hq hx =>
  ha.v S q (fun x v F1 H1 e1 r1 q1 => hT σ H1 _ ⟨hl, fun tp htp => by
    have e2 : Ext F1 H1 (upd F1 tp (.tup cs)) (upd H1 tp (.tup cs)) := .put e1.fh htp
    cases x with
    | non => exact ⟨v, tp, cs, .type "NoneType", us, false, rfl, upd_same, hc, .base (by rw [show v = V.non from r1]; exact .base .non), hp.n, hq _ _ _ _ (.val (e1.trans e2) (show Rep G _ (.bl _) (.bl _) from rfl)) q1⟩
    | obj k ws => exact ⟨v, tp, cs, .ref (G.cm k), us, p k, rfl, upd_same, hc, obj_ty T q1.1 e2.fh (Rep.mono e2.f (.obj k ws) r1), hp.c k q1.1, hq _ _ _ _ (.val (e1.trans e2) (show Rep G _ (.bl _) (.bl _) from rfl)) q1.2⟩
    | _ => exact q1.elim⟩) hx
theorem le_xf {cs : List Nat} {i : Nat} {f : Str} (T : XTab G) (hf : (cs.all fun c => decide (c < 11) && decide ((XF c)[i]? = some f)) = true) (ha : LE G W ta Ta) : LE G W (dUn (oXf cs i) ta) (tXk G.K f Ta) := fun F0 H0 ρ F σ H Q QX QV S q hq hx =>
  ha.v S q (fun x v F1 H1 e1 r1 q1 => by
    cases x with
    | obj c us =>
      obtain ⟨hc, q1⟩ := q1
      have h1 := List.all_eq_true.mp hf c (by simpa using hc)
      rw [Bool.and_eq_true, decide_eq_true_eq, decide_eq_true_eq] at h1
      cases hd : us[i]? with
      | none => rw [hd] at q1; exact q1.elim
      | some d =>
        rw [hd] at q1
        obtain ⟨a, rfl, ⟨h0, _⟩ | ⟨_, dd, h3, h4⟩⟩ := r1
        · omega
        · rcases h4 with ⟨rfl, _⟩ | ⟨dd, fs, vs, rfl, h5, h6, h7⟩
          · simp at hd
          · obtain ⟨w, hw, rw'⟩ := h6.get hd
            refine ⟨a, G.cm c, dd, fs, w, rfl, T.kx c h1.1, T.nf c f h1.1 (List.mem_of_getElem? h1.2), e1.fh _ _ h3, e1.fh _ _ h5, h7 i f w (by rw [T.fn c h1.1]; exact h1.2) hw, hq _ _ F1 H1 (.val e1 rw') q1⟩
    | _ => exact q1.elim) hx
end

section
variable {X : Cx} {G : Gx} {W : WX} {k : Nat} {a e : Expr} {es : List Expr} {ta te : DE} {ts : DA} {t : DS} {pos p p2 p3 : Pos} {n i : Nat} {x : Str}
theorem j_isxr {y : Str} {u : Value} {c : V} {pr : Nat → Bool} (C : Cxt X G W k) (T : XTab G) (hp : IsxOk G u pr) (hcv : ClsV c u) (hm : X.mg "isinstance" = none) (hc : PE X (.Name y p2) (tC c)) (ha : JE X G W a ta) (hg : Gl X "isinstance" := by rfl)
    (h1 : starEach (a :: [.Name y p2]) X.env = (false, eval a X.env) :: starEach [.Name y p2] X.env := by rfl) (h2 : starEach [.Name y p2] X.env = (false, eval (.Name y p2) X.env) :: starEach [] X.env := by rfl) (hpl : (backTo pos (starEach [.Name y p2] X.env)).any (·.1) = false := by rfl) :
    JE X G W (.Call (.Name "isinstance" p) [a, .Name y p2] [] pos) (dUn (oIsX pr) ta) := by
  obtain ⟨T', q, l⟩ := ha
  refine ⟨_, pe_callB call_isK hg hm boot_isinstance (pa_cons q (pa_cons hc pa_nil h2) h1) (he := h1) (hpl := hpl), ?_⟩
  rw [C.K]
  exact le_isx T hp hcv l
/-- isinstance(x, C), C a class of refusals -/
theorem j_isx {y : Str} {j : Nat} (C : Cxt X G W k) (T : XTab G) (hm : X.mg "isinstance" = none) (hy : X.mg y = some (.ref (G.cm j))) (ha : JE X G W a ta) (hj : j < 11 := by decide) (hg : Gl X "isinstance" := by rfl) (hgT : Gl X y := by rfl) (hdy : (y == ("__debug__" : Str)) = false := by decide)
    (h1 : starEach (a :: [.Name y p2]) X.env = (false, eval a X.env) :: starEach [.Name y p2] X.env := by rfl) (h2 : starEach [.Name y p2] X.env = (false, eval (.Name y p2) X.env) :: starEach [] X.env := by rfl) (hpl : (backTo pos (starEach [.Name y p2] X.env)).any (·.1) = false := by rfl) :
    JE X G W (.Call (.Name "isinstance" p) [a, .Name y p2] [] pos) (dUn (oIsX fun c => c == j) ta) :=
  j_isxr C T (isx_cls T hj) (.own _) hm (pe_glob (v := .ref (G.cm j)) hgT hy rfl hdy) ha hg h1 h2 hpl
theorem j_isve {y : Str} (C : Cxt X G W k) (T : XTab G) (hm : X.mg "isinstance" = none) (hmT : X.mg y = none) (hvT : bootBuiltins y = some (.type "ValueError")) (ha : JE X G W a ta) (hg : Gl X "isinstance" := by rfl) (hgT : Gl X y := by rfl) (hny : y ≠ "__name__" := by decide) (hdy : (y == ("__debug__" : Str)) = false := by decide)
    (h1 : starEach (a :: [.Name y p2]) X.env = (false, eval a X.env) :: starEach [.Name y p2] X.env := by rfl) (h2 : starEach [.Name y p2] X.env = (false, eval (.Name y p2) X.env) :: starEach [] X.env := by rfl) (hpl : (backTo pos (starEach [.Name y p2] X.env)).any (·.1) = false := by rfl) :
    JE X G W (.Call (.Name "isinstance" p) [a, .Name y p2] [] pos) (dUn (oIsX fun _ => true) ta) :=
  j_isxr C T (isx_ve T) (.ty _) hm (pe_bltn (v := .ty "ValueError") hgT hmT hvT rfl hny hdy) ha hg h1 h2 hpl
/-- a row of classes -/
structure JCs (X : Cx) (G : Gx) (es : List Expr) (m : Nat) (pr : Nat → Bool) : Prop where
  ex : ∃ (us : List Value) (cs : List V) (T : TA), PA X es T ∧ IsxsOk G us pr ∧ Paired ClsV cs us ∧ (∀ (σ : Sg) (H : Hp) (Q : List V → Hp → Prop), Q cs H → T σ H Q) ∧ cs.length = m
theorem jcs_nil : JCs X G [] 0 fun _ => false := ⟨[], [], _, pa_nil, isxs_nil, .nil, fun _ _ _ q => q, rfl⟩
theorem jcs_cons {y : Str} {j m : Nat} {pr : Nat → Bool} (T : XTab G) (hy : X.mg y = some (.ref (G.cm j))) (h : JCs X G es m pr) (hj : j < 11 := by decide) (hgT : Gl X y := by rfl) (hdy : (y == ("__debug__" : Str)) = false := by decide)
    (hs : starEach (.Name y p2 :: es) X.env = (false, eval (.Name y p2) X.env) :: starEach es X.env := by rfl) : JCs X G (.Name y p2 :: es) (m + 1) fun c => (c == j) || pr c := by
  obtain ⟨us, cs, T', q, h1, h2, h3, h4⟩ := h.ex
  exact ⟨_, .ref (G.cm j) :: cs, _, pa_cons (pe_glob (v := .ref (G.cm j)) hgT hy rfl hdy) q hs, isxs_cons (isx_cls T hj) h1, .cons (.own _) h2, fun σ H Q q' => h3 σ H _ q', by simp [h4]⟩
/-- isinstance(x, (C, D, ..)) -/
theorem j_isxs {m kk : Nat} {pr : Nat → Bool} (C : Cxt X G W k) (T : XTab G) (hm : X.mg "isinstance" = none) (hc : JCs X G es m pr) (ha : JE X G W a ta) (hm16 : Nat.ble m 16777216 = true := by rfl) (hg : Gl X "isinstance" := by rfl)
    (h1 : starEach (a :: [.Tuple es kk p2]) X.env = (false, eval a X.env) :: starEach [.Tuple es kk p2] X.env := by rfl) (h2 : starEach [.Tuple es kk p2] X.env = (false, eval (.Tuple es kk p2) X.env) :: starEach [] X.env := by rfl) (hpl : (backTo pos (starEach [.Tuple es kk p2] X.env)).any (·.1) = false := by rfl) :
    JE X G W (.Call (.Name "isinstance" p) [a, .Tuple es kk p2] [] pos) (dUn (oIsX pr) ta) := by
  obtain ⟨T', q, l⟩ := ha
  obtain ⟨us, cs, T2, q2, g1, g2, g3, g4⟩ := hc.ex
  refine ⟨_, pe_callB call_isKT hg hm boot_isinstance (pa_cons q (pa_cons (pe_tup q2) pa_nil h2) h1) (he := h1) (hpl := hpl), ?_⟩
  rw [C.K]
  exact le_isxs T g1 g2 g3 (by rw [g4]; exact small16 hm16) l
/-- x.f of a kept exception -/
theorem j_xf {cs : List Nat} {f : Str} (C : Cxt X G W k) (T : XTab G) (ha : JE X G W a ta) (hf : (cs.all fun c => decide (c < 11) && decide ((XF c)[i]? = some f)) = true := by decide +kernel) (hb : attributeBase a f X.env (eval a X.env) = eval a X.env := by rfl) : JE X G W (.Attribute a f pos) (dUn (oXf cs i) ta) := by
  obtain ⟨T', q, l⟩ := ha
  refine ⟨_, pe_xk q hb, ?_⟩
  rw [C.K]
  exact le_xf T hf l
/-- a class's __init__ stores its parameters under their names -/
def spInit (G : Gx) (c : Nat) : Sp := fun vs H Q _ => ∃ (a : Addr) (ws : List V), vs = .ref a :: ws ∧ ws.length = (XF c).length ∧ OexC G.K (G.cm c) ∧ (∀ f ∈ XF c, PySem.W.findIn G.K (.ref (G.cm c)) f = some none) ∧ H a = some (exo a (G.cm c) none) ∧
  ∀ H' d fs, H d = none → d ≠ a → H' a = some (exo a (G.cm c) (some d)) → H' d = some (exd d fs) → (∀ b, b ≠ a → b ≠ d → H' b = H b) → (∀ (i : Nat) f v, (XF c)[i]? = some f → ws[i]? = some v → fs.lookup f = some v) → Q .non H'
structure XMk (P : Program) (w : World) (G : Gx) (mg : Str → Option Value) (base : Heap) (c : Nat) (x : Str) : Prop where
  mgx : mg x = some (.ref (G.cm c))
  oex : OexC G.K (G.cm c)
  ex : ∃ (fI : Addr) (fd : FuncData) (ps : List Str), PySem.W.findIn G.K (.ref (G.cm c)) "__init__" = some (some (.ref fI)) ∧ PySem.W.typeIn G.K (.ref fI) = some (.type "function") ∧ Binds G.K fd ps [] ∧ FnOk P w G.K mg base (L2.CX P w) 1 fI fd ps (spInit G c)
theorem s_raise {c : Nat} (C : Cxt X G W k) (T : XTab G) (h : XMk X.prog X.w G X.mg X.base c x) (ha : JA X G W n (e :: es) ts) (hc : c < 11 := by decide) (hn : n = (XF c).length := by rfl) (hk : 2 ≤ k := by decide) (hg : Gl X x := by rfl) (hdb : (x == ("__debug__" : Str)) = false := by decide)
    (he : starEach (e :: es) X.env = (false, eval e X.env) :: starEach es X.env := by rfl) (hpl : (backTo pos (starEach es X.env)).any (·.1) = false := by rfl) : JS X G W (.Raise (some (.Call (.Name x p) (e :: es) [] pos)) none p2) (dRaise c ts) := by
  obtain ⟨fI, fd, ps, h1, h2, h3, F⟩ := h.ex
  obtain ⟨Ts, q, l⟩ := ha
  refine ⟨_, ps_raise C.calm C.tk (pmk_oex (k := 1) (dvs := []) (ds := []) (by rw [C.K]; exact h.oex) (by rw [C.K]; exact h1) (by rw [C.K]; exact h2) (by rw [C.K]; exact F) (C.room.mono hk) (by rw [C.K]; exact h3) .nil (fun _ _ _ _ _ _ _ z => by
    obtain ⟨_, _, _, _, _, _, _, _, _, _, _, _, z⟩ := z
    exact z.elim) hg h.mgx q hdb he hpl), fun F0 H0 ρ F σ H N D' S E q => ?_⟩
  refine l F0 H0 ρ F σ H _ _ _ S q (fun ds vs F1 H1 e1 r1 l1 q1 => ?_) (E.xw S)
  have hvl : vs.length = (XF c).length := by rw [r1.length, l1, hn]
  have h4 : (XF c).length ≤ 2 := by
    have : ∀ c : Nat, c < 11 → (XF c).length ≤ 2 := by decide
    exact this c hc
  refine ⟨by omega, fun a hna => ⟨a, vs, by rw [List.append_nil], hvl, h.oex, fun f hf => T.nf c f hc hf, upd_same, fun H' d fs hd hda ha' hd' ho hf => ?_⟩⟩
  have hd1 : H1 d = none := by rw [upd_ne hda] at hd; exact hd
  have sHH : Same H1 (upd (L2.del H' a) d (.xd fs)) := fun b o z => by
    have hbd : b ≠ d := fun y => by rw [y, hd1] at z; cases z
    have hba : b ≠ a := fun y => by rw [y, hna] at z; cases z
    rw [upd_ne hbd, L2.del_ne hba, ho b hba hbd, upd_ne hba]
    exact z
  have ex : Ext F1 H1 (upd F1 d (.xd fs)) (upd (L2.del H' a) d (.xd fs)) := by
    refine ⟨same_upd (e1.fh.free hd1), fun b o z => ?_, .of sHH, fun b o z => ?_⟩
    · by_cases hb : b = d
      · subst hb; rw [upd_same] at z ⊢; exact z
      · rw [upd_ne hb] at z
        exact sHH b o (e1.fh b o z)
    · by_cases hb : b = d
      · subst hb; exact .inr (.inl hd1)
      · rw [upd_ne hb] at z; exact .inl z
  refine ⟨rfl, d, fs, ha', hd', hd1, ?_⟩
  exact E.xc ⟨c, ds⟩ ρ _ σ _ (.ref (G.cm c)) (some d) ((S.ext e1).ext ex) q1 ⟨rfl, .inr ⟨d, fs, vs, rfl, upd_same, RepL.mono ex.f ds r1, fun i f v z1 z2 => hf i f v (by rw [← T.fn c hc]; exact z1) z2⟩⟩
/-- a class made with a text -/
structure XTx (G : Gx) (mg : Str → Option Value) (c : Nat) (x : Str) : Prop where
  mgx : mg x = some (.ref (G.cm c))
  ex : PySem.W.excIn G.K (G.cm c) He.veBase "ValueError.__new__" = true
  kp : PySem.W.keepIn G.K (.ref (G.cm c)) = true
  sb : PySem.W.subIn G.K (.ref (G.cm c)) (.type "BaseException") = some true
  ty : PySem.W.typeIn G.K (.ref (G.cm c)) = some (.type "type")
theorem s_raiseT {c j : Nat} {m : Str} (C : Cxt X G W k) (h : XTx G X.mg c x) (hg : Gl X x := by rfl) (hdb : (x == ("__debug__" : Str)) = false := by decide) :
    JS X G W (.Raise (some (.Call (.Name x p) [.Constant (.str m) j p3] [] pos)) none p2) (dRaise c dNil) := by
  refine ⟨_, ps_raise C.calm C.tk (pmk_own PySem.F.excBase_ValueError (by rw [C.K]; exact h.ex) h.mgx (by rw [C.K]; exact h.kp) (raises_own (by rw [C.K]; exact h.sb) (by rw [C.K]; exact h.ty)) hg hdb), fun F0 H0 ρ F σ H N D' S E q => ?_⟩
  exact E.xc ⟨c, []⟩ ρ F σ H (.ref (G.cm c)) none S q ⟨rfl, .inl ⟨rfl, rfl⟩⟩
theorem Cxt.tr (C : Cxt X G W k) {W' : WX} {pn : List (Addr × Obj)} {xe : Value → Shared → Prop} (tk : Takes (X.tr pn xe) W') (po : PassesOwn (model X.prog X.w) X.A X.env xe) : Cxt (X.tr pn xe) G W' k :=
  ⟨C.K, C.calm, C.nd, C.room, fun σ => passAt tk σ, po, tk⟩
theorem unset {F0 H0 F H : Hp} {σ : Sg} {ρ : Env} (S : SRep G F0 H0 F H σ ρ) (i : Nat) : SRep G F0 H0 F H (σ.set i none) (ρ.set i .un) := by
  have old : ∀ {j : Nat} {s : Sl}, (ρ.set i Sl.un)[j]? = some s → (s = .un) ∨ (i ≠ j ∧ ρ[j]? = some s) := fun {j s} q => by
    by_cases hj : i = j
    · subst hj
      by_cases hi : i < ρ.length
      · rw [List.getElem?_set_self hi] at q; cases q; exact .inl rfl
      · rw [List.getElem?_eq_none (by simpa using hi)] at q; cases q
    · rw [List.getElem?_set_ne hj] at q; exact .inr ⟨hj, q⟩
  refine ⟨by simpa using S.len, S.t0, S.e, fun j s q => ?_, fun j l s t p h1 h2 w1 w2 z1 z2 => ?_⟩
  · rcases old q with rfl | ⟨hj, q'⟩
    · trivial
    · rw [List.getElem?_set_ne hj]; exact S.sl j s q'
  · rcases old h1 with rfl | ⟨n1, q1⟩
    · cases w1
    · rcases old h2 with rfl | ⟨n2, q2⟩
      · cases w2
      · rw [List.getElem?_set_ne n1] at z1
        rw [List.getElem?_set_ne n2] at z2
        exact S.dis j l s t p q1 q2 w1 w2 z1 z2
theorem s_try {j : Nat} {body : List Stmt} {nm y : Str} {np py pn' sp pos' : Pos} (C : Cxt X G W k) (T : XTab G) (hF : X.mg "FormError" = some (.ref (G.cm 11)))
    (hb : ∀ (W' : WX) (pn : List (Addr × Obj)) (xe : Value → Shared → Prop), Cxt (X.tr pn xe) G W' k → JSs (X.tr pn xe) G W' body t)
    (hs : X.stack = X.env :: X.outer := by rfl) (hf : X.env.frame = some X.env.locals := by rfl) (hex : X.ex = [] := by rfl) (hi : X.N[i]? = some nm := by rfl) (hj : X.N[j]? = some y := by rfl) (hij : i ≠ j := by decide) (hln : X.env.kindOf nm = some .local := by rfl) (hvn : Vis X.env.scope nm := by exact Or.inl rfl) (hly : Loc X.env.scope y := by exact Or.inl rfl)
    (hgF : Gl X "FormError" := by rfl) (hdn : (nm == ("__debug__" : Str)) = false := by decide) (hcn : (nm == ("__classdict__" : Str)) = false := by decide) (hsw : swapsWith (.Name nm pn') (some (.Name y py)) sp.line X.env = pure false := by rfl) (hfn : X.fn y = true ∨ X.env.scope.names.lookup y = some .local := by first | exact .inl rfl | exact .inr rfl) :
    JS X G W (.Try body [.ExceptHandler (some (.Name "FormError" np)) (some nm) [.Assign [.Name y py] (.Name nm pn') sp] pos'] [] [] pos) (dTry i j t) := by
  classical
  let TB : WX → TS := fun W' D σ H => ∀ (pn : List (Addr × Obj)) (xe : Value → Shared → Prop) (C' : Cxt (X.tr pn xe) G W' k), Classical.choose (hb W' pn xe C') D σ H
  refine ⟨_, ps_try_keep (i := i) (tb := TB) (ts := fun _ _ _ => tAsg (tVar i) (gName j)) hs hf hex C.nd hi hln (c := .ref (G.cm 11)) ⟨hgF, by decide, .inl hF⟩ (fun W' pn xe tk po => ⟨fun pins s σ H D I q => ?_⟩) (fun a oe cls d pn _ _ => pss_one (ps_set C.nd hj hly (pe_var hi hvn hdn hcn) hsw hfn)), fun F0 H0 ρ F σ H N D' S E q => ?_⟩
  · exact (Classical.choose_spec (hb W' pn xe (C.tr tk po))).1.run pins s σ H D I (q pn xe (C.tr tk po))
  · intro pn xe C'
    refine (Classical.choose_spec (hb _ pn xe C')).2 F0 H0 ρ F σ H { N with xc := fun e r' => e.cls < 11 ∧ N.nx ((r'.set j (.val (.obj e.cls e.fs))).set i .un) } D' S (ERel.mk E.nx E.bk E.ct E.rt fun x ρ' F' σ' H' cls d S' hq hr => ?_) q
    obtain ⟨hc, hq⟩ := hq
    obtain ⟨rfl, hr⟩ := hr
    refine ⟨by rw [C.K]; exact T.ex _ hc, fun a ha hl => ?_⟩
    have hil : i < σ'.length := by rw [hl]; exact (List.getElem?_eq_some_iff.mp hi).1
    refine ⟨.ref a, List.getElem?_set_self hil, fun _ => ?_⟩
    have e2 : Ext F' H' (upd F' a (ExK (.ref (G.cm x.cls)) d a)) (upd H' a (ExK (.ref (G.cm x.cls)) d a)) := .put S'.e.fh ha
    have rp : Rep G (upd F' a (ExK (.ref (G.cm x.cls)) d a)) (.obj x.cls x.fs) (.ref a) := by
      refine ⟨a, rfl, .inr ⟨hc, d, upd_same, ?_⟩⟩
      rcases hr with h0 | ⟨dd, fs, vs, h1, h2, h3, h4⟩
      · exact .inl h0
      · exact .inr ⟨dd, fs, vs, h1, e2.f _ _ h2, RepL.mono e2.f x.fs h3, h4⟩
    have eσ : (((σ'.set i (some (.ref a))).set j (some (.ref a))).set i none) = (σ'.set j (some (.ref a))).set i none := by
      rw [List.set_comm _ _ hij, List.set_set]
    have S2 := unset ((S'.ext e2).set j (s := .val (.obj x.cls x.fs)) (v := .ref a) (.val (.refl e2.fh) rp)) i
    rw [← eσ] at S2
    exact E.nx _ _ _ _ S2 hq
end
section
variable {G : Gx} {P : Program} {w : World} {mg : Str → Option Value} {base : Heap} {fI : Addr} {fd : FuncData} {q : Str} {args : Arguments} {body : List Stmt} {sc : Scope} {c : Nat}
theorem init1 {f : Str} (F : FunD G.K "__init__" q args body sc [] [] fI fd) (S : FnScope ["self", f] ["self", f] sc) (hx : XF c = [f])
    (hb : ∀ (cdv : Value) (A : Around) (outer : List PySem.Env) (s : Shared) (H : Hp) (E : XK), PSs (cxOf (L2.CX P w) P w G.K mg base ["self", f] q sc fI cdv A outer s H E) body (tOst G.K f (tVar 0) (tVar 1))) : FnOk P w G.K mg base (L2.CX P w) 1 fI fd ["self", f] (spInit G c) := by
  refine F.ok S (fun vs H Q E h => ?_) fun cdv A outer s H vs Q E _ h => ?_
  · obtain ⟨a, ws, rfl, hl, _⟩ := h
    rw [hx] at hl
    show ws.length + 1 = 2
    rw [hl]; rfl
  · obtain ⟨a, ws, rfl, hl, T, hno, ha, hq⟩ := h
    rw [hx] at hl hno hq
    obtain ⟨v, rfl⟩ : ∃ v, ws = [v] := by
      match ws, hl with
      | [v], _ => exact ⟨v, rfl⟩
    refine ⟨_, hb cdv A outer s H E, v, rfl, .ref a, rfl, a, G.cm c, rfl, T, hno f List.mem_cons_self, .inl ⟨ha, fun dx hdx hda => ?_⟩⟩
    refine hq _ dx [(f, v)] hdx hda upd_same (by rw [upd_ne hda, upd_same]) (fun b h1 h2 => by rw [upd_ne h1, upd_ne h2]) fun i g u e1 e2 => ?_
    match i, e1, e2 with
    | 0, e1, e2 =>
      cases e1; cases e2
      simp [List.lookup]
    | i + 1, e1, _ => exact absurd e1 (by simp)
theorem init2 {f g : Str} (F : FunD G.K "__init__" q args body sc [] [] fI fd) (S : FnScope ["self", f, g] ["self", f, g] sc) (hx : XF c = [f, g]) (hfg : (f == g) = false)
    (hb : ∀ (cdv : Value) (A : Around) (outer : List PySem.Env) (s : Shared) (H : Hp) (E : XK), PSs (cxOf (L2.CX P w) P w G.K mg base ["self", f, g] q sc fI cdv A outer s H E) body (tSeq (tOst G.K f (tVar 0) (tVar 1)) (tOst G.K g (tVar 0) (tVar 2)))) : FnOk P w G.K mg base (L2.CX P w) 1 fI fd ["self", f, g] (spInit G c) := by
  refine F.ok S (fun vs H Q E h => ?_) fun cdv A outer s H vs Q E _ h => ?_
  · obtain ⟨a, ws, rfl, hl, _⟩ := h
    rw [hx] at hl
    show ws.length + 1 = 3
    rw [hl]; rfl
  · obtain ⟨a, ws, rfl, hl, T, hno, ha, hq⟩ := h
    rw [hx] at hl hno hq
    obtain ⟨v, u, rfl⟩ : ∃ v u, ws = [v, u] := by
      match ws, hl with
      | [v, u], _ => exact ⟨v, u, rfl⟩
    refine ⟨_, hb cdv A outer s H E, v, rfl, .ref a, rfl, a, G.cm c, rfl, T, hno f List.mem_cons_self, .inl ⟨ha, fun dx hdx hda => ?_⟩⟩
    refine ⟨u, rfl, .ref a, rfl, a, G.cm c, rfl, T, hno g (List.mem_cons_of_mem _ List.mem_cons_self), .inr ⟨dx, [(f, v)], upd_same, by rw [upd_ne hda, upd_same], by show 1 ≤ 900; decide, ?_⟩⟩
    refine hq _ dx [(g, u), (f, v)] hdx hda (by rw [upd_ne (Ne.symm hda), upd_same]) upd_same (fun b h1 h2 => by rw [upd_ne h2, upd_ne h1, upd_ne h2]) fun i x z e1 e2 => ?_
    match i, e1, e2 with
    | 0, e1, e2 =>
      cases e1; cases e2
      simp [List.lookup, hfg]
    | 1, e1, e2 =>
      cases e1; cases e2
      simp [List.lookup]
    | i + 2, e1, _ => exact absurd e1 (by simp)
end

/-- the numbered classes' names -/
def CN : Nat → Str := fun c => (["NoTurn", "NoShape", "TooGreat", "NoRoot", "NotLevel", "NotOwn", "Apart", "NotPlain", "NoMeasure", "Nought", "NoAnswer", "FormError", "Bowl", "Saddle", "Shape"] : List Str).getD c "law"
def kxB (K : PySem.W.Frag) (C : Addr) : Bool := (PySem.W.clsIn K C).isSome && (decide (PySem.W.findIn K (.ref C) "__getattribute__" = some (some (.builtin "BaseException.__getattribute__"))) && (decide (PySem.W.findIn K (.ref C) "__getattr__" = some none) &&
  (decide (PySem.W.subIn K (.ref C) (.type "BaseException") = some true) && (PySem.W.hasDictIn K C && (decide (PySem.W.findIn K (.ref C) "__class__" = some (some (.builtin "object.__class__"))) &&
  (decide (PySem.W.specialIn K (.builtin "object.__class__") "__get__" = some (some (.builtin "getset_descriptor.__get__"))) && (decide (PySem.W.takesIn K (.builtin "object.__class__") = some true) && decide (PySem.W.mroIn K C (.type "object") = some true))))))))
theorem kxB_ok {K : PySem.W.Frag} {C : Addr} (h : kxB K C = true) : KxC K C := by
  unfold kxB at h
  simp only [Bool.and_eq_true, decide_eq_true_eq] at h
  obtain ⟨h1, h2, h3, h4, h5, h6, h7, h8, h9⟩ := h
  exact ⟨h1, h2, h3, h4, h5, h6, h7, h8, h9⟩
def oexB (K : PySem.W.Frag) (C : Addr) : Bool := (match K.lookup C with
  | some ⟨.type "type", _, .cls cd, sl⟩ => (match cd.mro, sl.toList with
    | .ref C' :: bm, [_, _, _, _, some (.builtin n), _] => decide (C' = C) && (decide (n = "ValueError.__new__") && (cd.hasDict && (!cd.hasDel && PySem.HandSPX.refsVE bm)))
    | _, _ => false)
  | _ => false) && (decide (PySem.W.findIn K (.ref C) "__setattr__" = some (some (.builtin "object.__setattr__"))) && (decide (PySem.W.subIn K (.ref C) (.type "BaseException") = some true) && (decide (PySem.W.typeIn K (.ref C) = some (.type "type")) && PySem.W.keepIn K (.ref C))))
theorem oexB_ok {K : PySem.W.Frag} {C : Addr} (h : oexB K C = true) : OexC K C := by
  unfold oexB at h
  obtain ⟨h1, h⟩ := Bool.and_eq_true_iff.mp h
  simp only [Bool.and_eq_true, decide_eq_true_eq] at h
  obtain ⟨h2, h3, h4, h5⟩ := h
  refine ⟨?_, h2, h3, h4, h5⟩
  split at h1
  · rename_i dd cd sl ho
    split at h1
    · rename_i C' bm k0 k1 k2 k3 n k5 hm hs
      simp only [Bool.and_eq_true, decide_eq_true_eq, Bool.not_eq_true'] at h1
      obtain ⟨rfl, rfl, hd, hdel, hr⟩ := h1
      obtain ⟨nm, bs, mro, ns, qn, hdi, sn, sub, ab, col, del⟩ := cd
      dsimp only at hm hdel hd
      subst hm hdel hd
      have hsl : sl = #[k0, k1, k2, k3, some (.builtin "ValueError.__new__"), k5] := by
        obtain ⟨l⟩ := sl
        simp only at hs
        rw [hs]
      subst hsl
      exact ⟨nm, qn, ns, bs, bm, sn, sub, ab, col, dd, k0, k1, k2, k3, k5, ho, hr⟩
    · cases h1
  · cases h1
/-- a class with its own __init__ -/
def xmB (K : PySem.W.Frag) (C : Addr) : Bool := oexB K C && (decide (PySem.W.findIn K (.ref C) "__init__" = some (some (.ref (He.ma K C "__init__")))) && decide (PySem.W.typeIn K (.ref (He.ma K C "__init__")) = some (.type "function")))
theorem xmk_of {P : Program} {w : World} {G : Gx} {mg : Str → Option Value} {base : Heap} {c : Nat} {x : Str} {fd : FuncData} {ps : List Str} (h : xmB G.K (G.cm c) = true) (hm : mg x = some (.ref (G.cm c))) (hb : Binds G.K fd ps []) (F : FnOk P w G.K mg base (L2.CX P w) 1 (He.ma G.K (G.cm c) "__init__") fd ps (spInit G c)) : XMk P w G mg base c x := by
  obtain ⟨h1, h⟩ := Bool.and_eq_true_iff.mp h
  obtain ⟨h2, h3⟩ := Bool.and_eq_true_iff.mp h
  exact ⟨hm, oexB_ok h1, _, fd, ps, of_decide_eq_true h2, of_decide_eq_true h3, hb, F⟩
def xtxB (K : PySem.W.Frag) (C : Addr) : Bool := PySem.W.excIn K C He.veBase "ValueError.__new__" && (PySem.W.keepIn K (.ref C) && (decide (PySem.W.subIn K (.ref C) (.type "BaseException") = some true) && decide (PySem.W.typeIn K (.ref C) = some (.type "type"))))
theorem xtx_of {G : Gx} {mg : Str → Option Value} {c : Nat} {x : Str} (h : xtxB G.K (G.cm c) = true) (hm : mg x = some (.ref (G.cm c))) : XTx G mg c x := by
  unfold xtxB at h
  simp only [Bool.and_eq_true, decide_eq_true_eq] at h
  obtain ⟨h1, h2, h3, h4⟩ := h
  exact ⟨hm, h1, h2, h3, h4⟩
def xtB (K : PySem.W.Frag) (cm : Nat → Addr) : Bool := (List.range 11).all fun c => kxB K (cm c) && (decide (PySem.W.kitOne K (.ref (cm c)) (.type "ValueError") = some true) && (decide (PySem.W.kitOne K (.type "NoneType") (.ref (cm c)) = some false) && (decide (PySem.W.exmOne K (.ref (cm c)) (.ref (cm 11)) = some true) &&
  (((XF c).all fun f => decide (PySem.W.findIn K (.ref (cm c)) f = some none)) && ((List.range 11).all fun j => decide (PySem.W.kitOne K (.ref (cm c)) (.ref (cm j)) = some (c == j)))))))
theorem xtB_ok {G : Gx} (h : xtB G.K G.cm = true) (hf : G.fnm = XF) : XTab G := by
  have key : ∀ c, c < 11 → _ := fun c hc => List.all_eq_true.mp h c (List.mem_range.mpr hc)
  simp only [Bool.and_eq_true, decide_eq_true_eq] at key
  refine ⟨fun c hc => kxB_ok (key c hc).1, fun c j hc hj => ?_, fun c hc => (key c hc).2.1, fun c hc => (key c hc).2.2.1, fun c hc => (key c hc).2.2.2.1, fun c f hc hx => ?_, fun c _ => by rw [hf]⟩
  · exact of_decide_eq_true (List.all_eq_true.mp (key c hc).2.2.2.2.2 j (List.mem_range.mpr hj))
  · exact of_decide_eq_true (List.all_eq_true.mp (key c hc).2.2.2.2.1 f hx)
theorem bt_ValueError : bootBuiltins "ValueError" = some (.type "ValueError") := by decide +kernel
end DL

/- DLn -/
namespace DL
open PySem PySem.Spec PyProof.Rows L2 LamX
/-- the code object of the def at a, its table -/
def codeOf (K : PySem.W.Frag) (a : Addr) : Value := match K.lookup a with
  | some ⟨_, _, .func fd, _⟩ => fd.code
  | _ => .none
def codeA (K : PySem.W.Frag) (a : Addr) : Addr := match codeOf K a with
  | .ref c => c
  | _ => 0
def tabA (K : PySem.W.Frag) (a : Addr) : Addr := match K.lookup (codeA K a) with
  | some ⟨_, _, .fields vs, _⟩ => (match (vs[11]? : Option Value) with
    | some (.ref P) => P
    | _ => 0)
  | _ => 0
def isRef : Value → Bool
  | .ref _ => true
  | _ => false
/-- the def at a may make lambdas -/
def makerB (K : PySem.W.Frag) (a : Addr) : Bool := isRef (codeOf K a) && (PySem.W.codeHdIn K (codeA K a) (tabA K a) && ((K.lookup (tabA K a)).isNone && decide (mainGlobals ≠ tabA K a)))
theorem makerB_ok {K : PySem.W.Frag} {a : Addr} (h : makerB K a = true) : codeOf K a = .ref (codeA K a) ∧ PySem.W.codeHdIn K (codeA K a) (tabA K a) = true ∧ K.lookup (tabA K a) = none ∧ mainGlobals ≠ tabA K a := by
  unfold makerB at h
  simp only [Bool.and_eq_true, decide_eq_true_eq] at h
  obtain ⟨h1, h2, h3, h4⟩ := h
  refine ⟨?_, h2, Option.isNone_iff_eq_none.mp h3, h4⟩
  unfold codeA
  cases q : codeOf K a with
  | ref c => rfl
  | _ => rw [q] at h1; cases h1
def isTab : Option Obj → Bool
  | some ⟨.none, none, .fields vs, sl⟩ => vs.isEmpty && sl.isEmpty
  | _ => false
theorem isTab_ok {o : Option Obj} (h : isTab o = true) : o = some { cls := .none, data := .fields #[] } := by
  unfold isTab at h
  split at h
  · rename_i vs sl
    obtain ⟨h1, h2⟩ := Bool.and_eq_true_iff.mp h
    rw [Array.isEmpty_iff.mp h1, Array.isEmpty_iff.mp h2]
  · cases h
/-- the tables of these defs -/
def tabsOf (K : PySem.W.Frag) (mk : List Str) : List (Addr × Addr) := mk.map fun x => (codeA K (He.ga K x), tabA K (He.ga K x))
def tabsB (g : Addr → Option Obj) (K : PySem.W.Frag) (mk : List Str) : Bool := (tabsOf K mk).all fun p => isTab (g p.2)
/-- the addresses of the written part, but for tables that hold nothing yet -/
def asY (g : Addr → Option Obj) (n : Nat) : List Addr := (asX g n).filter fun a => !isTab (g a)
def hookT (n : Nat) (fa : List He.Fa) (fn : List He.DefD) (chk : PySem.W.Frag → Bool) (mk : List Str) : PySem.W.Hook where
  α := He.AlD × (Bool × Bool)
  obs := fun s => (He.obsD fa fn (He.frG s.heap.get? (asY s.heap.get? n)), (chk (He.frG s.heap.get? (asY s.heap.get? n)), tabsB s.heap.get? (He.frG s.heap.get? (asY s.heap.get? n)) mk))
  val := fun _ => (He.valD fn, (true, true))
  says := fun _ h => ∃ K : PySem.W.Frag, K.In h ∧ He.SaysD fa fn K ∧ chk K = true ∧ ∀ p ∈ tabsOf K mk, h.get? p.2 = some { cls := .none, data := .fields #[] }
  of := fun _ s e => ⟨He.frG s.heap.get? (asY s.heap.get? n), He.frG_in, congrArg Prod.fst e, congrArg (fun z => z.2.1) e, fun p hp => isTab_ok (List.all_eq_true.mp (show tabsB _ _ mk = true from congrArg (fun z => z.2.2) e) p hp)⟩
  keeps := fun _ _ _ ⟨K, hK, c, ck, t⟩ k => ⟨K, PySem.W.Frag.In.keeps hK k, c, ck, fun p hp => k _ _ (t p hp)⟩
def obT (n : Nat) (fa : List He.Fa) (fn : List He.DefD) (chk : PySem.W.Frag → Bool) (mk : List Str) (g : Addr → Option Obj) : He.AlD × (Bool × Bool) := (He.obsD fa fn (He.frG g (asY g n)), (chk (He.frG g (asY g n)), tabsB g (He.frG g (asY g n)) mk))
theorem obT_eq {n : Nat} {fa : List He.Fa} {fn : List He.DefD} {chk : PySem.W.Frag → Bool} {mk : List Str} {g : Addr → Option Obj} {s : Shared} (h : ∀ a, g a = s.heap.get? a) : obT n fa fn chk mk g = (hookT n fa fn chk mk).obs s := by
  have e : g = s.heap.get? := funext h
  rw [e] <;> rfl
/-- a law's end, with the tables -/
theorem walk_ofT {l : PySem.W.OpenLaw} {n k : Nat} {q : Program} {loose : List Str} {XP : (Str → Option Value) → Heap → Prop} {YP : World → Heap → Prop} {d : DefRec} {CX : World → CXT} {x : Str}
    (hn : l.most = some n) (hn2 : n ≤ sizeLine) (hdf : d.params.defaults = []) (hr : Room k callerA)
    (F : ∀ (w : World) (mg : Str → Option Value) (fa : Addr) (h : Heap), YP w h → h.Ns mainGlobals mg → mg d.name = some (.ref fa) →
      ∃ (K : PySem.W.Frag) (fd : FuncData) (sp : Sp) (cs : List (Addr × Addr)), K.In h ∧ (∀ p ∈ cs, h.get? p.2 = some { cls := .none, data := .fields #[] }) ∧ (∀ p ∈ cs, K.lookup p.2 = none) ∧ (∀ p ∈ cs, PySem.W.CodeHd h p.1 p.2) ∧ (∀ (s : Shared) (u : Value), BindsTo s fd ⟨[u], []⟩ [(x, u)]) ∧
        (∀ (H : Hp) (a : Addr) (ns : List Int), ns.length ≤ n → (∀ z ∈ ns, bits z ≤ 1048576) → (∀ p ∈ cs, H p.2 = some (.tbl #[])) → SqL K H a (ns.map V.int) → sp [.ref a] H (fun v _ => v = .bl true) fun _ _ _ => False) ∧
        ∀ base : Heap, K.In base → base.Ns mainGlobals mg → (∀ p ∈ cs, TabB base mg p.1 p.2) → FnOk l.prog w K mg base (CX w) k fa fd [x] sp)
    (hCX : ∀ (w : World) (H : Hp) (s : Shared) (e : Value) (s' : Shared), CX w [] H s (fun _ _ _ => False) e s' → False) :
    PySem.W.WalkO q loose XP YP l.row.toRowW d [] (fun f vs => PySem.call f vs) := by
  refine Att.attach_callB hn hdf fun w s₀ s₁ mg mb fa o pm cd doc a vs ns G Y ho hd hcd hmg hobj hints hlen hbits hg => ?_
  obtain ⟨K, fd, sp, cs, KX, hT, nT, C, hb, hsp, hF⟩ := F w mg fa _ Y G.T.g hmg
  exact law_callTs KX G.T.g G.T.b G.T.builtins G.T.nolimit hg hT nT C G.T.bmain hobj hints (Nat.le_trans hlen hn2) hr hF hb (fun H hH hS => hsp H a ns hlen (fun z hz => by rw [bits_eq]; exact hbits z hz) hH hS) fun H e s' => hCX w H s₁ e s'
theorem tabs_nil {H : Hp} {cs : List (Addr × Addr)} (h : ∀ p ∈ cs, H p.2 = some (.tbl #[])) : TabsW (cs.map (·.2)) H := fun P hP => by
  obtain ⟨p, hp, rfl⟩ := List.mem_map.mp hP
  exact NdefX.TabN.nil (h p hp)
theorem tabs_none {K : PySem.W.Frag} {mk : List Str} (h : mk.all (fun x => makerB K (He.ga K x)) = true) : ∀ p ∈ tabsOf K mk, K.lookup p.2 = none := fun p hp => by
  obtain ⟨x, hx, rfl⟩ := List.mem_map.mp hp
  exact (makerB_ok (List.all_eq_true.mp h x hx)).2.2.1
theorem tabs_code {K : PySem.W.Frag} {mk : List Str} {h : Heap} (X : K.In h) (hm : mk.all (fun x => makerB K (He.ga K x)) = true) : ∀ p ∈ tabsOf K mk, PySem.W.CodeHd h p.1 p.2 := fun p hp => by
  obtain ⟨x, hx, rfl⟩ := List.mem_map.mp hp
  exact PySem.W.codeHd_of_K X (makerB_ok (List.all_eq_true.mp hm x hx)).2.1
/-- the lambda that is handed on, as the argument of this number, by a def's last statement -/
def lamArg (q : Str) (st : Stmt) (i : Nat) : LamW := match (defBody st).getLast? with
  | some (.Return (some (.Call _ as _ _)) _) => (match as[i]? with
    | some (.Lambda ps b sc _) => ⟨q, ps, b, sc, []⟩
    | _ => ⟨q, defArgs st, .Name "" ⟨0, 0, 0, 0⟩, defScope st, []⟩)
  | _ => ⟨q, defArgs st, .Name "" ⟨0, 0, 0, 0⟩, defScope st, []⟩
theorem lamArg_cl {q : Str} {st : Stmt} {i : Nat} : (lamArg q st i).cl = [] := by
  unfold lamArg
  split
  · split <;> rfl
  · rfl
/-- the lambda that is handed on, as the argument j, by a def's statement i, «x = f(..)» -/
def lamStm (q : Str) (st : Stmt) (i j : Nat) : LamW := match (defBody st)[i]? with
  | some (.Assign _ (.Call _ as _ _) _) => (match as[j]? with
    | some (.Lambda ps b sc _) => ⟨q, ps, b, sc, []⟩
    | _ => ⟨q, defArgs st, .Name "" ⟨0, 0, 0, 0⟩, defScope st, []⟩)
  | _ => ⟨q, defArgs st, .Name "" ⟨0, 0, 0, 0⟩, defScope st, []⟩
theorem lamStm_cl {q : Str} {st : Stmt} {i j : Nat} : (lamStm q st i j).cl = [] := by
  unfold lamStm
  split
  · split <;> rfl
  · rfl
/-- a law whose code object is known -/
theorem fnOk_mkC {P : Program} {w : World} {G : Gx} {mg : Str → Option Value} {base : Heap} {k np n : Nat} {x : Str} {st : Stmt} {N ps : List Str} {t : DS} {c a : Addr} {fd : FuncData} (F : FunD G.K x x (defArgs st) (defBody st) (defScope st) [] [] a fd) (hc : codeOf G.K a = .ref c) (S : FnScope N ps (defScope st)) (hN : N.length = n) (hp : ps.length = np) (hnp : np ≤ n)
    (hb : ∀ (A : Around) (outer : List PySem.Env) (s : Shared) (H : Hp) (E : XK), Room k (A.deeper (envOfC x (defScope st) s.heap.objs.size a (.ref c))) →
      JSs (cxOf (L2.CX P w) P w G.K mg base N x (defScope st) a (.ref c) A outer s H E) G (fun cls d _ H => E cls d H) (defBody st) t) : FnOk P w G.K mg base (L2.CX P w) (k + 1) a fd ps (spD G (dFun np n t)) := by
  obtain ⟨oc, od, dV, kV, doc, pm, an, cdv, ct, osl, rfl, lk, hcd, _, _⟩ := F.ex
  have e : cdv = .ref c := by
    have := hc
    unfold codeOf at this
    rw [lk] at this
    exact this
  subst e
  refine fn_of lk hcd S (fun vs H Q E h => ?_) fun A outer s H vs Q E hr h => ?_
  · obtain ⟨F', ds, QD, QX, _, _, r, ⟨hl, _⟩, _⟩ := h
    rw [r.length, hl, hp]
  · obtain ⟨F', ds, QD, QX, e, tb, r, ⟨hl, q⟩, hQ, hX⟩ := h
    obtain ⟨T, hT, hL⟩ := hb A outer s H E hr
    refine ⟨T, hT, hL F' H _ F' _ H ⟨_, _, _, _, _⟩ _ (sRep_start e tb r hN hl hnp) (ERel.mk (fun ρ F1 σ H1 S1 q1 => ?_) (fun ρ F1 σ H1 S1 q1 => ?_) (fun ρ F1 σ H1 S1 q1 => ?_) (fun s v F1 H1 p q1 => ?_) (fun x ρ F1 σ H1 cls d S1 q1 r1 => ?_)) q⟩
    · exact hQ (.val .non) .non F1 H1 (.val S1.e rfl) q1
    · exact q1.elim
    · exact q1.elim
    · exact hQ s v F1 H1 p q1
    · exact hX x q1 cls d F1 H1 S1.e r1
/-- a def whose code object is known -/
theorem fn1_mkC {P : Program} {w : World} {G : Gx} {mg : Str → Option Value} {base : Heap} {k np n : Nat} {x : Str} {st : Stmt} {N ps : List Str} {t : DS} {c : Addr} (A : DefAt G mg x st) (hc : ∀ a, mg x = some (.ref a) → codeOf G.K a = .ref c) (S : FnScope N ps (defScope st)) (hN : N.length = n) (hp : ps.length = np) (hnp : np ≤ n)
    (hbind : ∀ (kV doc pm : Value) (an : Option Addr) (cdv ct : Value) (us : List Value), us.length = ps.length → bindArgs (PySem.W.fnOf x x (defArgs st) (defBody st) (defScope st) .none kV doc pm an cdv ct) ⟨us, []⟩ = pure (ps.zip us))
    (hb : ∀ (f : Addr) (A : Around) (outer : List PySem.Env) (s : Shared) (H : Hp) (E : XK), Room k (A.deeper (envOfC x (defScope st) s.heap.objs.size f (.ref c))) →
      JSs (cxOf (L2.CX P w) P w G.K mg base N x (defScope st) f (.ref c) A outer s H E) G (fun cls d _ H => E cls d H) (defBody st) t) : Fn1 P w G mg base (k + 1) x (dFun np n t) := by
  obtain ⟨a, fd, hm, F⟩ := A.ex
  refine ⟨a, fd, ps, hm, F.kp, F.bindsN hbind, ?_⟩
  obtain ⟨oc, od, dV, kV, doc, pm, an, cdv, ct, osl, rfl, lk, hcd, _, _⟩ := F.ex
  have e : cdv = .ref c := by
    have := hc a hm
    unfold codeOf at this
    rw [lk] at this
    exact this
  subst e
  refine fn_of lk hcd S (fun vs H Q E h => ?_) fun A outer s H vs Q E hr h => ?_
  · obtain ⟨F', ds, QD, QX, _, _, r, ⟨hl, _⟩, _⟩ := h
    rw [r.length, hl, hp]
  · obtain ⟨F', ds, QD, QX, e, tb, r, ⟨hl, q⟩, hQ, hX⟩ := h
    obtain ⟨T, hT, hL⟩ := hb a A outer s H E hr
    refine ⟨T, hT, hL F' H _ F' _ H ⟨_, _, _, _, _⟩ _ (sRep_start e tb r hN hl hnp) (ERel.mk (fun ρ F1 σ H1 S1 q1 => ?_) (fun ρ F1 σ H1 S1 q1 => ?_) (fun ρ F1 σ H1 S1 q1 => ?_) (fun s v F1 H1 p q1 => ?_) (fun x ρ F1 σ H1 cls d S1 q1 r1 => ?_)) q⟩
    · exact hQ (.val .non) .non F1 H1 (.val S1.e rfl) q1
    · exact q1.elim
    · exact q1.elim
    · exact hQ s v F1 H1 p q1
    · exact hX x q1 cls d F1 H1 S1.e r1
end DL

/- V_k03 -/
namespace Wk
open PySem PySem.Spec PyProof.Rows L2 DL
def top (i : Nat) : Stmt := PySem.Challenge.pw_formcycle_k03_powered.main.body.getD i (.Pass ⟨0, 0, 0, 0⟩)
abbrev s_powered : Stmt := top 1
abbrev s__law_cell : Stmt := top 3
abbrev s__law_whole : Stmt := top 4
abbrev s__law_count : Stmt := top 5
abbrev s__law_rests : Stmt := top 6
abbrev s_law : Stmt := top 7
def fns : List He.DefD := [⟨("powered", none), "powered", "powered", defArgs s_powered, defBody s_powered, defScope s_powered, [], []⟩, ⟨("_law_cell", none), "_law_cell", "_law_cell", defArgs s__law_cell, defBody s__law_cell, defScope s__law_cell, [], []⟩, ⟨("_law_whole", none), "_law_whole", "_law_whole", defArgs s__law_whole, defBody s__law_whole, defScope s__law_whole, [], []⟩, ⟨("_law_count", none), "_law_count", "_law_count", defArgs s__law_count, defBody s__law_count, defScope s__law_count, [], []⟩, ⟨("_law_rests", none), "_law_rests", "_law_rests", defArgs s__law_rests, defBody s__law_rests, defScope s__law_rests, [], []⟩, ⟨("law", none), "law", "law", defArgs s_law, defBody s_law, defScope s_law, [], []⟩]
def fas : List He.Fa := [.glo "powered", .glo "_law_cell", .glo "_law_whole", .glo "_law_count", .glo "_law_rests", .glo "law", .free "bool", .free "divmod", .free "int", .free "isinstance", .free "len", .free "range", .free "str"]
abbrev mkr : List Str := ["law", "_law_rests"]
def chk (K : PySem.W.Frag) : Bool := (mkr.all fun x => makerB K (He.ga K x))
abbrev R : PySem.W.OpenRow := PySem.W.OpenLaw.row PySem.Challenge.rw_formcycle_k03_powered
abbrev hk : PySem.W.Hook := hookT 6 fas fns chk mkr
def ob (s : PySem.W.SharedT) : He.AlD × (Bool × Bool) := obT 6 fas fns chk mkr (HandSHeadRun.getT s)
theorem ob_eq (s : PySem.W.SharedT) : ob s = hk.obs s.abs := obT_eq (HandSHeadRun.getT_eq s)
def loose : List Str := (["powered", "_law_cell", "_law_whole", "_law_count", "_law_rests"] : List Str)
theorem run (w : World) : HandSHeadRun.RunEq R (PySem.W.view R.prog [7]) hk ob 4000 loose w := by
  intro os
  kernel_rfl
end Wk

/- DLy -/
namespace DL
open PySem PySem.Spec PyProof.Rows L2
def tCallLS (i : Nat) (f : Addr) (sp : Sp) (E : L2.St → XK) (t : TA) : TE := fun σ H Q => σ[i]? = some (some (.ref f)) ∧ t σ H fun vs H1 => sp vs H1 Q (E σ)
section
variable {X : Cx} {CX : CXT} {k i : Nat} {f : Addr} {fd : FuncData} {ps : List Str} {sp : Sp} {E : L2.St → XK} {x : Str} {p pos : Pos} {e : Expr} {es : List Expr} {t : TA}
theorem pe_callLS (F : FnOk X.prog X.w X.K X.mg X.base CX k f fd ps sp) (hr : Room k X.A) (hN : X.N[i]? = some x) (hv : Vis X.env.scope x) (hk : PySem.W.keepIn X.K (.ref f) = true) (hb : Binds X.K fd ps []) (hx : ∀ σ, PassesAt CX X σ (E σ)) (ha : PA X (e :: es) t)
    (hdb : (x == ("__debug__" : Str)) = false := by decide) (hcd : (x == ("__classdict__" : Str)) = false := by decide)
    (he : starEach (e :: es) X.env = (false, eval e X.env) :: starEach es X.env := by rfl) (hpl : (backTo pos (starEach es X.env)).any (·.1) = false := by rfl) : PE X (.Call (.Name x p) (e :: es) [] pos) (tCallLS i f sp E t) := by
  refine ⟨fun pins s σ H Q I h => ?_⟩
  obtain ⟨hs, ht⟩ := h
  refine wpAny_Call_Name_kw (thn ((pe_var (pos := p) hN hv hdb hcd).run pins s σ H (fun v H1 => v = .ref f ∧ H1 = H) I ⟨.ref f, hs, rfl, rfl⟩) fun u s1 ⟨v, H1, I1, r1, q1⟩ => ?_)
  obtain ⟨rfl, rfl⟩ := q1
  cases r1
  refine PySem.W.callWith_K (h₀ := X.base) I.ok.mod.kin hk (thn (ha.run pos pins s1 σ _ _ I1 ht) fun us s2 ⟨vs, H2, I2, r, q⟩ => ⟨I2.kIn, ?_⟩) he hpl
  exact run_fnS F hr hb (hx σ) I2 r q
end
section
variable {G : Gx} {W : WX} {ta tb tk tv : DE} {Ta Tb Tk Tv : TE} {ts : DA} {Ts : TA} {i j n : Nat} {f : DF}
theorem le_callV (hj : j < 100) (ha : LA G W n ts Ts) : LE G W (dCallV i j f ts) (tCallLS i (G.cm j) (spD G f) (WE W) Ts) := fun F0 H0 ρ F σ H Q QX QV S q hq hx => by
  obtain ⟨q0, q⟩ := q
  have hs : ρ[i]? = some (.val (.fn j)) := by
    cases h : ρ[i]? with
    | none => rw [h] at q0; cases q0
    | some s => rw [h] at q0; exact congrArg some q0
  obtain ⟨v, h1, h2⟩ := S.sl i _ hs
  have hv : v = .ref (G.cm j) := by
    rcases h2 with ⟨_, e⟩ | ⟨e, _⟩
    · exact e
    · omega
  refine ⟨by rw [h1, hv], ha F0 H0 ρ F σ H _ _ _ S q (fun ds vs F1 H1 e1 r1 l1 q1 => ⟨F1, ds, Q, QX, e1.fh, (S.ext e1).tabs, r1, q1, fun s v F2 H2 p q2 => hq s v F2 H2 (p.after e1) q2, hx.ext e1⟩) hx⟩
theorem key_eq : ∀ (k : List Key) (ns : List Int), eqL (k.map keyD) (ns.map D.int) = decide (k = ns.map Sum.inl)
  | [], [] => rfl
  | [], _ :: _ => rfl
  | _ :: _, [] => by simp [eqL]
  | .inl a :: k, n :: ns => by
    show (a == n && eqL (k.map keyD) (ns.map D.int)) = _
    rw [key_eq k ns]
    by_cases h : a = n
    · subst h; simp
    · simp [h]
  | .inr a :: k, n :: ns => by
    show (false && _) = _
    simp
theorem keyed_is {y : D} (h : y.keyed = true) : ∃ ns : List Int, y = .tup (ns.map D.int) ∧ ns.length < 4 := by
  cases y with
  | tup l =>
    have h' := Bool.and_eq_true_iff.mp (show (Nat.ble l.length 3 && l.all D.isI) = true from h)
    refine ⟨l.map D.num, ?_, by rw [List.length_map]; have := Nat.le_of_ble_eq_true h'.1; omega⟩
    rw [List.map_map]
    congr 1
    have key : ∀ d ∈ l, (D.int ∘ D.num) d = d := fun d hd => by
      have z := List.all_eq_true.mp h'.2 d hd
      cases d <;> first | rfl | cases z
    rw [List.map_congr_left key, List.map_id'']
    exact fun _ => rfl
  | _ => cases h
theorem ints_val {F : Hp} : ∀ {ns : List Int} {vs : List V}, RepL G F (ns.map D.int) vs → vs = (ns.map (Sum.inl : Int → Key)).map kV
  | [], _, h => h
  | n :: ns, _, ⟨v, r, e, h1, h2⟩ => by
    rw [e, show v = V.int n from h1, ints_val h2]
    rfl
theorem key_rep {F : Hp} {y : D} {v : V} (h : y.keyed = true) (r : Rep G F y v) : ∃ (b : Addr) (ns : List Int), v = .ref b ∧ y = .tup (ns.map D.int) ∧ F b = some (.tup ((ns.map (Sum.inl : Int → Key)).map kV)) := by
  obtain ⟨ns, rfl, hl⟩ := keyed_is h
  obtain ⟨a, vs, rfl, ⟨_, h2⟩, h3⟩ := r
  rw [ints_val h3] at h2
  exact ⟨a, ns, rfl, rfl, h2 (by simpa using hl)⟩
theorem in_keys {ns : List Int} : ∀ {kvs : List (List Key × V)}, inD (.tup (ns.map D.int)) (kvs.map fun p => D.tup (p.1.map keyD)) = (valV kvs (ns.map Sum.inl)).isSome := fun {kvs} => by
  rw [← valV_any]
  unfold inD
  rw [List.any_map]
  congr 1
  funext p
  exact key_eq p.1 ns
theorem look_keys {F : Hp} {ns : List Int} : ∀ {kvs : List (List Key × V)} {us : List D} {d : D}, RepL G F us (kvs.map (·.2)) → lookD (.tup (ns.map D.int)) (kvs.map fun p => D.tup (p.1.map keyD)) us = some d → ∃ v, valV kvs (ns.map Sum.inl) = some v ∧ Rep G F d v
  | [], us, d, r, h => by cases us <;> cases h
  | p :: kvs, [], d, r, h => by cases h
  | p :: kvs, u :: us, d, ⟨v, w, e, h1, h2⟩, h => by
    have e' : p.2 :: kvs.map (·.2) = v :: w := e
    cases e'
    have h : (if eqL (p.1.map keyD) (ns.map D.int) = true then some u else lookD (.tup (ns.map D.int)) (kvs.map fun p => D.tup (p.1.map keyD)) us) = some d := h
    rw [key_eq] at h
    by_cases hp : p.1 = ns.map Sum.inl
    · rw [if_pos (by simpa using hp)] at h
      cases h
      exact ⟨p.2, valV_pos hp, h1⟩
    · rw [if_neg (by simpa using hp)] at h
      obtain ⟨x, x1, x2⟩ := look_keys h2 h
      exact ⟨x, by rw [valV_neg hp]; exact x1, x2⟩
theorem put_keys {ns : List Int} {kvs : List (List Key × V)} {v : V} : (putK kvs (ns.map Sum.inl) v).map (fun p => D.tup (p.1.map keyD)) = putKs (.tup (ns.map D.int)) (kvs.map fun p => D.tup (p.1.map keyD)) := by
  unfold putK putKs
  rw [in_keys, ← valV_any]
  split
  · rw [List.map_map]
    refine List.map_congr_left fun p _ => ?_
    show D.tup ((if p.1 = ns.map Sum.inl then (p.1, v) else p).1.map keyD) = _
    split <;> rfl
  · rw [List.map_append]
    show _ ++ [D.tup ((ns.map (Sum.inl : Int → Key)).map keyD)] = _
    rw [List.map_map]
    rfl
theorem repl_vals {F : Hp} {ns : List Int} {y : D} {v : V} (hv : Rep G F y v) : ∀ {kvs : List (List Key × V)} {us : List D}, RepL G F us (kvs.map (·.2)) → RepL G F (replD (.tup (ns.map D.int)) y (kvs.map fun p => D.tup (p.1.map keyD)) us) ((kvs.map fun kv => if kv.1 = ns.map Sum.inl then (kv.1, v) else kv).map (·.2))
  | [], us, r => by
    cases us with
    | nil => exact rfl
    | cons u us => obtain ⟨_, _, e, _⟩ := r; cases e
  | p :: kvs, [], r => by cases (show p.2 :: kvs.map (·.2) = [] from r)
  | p :: kvs, u :: us, ⟨v', w, e, h1, h2⟩ => by
    have e' : p.2 :: kvs.map (·.2) = v' :: w := e
    cases e'
    refine ⟨_, _, rfl, ?_, repl_vals hv h2⟩
    show Rep G F (if eqL (p.1.map keyD) (ns.map D.int) = true then y else u) (if p.1 = ns.map Sum.inl then (p.1, v) else p).2
    rw [key_eq]
    by_cases hp : p.1 = ns.map Sum.inl
    · rw [if_pos (by simpa using hp), if_pos hp]; exact hv
    · rw [if_neg (by simpa using hp), if_neg hp]; exact h1
theorem put_vals {F : Hp} {ns : List Int} {y : D} {v : V} {kvs : List (List Key × V)} {us : List D} (hv : Rep G F y v) (r : RepL G F us (kvs.map (·.2))) : RepL G F (putVs (.tup (ns.map D.int)) y (kvs.map fun p => D.tup (p.1.map keyD)) us) ((putK kvs (ns.map Sum.inl) v).map (·.2)) := by
  unfold putK putVs
  rw [in_keys, ← valV_any]
  split
  · exact repl_vals hv r
  · rw [List.map_append]
    exact r.append ⟨v, [], rfl, hv, rfl⟩
theorem DGet.tR {H : Hp} {a b : Addr} {kvs : List (List L2.Key × V)} {k : List L2.Key} (e : Rd H a (.dT kvs)) (eb : H b = some (.tup (k.map kV))) : DGet H a (.ref b) (valV kvs k) := .inr ⟨kvs, k, b, e, rfl, eb, rfl⟩
theorem le_newD : LE G W dNewD tDNewT := fun F0 H0 ρ F σ H Q QX QV S q hq hx p hp =>
  hq (.ownd [] []) _ F _ ⟨.lay S.same hp, p, [], rfl, upd_same, S.same.free hp, hp, rfl, rfl⟩ q
theorem le_din (ha : LE G W ta Ta) (hb : LE G W tb Tb) : LE G W (dOp (cB bDIn) ta tb) (tDIn Ta Tb) := fun F0 H0 ρ F σ H Q QX QV S q hq hx =>
  ha.v S q (fun x u F1 H1 e1 r1 q1 => hb.v (S.ext e1) q1 (fun y v F2 H2 e2 r2 q2 => by
    cases y with
    | dct ks us =>
      obtain ⟨hk, q2⟩ := q2
      obtain ⟨b, ns, rfl, rfl, hb⟩ := key_rep hk r1
      obtain ⟨a, kvs, rfl, h1, rfl, h3⟩ := r2
      rw [in_keys] at q2
      exact ⟨a, _, rfl, DL.DGet.tR (rd_mono e2.fh h1) (e2.fh _ _ (e2.f _ _ hb)), hq _ _ F2 H2 (.val (e1.trans e2) (show Rep G F2 (.bl _) (.bl _) from rfl)) q2⟩
    | _ => exact q2.elim) (hx.ext e1)) hx
theorem le_dnotin (ha : LE G W ta Ta) (hb : LE G W tb Tb) : LE G W (dOp (cB bDNotIn) ta tb) (tDNotIn Ta Tb) := fun F0 H0 ρ F σ H Q QX QV S q hq hx =>
  ha.v S q (fun x u F1 H1 e1 r1 q1 => hb.v (S.ext e1) q1 (fun y v F2 H2 e2 r2 q2 => by
    cases y with
    | dct ks us =>
      obtain ⟨hk, q2⟩ := q2
      obtain ⟨b, ns, rfl, rfl, hb⟩ := key_rep hk r1
      obtain ⟨a, kvs, rfl, h1, rfl, h3⟩ := r2
      rw [in_keys] at q2
      exact ⟨a, _, rfl, DL.DGet.tR (rd_mono e2.fh h1) (e2.fh _ _ (e2.f _ _ hb)), hq _ _ F2 H2 (.val (e1.trans e2) (show Rep G F2 (.bl _) (.bl _) from rfl)) q2⟩
    | _ => exact q2.elim) (hx.ext e1)) hx
theorem le_dget (ha : LE G W ta Ta) (hb : LE G W tb Tb) : LE G W (dOp oDIx ta tb) (tDGet Ta Tb) := fun F0 H0 ρ F σ H Q QX QV S q hq hx =>
  ha.v S q (fun x u F1 H1 e1 r1 q1 => hb.v (S.ext e1) q1 (fun y v F2 H2 e2 r2 q2 => by
    cases x with
    | dct ks us =>
      obtain ⟨hk, q2⟩ := q2
      obtain ⟨b, ns, rfl, rfl, hb⟩ := key_rep hk r2
      obtain ⟨a, kvs, rfl, h1, rfl, h3⟩ := r1
      cases hl : lookD (.tup (ns.map D.int)) (kvs.map fun p => D.tup (p.1.map keyD)) us with
      | none => rw [hl] at q2; exact q2.elim
      | some d =>
        rw [hl] at q2
        obtain ⟨w, w1, w2⟩ := look_keys h3 hl
        have g := DL.DGet.tR (k := ns.map Sum.inl) (rd_keep e2.h (rd_mono e1.fh h1)) (e2.fh _ _ hb)
        rw [w1] at g
        exact ⟨a, w, rfl, g, hq _ _ F2 H2 (.val (e1.trans e2) (Rep.mono e2.f d w2)) q2⟩
    | _ => exact q2.elim) (hx.ext e1)) hx
theorem SRep.writeD {F0 H0 F H : Hp} {σ : Sg} {ρ : Env} {i : Nat} {ks us ks' us' : List D} {p : Addr} {kvs' : List (List Key × V)} (S : SRep G F0 H0 F H σ ρ) (hi : ρ[i]? = some (.ownd ks us)) (hp : σ[i]? = some (some (.ref p))) (hk : ks' = kvs'.map fun q => D.tup (q.1.map keyD)) (r : RepL G F us' (kvs'.map (·.2))) :
    SRep G F0 H0 F (upd H p (.dT kvs')) σ (ρ.set i (.ownd ks' us')) := by
  obtain ⟨p', vs, k1, k2, k3, k4, k5⟩ := S.sl i _ hi
  rw [hp] at k1; cases k1
  have hil : i < ρ.length := (List.getElem?_eq_some_iff.mp hi).1
  refine ⟨by simpa using S.len, S.t0, ⟨S.e.f, fun a o z => ?_, S.e.h.writeD k4 k2, S.e.new⟩, fun j t q => ?_, fun j k t t' q z1 z2 w1 w2 y1 y2 => ?_⟩
  · rw [upd_ne (fun h => by subst h; rw [k3] at z; cases z)]; exact S.e.fh a o z
  · by_cases hj : i = j
    · subst hj
      rw [List.getElem?_set_self hil] at q; cases q
      exact ⟨p, kvs', hp, upd_same, k3, k4, hk, r⟩
    · rw [List.getElem?_set_ne hj] at q
      have z := S.sl j t q
      have np : ∀ {p'}, t.owns = true → σ[j]? = some (some (V.ref p')) → p' ≠ p := fun {p'} tw y e => by
        subst e
        exact hj (S.dis i j _ t p' hi q rfl tw hp y)
      cases t with
      | un => trivial
      | val d => exact z
      | own l => obtain ⟨p', ws, g1, g2, g3, g4, g5⟩ := z; exact ⟨p', ws, g1, by rw [upd_ne (np rfl g1)]; exact g2, g3, g4, g5⟩
      | ownd ks us => obtain ⟨p', ws, g1, g2, g3, g4, g5⟩ := z; exact ⟨p', ws, g1, by rw [upd_ne (np rfl g1)]; exact g2, g3, g4, g5⟩
  · have other : ∀ {j : Nat} {t : Sl}, (ρ.set i (.ownd ks' us'))[j]? = some t → t.owns = true → ∃ t', ρ[j]? = some t' ∧ t'.owns = true := fun {j t} z tw => by
      by_cases hj : i = j
      · subst hj; exact ⟨_, hi, rfl⟩
      · rw [List.getElem?_set_ne hj] at z; exact ⟨t, z, tw⟩
    obtain ⟨s1, a1, b1⟩ := other z1 w1
    obtain ⟨s2, a2, b2⟩ := other z2 w2
    exact S.dis j k s1 s2 q a1 a2 b1 b2 y1 y2
theorem ls_put (hk : LE G W tk Tk) (hv : LE G W tv Tv) : LS G W (dPut i tk tv) (tAsg Tv (gSub (tVar i) Tk rSetD)) := fun F0 H0 ρ F σ H N D' S E q => by
  have q : (slotAt ρ i).ownedD fun ks vs => tv ρ (fun s => s.use fun v => tk ρ (fun s' => s'.use fun y => (y.keyed = true ∧ ks.length < 16777216) ∧ N.nx (ρ.set i (.ownd (putKs y ks) (putVs y v ks vs)))) fun e => N.xc e ρ) fun e => N.xc e ρ := q
  unfold slotAt at q
  cases hs : ρ[i]? with
  | none => rw [hs] at q; exact q.elim
  | some s =>
   rw [hs] at q
   cases s with
   | ownd ks us =>
    obtain ⟨p, kvs, k1, k2, k3, k4, k5, k6⟩ := S.sl i _ hs
    refine hv.v S q (fun d v F1 H1 e1 r1 q1 => ⟨_, k1, ?_⟩) (E.xw S)
    refine hk.v (S.ext e1) q1 (fun y w F2 H2 e2 r2 q2 => ?_) (E.xw (S.ext e1))
    obtain ⟨⟨hky, hl⟩, q2⟩ := q2
    obtain ⟨b, ns, rfl, rfl, hb⟩ := key_rep hky r2
    have S2 := (S.ext e1).ext e2
    subst k5
    have e12 := e1.trans e2
    refine ⟨p, _, rfl, DPut.t (e12.h.dT k2) (e2.fh _ _ hb) (by rw [sizeLine_eq]; simpa using hl), E.nx _ F2 σ _ (S2.writeD hs k1 put_keys.symm (put_vals (Rep.mono e2.f d r1) (RepL.mono e12.f us k6))) q2⟩
   | _ => exact q.elim
theorem ixN_is (n : Nat) (k : Int) : L2.ixN n k = DL.ixN n k := by
  unfold L2.ixN DL.ixN
  rfl
theorem rep_set {F : Hp} {d : D} {v : V} (r : Rep G F d v) : ∀ {l : List D} {vs : List V} (m : Nat), RepL G F l vs → RepL G F (l.set m d) (vs.set m v)
  | [], vs, m, h => by rw [show vs = [] from h]; exact rfl
  | a :: l, _, 0, ⟨w, t, e, h1, h2⟩ => by subst e; exact ⟨v, t, rfl, r, h2⟩
  | a :: l, _, m + 1, ⟨w, t, e, h1, h2⟩ => by subst e; exact ⟨w, _, rfl, h1, rep_set r m h2⟩
theorem ls_lput (hk : LE G W tk Tk) (hv : LE G W tv Tv) : LS G W (dLPut i tk tv) (tAsg Tv (gSub (tVar i) Tk rSetL)) := fun F0 H0 ρ F σ H N D' S E q => by
  have q : (slotAt ρ i).owned fun l => tv ρ (fun s => s.use fun v => tk ρ (fun s' => s'.use fun y => y.asInt fun j => optN (DL.ixN l.length j) fun m => N.nx (ρ.set i (.own (l.set m v)))) fun e => N.xc e ρ) fun e => N.xc e ρ := q
  unfold slotAt at q
  cases hs : ρ[i]? with
  | none => rw [hs] at q; exact q.elim
  | some s =>
   rw [hs] at q
   cases s with
   | own l =>
    obtain ⟨p, vs, k1, k2, k3, k4, k5⟩ := S.sl i _ hs
    refine hv.v S q (fun d v F1 H1 e1 r1 q1 => ⟨_, k1, ?_⟩) (E.xw S)
    refine hk.v (S.ext e1) q1 (fun y w F2 H2 e2 r2 q2 => ?_) (E.xw (S.ext e1))
    cases y with
    | int j =>
      have e12 := e1.trans e2
      have q2 : optN (DL.ixN l.length j) fun m => N.nx (ρ.set i (.own (l.set m d))) := q2
      cases hm : DL.ixN l.length j with
      | none => rw [hm] at q2; exact q2.elim
      | some m =>
        rw [hm] at q2
        refine ⟨p, vs, j, m, rfl, r2, e12.h.lst k2, by rw [ixN_is, k5.length]; exact hm, E.nx _ F2 σ _ (((S.ext e1).ext e2).write hs k1 (rep_set (Rep.mono e2.f d r1) m (RepL.mono e12.f l k5))) q2⟩
    | _ => exact q2.elim
   | _ => exact q.elim
theorem ls_clear : LS G W (dClear i) (tDrop (tBM0 G.K "list" rClear (tVar i))) := fun F0 H0 ρ F σ H N D' S E q => by
  have q : (slotAt ρ i).owned fun _ => N.nx (ρ.set i (.own [])) := q
  unfold slotAt at q
  cases hs : ρ[i]? with
  | none => rw [hs] at q; exact q.elim
  | some s =>
   rw [hs] at q
   cases s with
   | own l =>
    obtain ⟨p, vs, k1, k2, k3, k4, k5⟩ := S.sl i _ hs
    exact ⟨_, k1, .inl ⟨rfl, _, SqL.of k2⟩, p, vs, rfl, rfl, k2, E.nx _ F σ _ (S.write hs k1 (l' := []) (vs' := []) rfl) q⟩
   | _ => exact q.elim
/-- list(d) -/
theorem keys_rep {F : Hp} : ∀ k : List Key, RepL G F (k.map keyD) (k.map kV)
  | [] => rfl
  | .inl a :: k => ⟨V.int a, _, rfl, rfl, keys_rep k⟩
  | .inr a :: k => ⟨V.str a, _, rfl, (rfl : V.str a = V.str ⟨a.cps.toList.toArray⟩), keys_rep k⟩
theorem lr_listD : LRs G fListD (fun xs H Q => ∃ d kvs, xs = [V.ref d] ∧ Rd H d (.dT kvs) ∧ ∀ p bs, H p = none → IsKeys H kvs bs → Q (.ref p) (upd H p (.lst (bs.map V.ref)))) := fun F H xs us Q QV e r q hq => by
  classical
  unfold fListD at q
  split at q
  · obtain ⟨v, rfl, a, kvs, rfl, h1, rfl, h3⟩ := one_rep r
    refine ⟨a, kvs, rfl, rd_mono e h1, fun p bs hp hk => ?_⟩
    let F' : Hp := fun b => if b ∈ bs then H b else F b
    have hin : ∀ b ∈ bs, ∃ xs, H b = some (.tup xs) := by
      clear h1 h3 hq q r
      unfold IsKeys at hk
      induction hk with
      | nil => exact fun b hb => absurd hb List.not_mem_nil
      | cons h t ih =>
        intro b hb
        rcases List.mem_cons.mp hb with rfl | hb
        · exact ⟨_, h⟩
        · exact ih b hb
    have fF : Same F F' := fun b o z => by
      show (if b ∈ bs then H b else F b) = some o
      split
      · exact e b o z
      · exact z
    have fh : Same F' H := fun b o z => by
      have z : (if b ∈ bs then H b else F b) = some o := z
      split at z
      · exact z
      · exact e b o z
    have ex : Ext F H F' H := ⟨fF, fh, Keep.refl _, fun b o z => by
      have z : (if b ∈ bs then H b else F b) = some o := z
      split at z
      · rename_i hb
        obtain ⟨xs, hx⟩ := hin b hb
        rw [hx] at z; cases z
        exact .inr (.inr (.inl ⟨_, rfl⟩))
      · exact .inl z⟩
    have rl : RepL G F' (kvs.map fun q => D.tup (q.1.map keyD)) (bs.map V.ref) := by
      have at' : ∀ b ∈ bs, F' b = H b := fun b hb => if_pos hb
      clear_value F'
      clear h1 h3 hq q r hin fF fh ex
      unfold IsKeys at hk
      induction hk with
      | nil => exact rfl
      | cons h t ih =>
        refine ⟨_, _, rfl, ?_, ih fun b hb => at' b (List.mem_cons_of_mem _ hb)⟩
        have z := (at' _ List.mem_cons_self).trans h
        unfold Rep
        exact ⟨_, _, rfl, ⟨.inl (.inl z), fun _ => z⟩, keys_rep _⟩
    exact hq _ _ F' _ (.mkOwn ex hp rl) q
  · exact q.elim
end
abbrev encT (ns : List Int) : PyData := .tuple (ns.map PyData.int)
theorem dataLt_tups (p q : List Int) : PySem.W.dataLt (encT p) (encT q) = decide (p < q) := by
  rw [PySem.W.dataLt_tuple]
  exact PySem.W.dataLt_ints p q
theorem dataLe_tups : PySem.W.dataLe false encT = fun p q => decide (p ≤ q) := by
  funext p q
  show (!PySem.W.dataLt (encT q) (encT p)) = _
  rw [dataLt_tups]
  by_cases h : q < p
  · have h' : ¬ p ≤ q := fun r => List.not_lt.mpr r h
    simp [h, h']
  · have h' : p ≤ q := List.not_lt.mp h
    simp [h, h']
theorem alike_ints : ∀ p q : List Int, PySem.W.alikeAll (p.map PyData.int) (q.map PyData.int) = true
  | [], _ => by unfold PySem.W.alikeAll; rfl
  | _ :: _, [] => by unfold PySem.W.alikeAll; rfl
  | a :: p, b :: q => by
    show PySem.W.alikeAll (PyData.int a :: p.map PyData.int) (PyData.int b :: q.map PyData.int) = true
    unfold PySem.W.alikeAll
    rw [alike_ints p q]
    simp [PySem.W.alike]
theorem alike_tups (p q : List Int) : PySem.W.alike (encT p) (encT q) = true := by
  show PySem.W.alike (.tuple (p.map PyData.int)) (.tuple (q.map PyData.int)) = true
  unfold PySem.W.alike
  exact alike_ints p q
theorem depth_ints : ∀ p : List Int, PyData.depthAll (p.map PyData.int) = 0
  | [] => rfl
  | a :: p => by
    show max (PyData.depth (.int a)) (PyData.depthAll (p.map PyData.int)) = 0
    rw [depth_ints p]
    rfl
theorem depth_tup (p : List Int) : (encT p).depth ≤ 1 := by
  show PyData.depthAll (p.map PyData.int) + 1 ≤ 1
  rw [depth_ints p]
  exact Nat.le_refl _
theorem depth_tups : ∀ l : List (List Int), PyData.depthAll (l.map encT) ≤ 1
  | [] => Nat.zero_le _
  | a :: l => Nat.max_le.mpr ⟨depth_tup a, depth_tups l⟩
theorem lay_ints : ∀ p : List Int, PyData.canLayAll0 (p.map PyData.int) = true
  | [] => rfl
  | a :: p => by
    show (PyData.canLay0 (.int a) && PyData.canLayAll0 (p.map PyData.int)) = true
    rw [lay_ints p]
    rfl
theorem ints_inj : ∀ {p q : List Int}, p.map PyData.int = q.map PyData.int → p = q
  | [], [], _ => rfl
  | [], _ :: _, h => by cases h
  | _ :: _, [], h => by cases h
  | a :: p, b :: q, h => by
    have h1 := List.cons.inj h
    have h2 := PyData.int.inj h1.1
    rw [h2, ints_inj h1.2]
theorem lexLt_is : ∀ p q : List Int, HT.lexLt p q = decide (p < q)
  | [], [] => by rw [HT.lexLt_nil_nil]; simp
  | [], b :: q => by rw [HT.lexLt_nil_cons]; simp
  | a :: p, [] => by rw [HT.lexLt_cons_nil]; simp
  | a :: p, b :: q => by
    rw [HT.lexLt_cons, lexLt_is p q]
    by_cases h : a = b
    · simp [h, List.cons_lt_cons_iff]
    · simp [h, List.cons_lt_cons_iff]
theorem minD_enc : ∀ (l : List (List Int)) (x : List Int), PySem.W.minD (encT x) (l.map encT) = encT (minL x l)
  | [], x => rfl
  | y :: l, x => by
    show PySem.W.minD (if PySem.W.dataLt (encT y) (encT x) then encT y else encT x) (l.map encT) = encT (minL (if y < x then y else x) l)
    rw [dataLt_tups]
    by_cases h : y < x
    · rw [if_pos (by simpa using h), if_pos h]; exact minD_enc l y
    · rw [if_neg (by simpa using h), if_neg h]; exact minD_enc l x
section
variable {X : Cx}
abbrev Tpl (K : PySem.W.Frag) (H : Hp) (Good : V → List Int → Prop) : Prop := ∀ x ns, Good x ns → ∃ a, x = .ref a ∧ SqT K H a (ns.map V.int)
theorem dp_ints {K : PySem.W.Frag} {H : Hp} : ∀ ns : List Int, DpAll K H (ns.map V.int) (ns.map PyData.int)
  | [] => .nil
  | n :: ns => .cons (.int n) (dp_ints ns)
theorem tpl_reads {pins : List (Addr × Obj)} {σ : Sg} {H : Hp} {s : Shared} {Good : V → List Int → Prop} (I : Inv X pins σ H s) (hg : Tpl X.K H Good) {x : V} {v : Value} {ns : List Int} (r : RelV x v) (g : Good x ns) : ∃ as, Reads s.heap v (encT ns) as := by
  obtain ⟨a, rfl, h⟩ := hg x ns g
  exact Dp.reads I _ _ _ (.tup h (dp_ints ns)) r
theorem pair_each {Good : V → List Int → Prop} : ∀ {ws : List V} {its : List Value} {nss : List (List Int)}, Vals ws its → Paired Good ws nss → PySem.W.EachIs (fun v ns => ∃ x, RelV x v ∧ Good x ns) its nss
  | [], _, _, .nil, .nil => .nil
  | _ :: _, _, _, .cons r rs, .cons g gs => .cons ⟨_, r, g⟩ (pair_each rs gs)
theorem each_pair {Good : V → List Int → Prop} : ∀ {its : List Value} {nss : List (List Int)}, PySem.W.EachIs (fun v ns => ∃ x, RelV x v ∧ Good x ns) its nss → ∃ ws, Vals ws its ∧ Paired Good ws nss
  | [], _, .nil => ⟨[], .nil, .nil⟩
  | _ :: _, _, .cons ⟨x, r, g⟩ hs => by
    obtain ⟨ws, h1, h2⟩ := each_pair hs
    exact ⟨x :: ws, .cons r h1, .cons g h2⟩
/-- sorted(xs), xs a list of tuples of whole numbers, none of them empty -/
def rSortP (K : PySem.W.Frag) : List V → Hp → VK → Prop := fun xs H Q => ∃ (l : Addr) (ws : List V) (nss : List (List Int)) (Good : V → List Int → Prop), xs = [V.ref l] ∧ SqL K H l ws ∧ Paired Good ws nss ∧ Tpl K H Good ∧ (∀ ns ∈ nss, ns ≠ []) ∧ nss.length ≤ sizeLine ∧
  ∀ p xs', H p = none → Paired Good xs' (sortL nss) → Q (.ref p) (upd H p (.lst xs'))
theorem cr_sortP (hu : X.A.units + 64 < cLine) : CallR X (.builtin "sorted") (rSortP X.K) := by
  intro pins s σ H vs us Q I r h
  obtain ⟨l, ws, nss, Good, rfl, hs, hp, hg, hne, hl, q⟩ := h
  obtain ⟨its, rv, hL, hz⟩ := I.list hs
  rw [Vals.ref1 r]
  have eR := pair_each rv hp
  refine PySem.W.sorted_data (enc := encT) hL.isList eR (eR.mono fun v ns ⟨x, rx, g⟩ => tpl_reads I hg rx g) (PySem.W.AllAlike.of alike_tups) (.inl fun d hd => ?_) hl (fun b hb => ?_) fun out ho hm => ?_
  · obtain ⟨ns, hn, rfl⟩ := List.mem_map.mp hd
    cases ns with
    | nil => exact (hne [] hn rfl).elim
    | cons a ns => exact ⟨.int a, ns.map PyData.int, rfl⟩
  · have := depth_tup b
    omega
  · rw [dataLe_tups] at hm
    obtain ⟨xs', h1, h2⟩ := each_pair hm
    obtain ⟨ep, he'⟩ := PyProof.Rows.sortedAll_at s.heap its (List.toArray out)
    have hlen : xs'.length ≤ sizeLine := by rw [h1.length, ho]; exact hl
    exact ⟨.ref _, upd H (s.heap.objs.size + 1) (.lst xs'), I.laid (t' := s.toks) (fun _ _ => PyProof.Rows.sortedAll_old) (Nat.le_succ _) ⟨hlen, out, ep, h1, he'⟩, rfl, q _ _ (I.hok.fresh (Nat.le_succ _)) h2⟩
/-- min(xs), xs a list of tuples of whole numbers -/
def rMinP (K : PySem.W.Frag) : List V → Hp → VK → Prop := fun xs H Q => ∃ (l : Addr) (ws : List V) (n : List Int) (nss : List (List Int)) (Good : V → List Int → Prop), xs = [V.ref l] ∧ SqL K H l ws ∧ Paired Good ws (n :: nss) ∧ Tpl K H Good ∧ ∀ v, Good v (minL n nss) → Q v H
theorem cr_minP (hc : X.calm = true) (hu : X.A.units + 64 < cLine) : CallR X (.builtin "min") (rMinP X.K) := by
  intro pins s σ H vs us Q I r h
  obtain ⟨l, ws, n, nss, Good, rfl, hs, hp, hg, q⟩ := h
  obtain ⟨its, rv, hL, hz⟩ := I.list hs
  rw [Vals.ref1 r]
  have eR := pair_each rv hp
  obtain ⟨as, hr⟩ := PySem.W.each_readsAll (h := s.heap) encT (eR.mono fun v ns ⟨x, rx, g⟩ => tpl_reads I hg rx g)
  have hr' : ReadsAll s.heap its.toArray.toList (encT n :: nss.map encT) as := by simpa using hr
  refine PySem.W.min_list_data (I.ok.hd hc) hL.isList hr' ⟨fun x hx y hy => ?_, fun x hx e => ?_⟩ ?_ fun i v h' tk bs hi hrd hk => ?_
  · obtain ⟨a, _, rfl⟩ := List.mem_map.mp (show x ∈ (n :: nss).map encT from hx)
    obtain ⟨b, _, rfl⟩ := List.mem_map.mp (show y ∈ (n :: nss).map encT from hy)
    exact alike_tups a b
  · obtain ⟨a, _, rfl⟩ := List.mem_map.mp (show x ∈ (n :: nss).map encT from hx)
    cases e
  · have := depth_tups (n :: nss)
    have e : PyData.depthAll (encT n :: nss.map encT) = PyData.depthAll ((n :: nss).map encT) := rfl
    rw [e]
    omega
  · rw [minD_enc] at hrd
    have hmem : v ∈ its := by
      have : its[i]? = some v := by simpa using hi
      exact List.mem_of_getElem? this
    have find : ∀ {its : List Value} {l : List (List Int)}, PySem.W.EachIs (fun v ns => ∃ x, RelV x v ∧ Good x ns) its l → ∀ v ∈ its, ∃ ns x, RelV x v ∧ Good x ns := by
      intro its l e
      induction e with
      | nil => exact fun v hv => absurd hv List.not_mem_nil
      | cons h t ih =>
        intro v hv
        rcases List.mem_cons.mp hv with rfl | hv
        · obtain ⟨x, h1, h2⟩ := h; exact ⟨_, x, h1, h2⟩
        · exact ih v hv
    obtain ⟨ns, x, rx, g⟩ := find eR v hmem
    obtain ⟨as2, r2⟩ := tpl_reads I hg rx g
    have e := (Reads.unique (PyProof.Rows.Reads.keeps hk r2) _ _ hrd).1
    have e2 : ns = minL n nss := ints_inj (PyData.tuple.inj e)
    subst e2
    exact ⟨x, H, I.kept (t' := tk) fun b u z => hk b u z, rx, q x g⟩
end
section
variable {G : Gx}
theorem ints_is {d : D} (h : d.ints = true) : d = tupI d.nums := by
  cases d with
  | tup l =>
    show D.tup l = D.tup ((l.map D.num).map D.int)
    rw [List.map_map]
    congr 1
    have key : ∀ x ∈ l, (D.int ∘ D.num) x = x := fun x hx => by
      have z := List.all_eq_true.mp h x hx
      cases x <;> first | rfl | cases z
    rw [List.map_congr_left key, List.map_id'']
    exact fun _ => rfl
  | _ => cases h
theorem rep_tpl {F H : Hp} (e : Same F H) : Tpl G.K H fun v ns => Rep G F (tupI ns) v := fun x ns ⟨a, vs, e1, h1, h2⟩ => by
  have : vs = ns.map V.int := by
    have key : ∀ {ns : List Int} {vs : List V}, RepL G F (ns.map D.int) vs → vs = ns.map V.int := by
      intro ns
      induction ns with
      | nil => exact fun h => h
      | cons n ns ih => rintro _ ⟨v, r, e, h1, h2⟩; rw [e, show v = V.int n from h1, ih h2]; rfl
    exact key h2
  subst this
  exact ⟨a, e1, sqT_mono e h1.1⟩
theorem rep_pair {F : Hp} : ∀ {l : List D} {vs : List V}, (l.all D.ints) = true → RepL G F l vs → Paired (fun v ns => Rep G F (tupI ns) v) vs (l.map D.nums)
  | [], vs, _, h => by rw [show vs = [] from h]; exact .nil
  | d :: l, _, hi, ⟨v, r, e, h1, h2⟩ => by
    subst e
    have hi' := Bool.and_eq_true_iff.mp (show (d.ints && l.all D.ints) = true from hi)
    have h1' := h1
    rw [ints_is hi'.1] at h1'
    exact .cons h1' (rep_pair hi'.2 h2)
theorem pair_rep {F : Hp} : ∀ {nss : List (List Int)} {vs : List V}, Paired (fun v ns => Rep G F (tupI ns) v) vs nss → RepL G F (nss.map tupI) vs
  | [], _, .nil => rfl
  | _ :: _, _, .cons h t => ⟨_, _, rfl, h, pair_rep t⟩
theorem lr_minT : LRs G fMinT (rMinP G.K) := fun F H xs us Q QV e r q hq => by
  unfold fMinT at q
  split at q
  · rename_i x l
    obtain ⟨v, rfl, a, vs, rfl, h1, h2⟩ := one_rep r
    refine ⟨a, vs, x.nums, l.map D.nums, _, rfl, sqL_mono e h1, rep_pair q.1 h2, rep_tpl e, fun v hv => hq _ v F H (.val (.refl e) hv) q.2⟩
  · exact q.elim
theorem lr_sortT : LRs G fSortT (rSortP G.K) := fun F H xs us Q QV e r q hq => by
  unfold fSortT at q
  split at q
  · rename_i l
    obtain ⟨v, rfl, a, vs, rfl, h1, h2⟩ := one_rep r
    obtain ⟨q1, q2, q3⟩ := q
    have hall : ∀ d ∈ l, d.ints = true ∧ d.nums ≠ [] := fun d hd => by
      have z := Bool.and_eq_true_iff.mp (List.all_eq_true.mp q1 d hd)
      exact ⟨z.1, fun n => by rw [n] at z; cases z.2⟩
    refine ⟨a, vs, l.map D.nums, _, rfl, sqL_mono e h1, rep_pair (List.all_eq_true.mpr fun d hd => (hall d hd).1) h2, rep_tpl e, fun ns hn => ?_, by rw [List.length_map, sizeLine_eq]; exact q2, fun p xs' hp hx => hq _ _ F _ (.mkOwn (.refl e) hp (pair_rep hx)) q3⟩
    obtain ⟨d, hd, rfl⟩ := List.mem_map.mp hn
    exact (hall d hd).2
  · exact q.elim
theorem lr_ltT : LR2 G (cB bLtT) (rLtT G.K) := fun F H x y u v Q QV e rx ry q hq => by
  cases x with
  | tup a =>
    cases y with
    | tup b =>
      obtain ⟨q1, q2⟩ := q
      have z := Bool.and_eq_true_iff.mp q1
      have ea := ints_is (d := .tup a) z.1
      have eb := ints_is (d := .tup b) z.2
      rw [ea] at rx
      rw [eb] at ry
      obtain ⟨p, e1, s1⟩ := rep_tpl e _ _ rx
      obtain ⟨p', e2, s2⟩ := rep_tpl e _ _ ry
      refine ⟨p, p', _, _, e1, e2, s1, s2, ?_⟩
      rw [lexLt_is]
      exact hq _ _ F H (.val (.refl e) (show Rep G F (.bl _) (.bl _) from rfl)) q2
    | _ => exact q.elim
  | _ => exact q.elim
end
section
variable {X : Cx} {G : Gx} {W : WX} {k : Nat} {a b c e : Expr} {es : List Expr} {ta tb tc te : DE} {ts : DA} {t u : DS} {pos p p2 p3 : Pos} {n i j l : Nat} {x y : Str}
theorem Cxt.units1 (C : Cxt X G W k) : X.A.units + 1 < cLine := by have := C.room.un; omega
theorem Cxt.units0 (C : Cxt X G W k) : X.A.units < cLine := by have := C.room.un; omega
theorem j_gfn (hm : X.mg x = some (.ref (G.cm j))) (hj : j < 100 := by decide) (hg : Gl X x := by rfl) (hd : (x == ("__debug__" : Str)) = false := by decide) : JE X G W (.Name x pos) (dC (.fn j)) := ⟨_, pe_glob (v := .ref (G.cm j)) hg hm rfl hd, le_c fun _ => .inl ⟨hj, rfl⟩⟩
theorem j_callV {f : DF} (C : Cxt X G W k) (h : Fn1 X.prog X.w G X.mg X.base l y f) (hy : X.mg y = some (.ref (G.cm j))) (ha : JA X G W n (e :: es) ts) (hj : l ≤ k := by decide) (hj2 : j < 100 := by decide) (hN : X.N[i]? = some x := by rfl) (hv : Vis X.env.scope x := by first | exact Or.inl rfl | exact Or.inr (Or.inl rfl))
    (hdb : (x == ("__debug__" : Str)) = false := by decide) (hcd : (x == ("__classdict__" : Str)) = false := by decide)
    (he : starEach (e :: es) X.env = (false, eval e X.env) :: starEach es X.env := by rfl) (hpl : (backTo pos (starEach es X.env)).any (·.1) = false := by rfl) : JE X G W (.Call (.Name x p) (e :: es) [] pos) (dCallV i j f ts) := by
  obtain ⟨a, fd, ps, hm, hk, hb, F⟩ := h.ex
  obtain ⟨T, q, l⟩ := ha
  have ea : a = G.cm j := by
    have := hm.symm.trans hy
    cases this
    rfl
  subst ea
  exact ⟨_, pe_callLS (i := i) (by rw [C.K]; exact F) (C.room.mono hj) hN hv (by rw [C.K]; exact hk) (by rw [C.K]; exact hb) C.hx q hdb hcd he hpl, le_callV hj2 l⟩
theorem j_newD : JE X G W (.Dict [] [] pos) dNewD := ⟨_, pe_dnewT, le_newD⟩
theorem j_din (C : Cxt X G W k) (ha : JE X G W a ta) (hb : JE X G W b tb) (hm : behindInMarks .In b = false := by rfl) : JE X G W (.Compare a [.In] [b] pos) (dOp (cB bDIn) ta tb) := let ⟨_, p, l⟩ := ha; let ⟨_, q, m⟩ := hb; ⟨_, pe_cmp (pc_din C.units1 p q) hm, le_din l m⟩
theorem j_dnotin (C : Cxt X G W k) (ha : JE X G W a ta) (hb : JE X G W b tb) (hm : behindInMarks .NotIn b = false := by rfl) : JE X G W (.Compare a [.NotIn] [b] pos) (dOp (cB bDNotIn) ta tb) := let ⟨_, p, l⟩ := ha; let ⟨_, q, m⟩ := hb; ⟨_, pe_cmp (pc_dnotin C.units1 p q) hm, le_dnotin l m⟩
theorem jt_din (C : Cxt X G W k) (ha : JE X G W a ta) (hb : JE X G W b tb) (hm : behindInMarks .In b = false := by rfl) : JT X G W (.Compare a [.In] [b] pos) (dOp (cB bDIn) ta tb) := let ⟨_, p, l⟩ := ha; let ⟨_, q, m⟩ := hb; ⟨_, pt_cmp (pc_din C.units1 p q) hm, lt_valB (le_din l m)⟩
theorem jt_dnotin (C : Cxt X G W k) (ha : JE X G W a ta) (hb : JE X G W b tb) (hm : behindInMarks .NotIn b = false := by rfl) : JT X G W (.Compare a [.NotIn] [b] pos) (dOp (cB bDNotIn) ta tb) := let ⟨_, p, l⟩ := ha; let ⟨_, q, m⟩ := hb; ⟨_, pt_cmp (pc_dnotin C.units1 p q) hm, lt_valB (le_dnotin l m)⟩
theorem j_dget (C : Cxt X G W k) (ha : JE X G W a ta) (hb : JE X G W b tb) (hs : NoSl b := by exact fun _ _ => rfl) : JE X G W (.Subscript a b pos) (dOp oDIx ta tb) := let ⟨_, p, l⟩ := ha; let ⟨_, q, m⟩ := hb; ⟨_, pe_dget C.units1 p q hs, le_dget l m⟩
theorem s_dput (C : Cxt X G W k) (hk : JE X G W b tb) (hv : JE X G W a ta) (hN : X.N[i]? = some x := by rfl) (hvis : Vis X.env.scope x := by first | exact Or.inl rfl | exact Or.inr (Or.inl rfl)) (hd : (x == ("__debug__" : Str)) = false := by decide) (hcd : (x == ("__classdict__" : Str)) = false := by decide)
    (hs : swapsWithSole [.Subscript (.Name x p) b p2] a pos.line X.env = pure false := by rfl) (hw : swappedStores [.Subscript (.Name x p) b p2] a X.env = pure none := by rfl)
    (h1 : (assignEach [.Subscript (.Name x p) b p2] X.env).map (·.2) = [assign (.Subscript (.Name x p) b p2) X.env] := by rfl)
    (ha : ∀ v, assign (.Subscript (.Name x p) b p2) X.env v = (do
      let ov ← holding [v] (eval (.Name x p) X.env)
      let iv ← holding [v, ov] (eval b X.env)
      standAt p2
      holding [v, ov, iv] (setItem ov iv v)
      release [v, ov, iv] []) := by intro _; rfl) :
    JS X G W (.Assign [.Subscript (.Name x p) b p2] a pos) (dPut i tb ta) := let ⟨_, p, l⟩ := hk; let ⟨_, q, m⟩ := hv; ⟨_, ps_asg q (pg_sub (pe_var hN hvis hd hcd) p (set_dict C.units1) ha) hs hw h1, ls_put l m⟩
theorem s_ltput (C : Cxt X G W k) (hk : JE X G W b tb) (hv : JE X G W a ta) (hN : X.N[i]? = some x := by rfl) (hvis : Vis X.env.scope x := by first | exact Or.inl rfl | exact Or.inr (Or.inl rfl)) (hd : (x == ("__debug__" : Str)) = false := by decide) (hcd : (x == ("__classdict__" : Str)) = false := by decide)
    (hs : swapsWithSole [.Subscript (.Name x p) b p2] a pos.line X.env = pure false := by rfl) (hw : swappedStores [.Subscript (.Name x p) b p2] a X.env = pure none := by rfl)
    (h1 : (assignEach [.Subscript (.Name x p) b p2] X.env).map (·.2) = [assign (.Subscript (.Name x p) b p2) X.env] := by rfl)
    (ha : ∀ v, assign (.Subscript (.Name x p) b p2) X.env v = (do
      let ov ← holding [v] (eval (.Name x p) X.env)
      let iv ← holding [v, ov] (eval b X.env)
      standAt p2
      holding [v, ov, iv] (setItem ov iv v)
      release [v, ov, iv] []) := by intro _; rfl) :
    JS X G W (.Assign [.Subscript (.Name x p) b p2] a pos) (dLPut i tb ta) := let ⟨_, p, l⟩ := hk; let ⟨_, q, m⟩ := hv; ⟨_, ps_asg q (pg_sub (pe_var hN hvis hd hcd) p set_list ha) hs hw h1, ls_lput l m⟩
theorem s_clear {pa : Pos} (C : Cxt X G W k) (hN : X.N[i]? = some x := by rfl) (hv : Vis X.env.scope x := by first | exact Or.inl rfl | exact Or.inr (Or.inl rfl)) (hd : (x == ("__debug__" : Str)) = false := by decide) (hcd : (x == ("__classdict__" : Str)) = false := by decide)
    (hbase : attributeBase (.Name x p) "clear" X.env (eval (.Name x p) X.env) = eval (.Name x p) X.env := by rfl) (hline : (pa.endLine == p2.line) = true := by rfl)
    (hs : swapsWith (.Call (.Attribute (.Name x p) "clear" pa) [] [] p2) none pos.line X.env = pure false := by rfl) : JS X G W (.Expr (.Call (.Attribute (.Name x p) "clear" pa) [] [] p2) pos) (dClear i) := by
  refine ⟨_, ps_expr (pe_bm0 PySem.F.plainAttrs_list PySem.F.slot_list_clear PySem.F.type_list_clear mt_clear (pe_var hN hv hd hcd) hbase hline) hs, ?_⟩
  rw [C.K]
  exact ls_clear
theorem j_listD (C : Cxt X G W k) (hm : X.mg "list" = none) (ha : JA X G W n [e] ts) (hg : Gl X "list" := by rfl) (he : starEach [e] X.env = [(false, eval e X.env)] := by rfl) : JE X G W (.Call (.Name "list" p) [e] [] pos) (dAs fListD ts) :=
  let ⟨_, q, l⟩ := ha; ⟨_, pe_callTy (call_list_dT C.calm) hg hm (by decide +kernel) q (he := he), le_as lr_listD l⟩
theorem j_minT (C : Cxt X G W k) (hm : X.mg "min" = none) (ha : JA X G W n [e] ts) (hg : Gl X "min" := by rfl) (he : starEach [e] X.env = [(false, eval e X.env)] := by rfl) : JE X G W (.Call (.Name "min" p) [e] [] pos) (dAs fMinT ts) :=
  j_bi (cr_minP C.calm C.units) (by rw [C.K]; exact lr_minT) hg hm boot_min ha (he := he)
theorem boot_sorted' : bootBuiltins "sorted" = some (.builtin "sorted") := by decide +kernel
theorem j_sortT (C : Cxt X G W k) (hm : X.mg "sorted" = none) (ha : JA X G W n [e] ts) (hg : Gl X "sorted" := by rfl) (he : starEach [e] X.env = [(false, eval e X.env)] := by rfl) : JE X G W (.Call (.Name "sorted" p) [e] [] pos) (dAs fSortT ts) :=
  j_bi (cr_sortP C.units) (by rw [C.K]; exact lr_sortT) hg hm boot_sorted' ha (he := he)
theorem j_ltT (C : Cxt X G W k) (ha : JE X G W a ta) (hb : JE X G W b tb) : JE X G W (.Compare a [.Lt] [b] pos) (dOp (cB bLtT) ta tb) := j_cmp (op_ltT C.units0) (by rw [C.K]; exact lr_ltT) ha hb (nomark _)
theorem jt_ltT (C : Cxt X G W k) (ha : JE X G W a ta) (hb : JE X G W b tb) : JT X G W (.Compare a [.Lt] [b] pos) (dOp (cB bLtT) ta tb) := let ⟨_, p, l⟩ := ha; let ⟨_, q, m⟩ := hb; ⟨_, pt_cmpR (op_ltT C.units0) p q (nomark _), lt_val (le_op (by rw [C.K]; exact lr_ltT) l m)⟩
theorem j_index {apos : Pos} (C : Cxt X G W k) (ha : JE X G W a ta) (hs : JA X G W n (e :: es) ts) (hbase : attributeBase a "index" X.env (eval a X.env) = eval a X.env := by rfl)
    (hfew : ((backTo pos (starEach (e :: es) X.env)).all (fun x => !x.1) && (backToKw pos (keywordEach [] X.env)).all (fun x => x.1.isSome)
      && decide ((e :: es).length + ([] : List Keyword).length + (if ([] : List Keyword).isEmpty then 0 else 1) < 30)) = true := by rfl)
    (hline : (apos.endLine == pos.line) = true := by rfl) (hst : starEach (e :: es) X.env = (false, eval e X.env) :: starEach es X.env := by rfl) (hplain : (backTo pos (starEach es X.env)).any (·.1) = false := by rfl) :
    JE X G W (.Call (.Attribute a "index" apos) (e :: es) [] pos) (dIndex ta ts) := by
  obtain ⟨_, p, l⟩ := ha
  obtain ⟨_, q, m⟩ := hs
  refine ⟨_, pe_bm PySem.F.plainAttrs_list PySem.F.slot_list_index PySem.F.type_list_index (mt_indexD C.units65) p q hbase hfew hline hst hplain, ?_⟩
  rw [C.K]
  exact le_index l m
end
end DL

/- DLo -/
namespace DL
open PySem PySem.Spec PyProof.Rows L2
section
variable {X : Cx} {CX : CXT} {k : Nat} {f C : Addr} {fd : FuncData} {ps : List Str} {sp : Sp} {E : Sg → XK} {x m : Str} {p pos apos : Pos} {e o : Expr} {es : List Expr} {ta : TE} {t : TA} {mc : Value}
def tMakeS (C : Addr) (sp : Sp) (E : Sg → XK) (t : TA) : TE := fun σ H Q => t σ H fun vs H1 => ∀ x dx, H1 x = none → H1 dx = none → dx ≠ x → sp (.ref x :: vs) (upd (upd H1 dx (.own x)) x (.ins C dx [])) (fun v H2 => v = .non ∧ Q (.ref x) H2) (E σ)
theorem run_makeS {pins : List (Addr × Obj)} {σ : Sg} {H : Hp} {s : Shared} {Q : VK} {us : List Value} {vs : List V} {E : XK} (M : Mk X.K C f) (F : FnOk X.prog X.w X.K X.mg X.base CX k f fd ps sp) (hr : Room (k + 1) X.A) (hb : Binds X.K fd ps [])
    (hx : PassesAt CX X σ E) (I : Inv X pins σ H s) (r : Vals vs us)
    (h : ∀ x dx, H x = none → H dx = none → dx ≠ x → sp (.ref x :: vs) (upd (upd H dx (.own x)) x (.ins C dx [])) (fun v H2 => v = .non ∧ Q (.ref x) H2) E) :
    wpAny (model X.prog X.w) X.A (call (.ref C) us) (EP X pins σ Q) X.xe s := by
  have hq := h (s.heap.objs.size + 1) s.heap.objs.size (I.hok.fresh (Nat.le_succ _)) (I.hok.fresh (Nat.le_refl _)) (Nat.ne_of_lt (Nat.lt_succ_self _))
  have I2 := Inv.made (C := C) I
  have r2 : Vals (V.ref (s.heap.objs.size + 1) :: vs) (Value.ref (s.heap.objs.size + 1) :: us) := .cons rfl r
  have hl : (Value.ref (s.heap.objs.size + 1) :: us).length = ps.length := by
    have e := r2.length
    rw [F.len _ _ _ _ hq] at e
    exact e.symm
  have b := hb _ (Value.ref (s.heap.objs.size + 1) :: us) I2.kIn (by rw [List.append_nil]; exact hl)
  rw [List.append_nil] at b
  refine wpAny_call (make_map (f := f) I.kIn M.makes M.init (beq_iff_eq.mp M.fn) (codeAny_mono (F.run _ X.stack _ _ ⟨Value.ref (s.heap.objs.size + 1) :: us, []⟩ (Value.ref (s.heap.objs.size + 1) :: us) _ _ E (hr.make C us [])
    (I2.env0.make C us []) b r2 hq) fun r s' hq' => ?_))
  cases r with
  | error e => exact hx pins _ _ e s' I2 hq'
  | ok fl =>
    cases fl with
    | ret u =>
      obtain ⟨v, H', I3, rv, ev, q3⟩ := I2.after hq'
      subst ev
      exact ⟨rv, ⟨V.ref (s.heap.objs.size + 1), H', I3, rfl, q3⟩⟩
    | next => exact False.elim hq'
    | brk => exact False.elim hq'
    | cont => exact False.elim hq'
theorem pe_makeS (M : Mk X.K C f) (F : FnOk X.prog X.w X.K X.mg X.base CX k f fd ps sp) (hr : Room (k + 1) X.A) (hg : Gl X x) (hm : X.mg x = some (.ref C)) (hb : Binds X.K fd ps []) (hx : ∀ σ, PassesAt CX X σ (E σ))
    (ha : PA X (e :: es) t) (hdb : (x == ("__debug__" : Str)) = false := by decide) (he : starEach (e :: es) X.env = (false, eval e X.env) :: starEach es X.env := by rfl) (hpl : (backTo pos (starEach es X.env)).any (·.1) = false := by rfl) :
    PE X (.Call (.Name x p) (e :: es) [] pos) (tMakeS C sp E t) := by
  refine ⟨fun pins s σ H Q I h => ?_⟩
  refine wpAny_Call_Name_kw (ld_glob I hg hm ?_ hdb)
  refine PySem.W.callWith_K (h₀ := X.base) I.ok.mod.kin M.kp (thn (ha.run pos pins s σ H _ I h) fun us s1 ⟨vs, H1, I1, r, q⟩ => ⟨I1.kIn, ?_⟩) he hpl
  exact run_makeS M F hr hb (hx σ) I1 r q
/-- o.m(..), o an instance of one of some classes -/
structure MOk (P : Program) (w : World) (K : PySem.W.Frag) (mg : Str → Option Value) (base : Heap) (CX : CXT) (k : Nat) (m : Str) (C : Addr) (sp : Sp) : Prop where
  ex : ∃ (f : Addr) (fd : FuncData) (ps : List Str), Cls K C ∧ Meth K C m f ∧ FnOk P w K mg base CX k f fd ps sp ∧ Binds K fd ps []
def tMethU (ms : List (Addr × Sp)) (m : Str) (E : Sg → XK) (ta : TE) (t : TA) : TE := fun σ H Q => ta σ H fun x H1 => ∃ C sp a dx fs, (C, sp) ∈ ms ∧ x = .ref a ∧ H1 a = some (.ins C dx fs) ∧ fs.lookup m = none ∧ t σ H1 fun vs H2 => sp (x :: vs) H2 Q (E σ)
theorem pe_methU {ms : List (Addr × Sp)} {pl : Sem Bool} (he : PE X o ta) (h : ∀ C sp, (C, sp) ∈ ms → MOk X.prog X.w X.K X.mg X.base CX k m C sp) (hr : Room k X.A) (hx : ∀ σ, PassesAt CX X σ (E σ)) (ha : PA X (e :: es) t)
    (hst : starEach (e :: es) X.env = (false, eval e X.env) :: starEach es X.env := by rfl) (hpl : (backTo pos (starEach es X.env)).any (·.1) = false := by rfl)
    (ht : eval (.Call (.Attribute o m apos) (e :: es) [] pos) X.env = (do
      let ov ← eval o X.env
      standAt apos.atName
      let (f, first) ← holding [ov] (getMethod ov m pl)
      callWith pos f first (backTo pos (starEach (e :: es) X.env)) (backToKw pos (keywordEach [] X.env))) := by rfl) :
    PE X (.Call (.Attribute o m apos) (e :: es) [] pos) (tMethU ms m E ta t) := by
  refine ⟨fun pins s σ H Q I hh => ?_⟩
  refine PySem.W.methodCall_KW (pl := pl) (thn (he.run pins s σ H _ I hh) fun u s1 ⟨x, H1, I1, rx, C, sp, a, dx, fs, hms, ex, ea, l, q⟩ => ?_) ht
  subst ex
  obtain rfl : u = Value.ref a := rx
  obtain ⟨f, fd, ps, c, hm, F, hb⟩ := (h C sp hms).ex
  refine getmeth_ok I1 ea c hm l ?_
  refine PySem.W.callWith_K (first := [.ref a]) (h₀ := X.base) I.ok.mod.kin hm.kp (thn (ha.run pos pins s1 σ H1 _ I1 q) fun us s2 ⟨vs, H2, I2, r, q2⟩ => ⟨I2.kIn, ?_⟩) hst hpl
  exact run_fnS (us := .ref a :: us) (vs := .ref a :: vs) F hr hb (hx σ) I2 (.cons rfl r) q2
theorem pe_methU0 {ms : List (Addr × Sp)} {pl : Sem Bool} (he : PE X o ta) (h : ∀ C sp, (C, sp) ∈ ms → MOk X.prog X.w X.K X.mg X.base CX k m C sp) (hr : Room k X.A) (hx : ∀ σ, PassesAt CX X σ (E σ))
    (ht : eval (.Call (.Attribute o m apos) [] [] pos) X.env = (do
      let ov ← eval o X.env
      standAt apos.atName
      let (f, first) ← holding [ov] (getMethod ov m pl)
      callWith pos f first (backTo pos (starEach [] X.env)) (backToKw pos (keywordEach [] X.env))) := by rfl) :
    PE X (.Call (.Attribute o m apos) [] [] pos) (tMethU ms m E ta tNil) := by
  refine ⟨fun pins s σ H Q I hh => ?_⟩
  refine PySem.W.methodCall_KW (pl := pl) (thn (he.run pins s σ H _ I hh) fun u s1 ⟨x, H1, I1, rx, C, sp, a, dx, fs, hms, ex, ea, l, q⟩ => ?_) ht
  subst ex
  obtain rfl : u = Value.ref a := rx
  obtain ⟨f, fd, ps, c, hm, F, hb⟩ := (h C sp hms).ex
  refine getmeth_ok I1 ea c hm l ?_
  exact PySem.W.callWith_K0 (first := [.ref a]) I1.kIn hm.kp (run_fnS (us := [.ref a]) (vs := [.ref a]) F hr hb (hx σ) I1 (.cons rfl .nil) q)
/-- C.m(..), m a def of the class C, called as a plain def -/
structure ClsFn (K : PySem.W.Frag) (C : Addr) (mc : Value) (m : Str) (f : Addr) : Prop where
  r : ClX.CRead K C mc
  at_ : PySem.W.findCls K (.ref C) mc m = some (.val (.ref f))
  kp : PySem.W.keepIn K (.ref f) = true
def tClsF (sp : Sp) (E : Sg → XK) (t : TA) : TE := fun σ H Q => t σ H fun vs H1 => sp vs H1 Q (E σ)
theorem pe_clsf {pl : Sem Bool} (c : ClsFn X.K C mc m f) (F : FnOk X.prog X.w X.K X.mg X.base CX k f fd ps sp) (hr : Room k X.A) (hb : Binds X.K fd ps []) (hg : Gl X x) (hm : X.mg x = some (.ref C)) (hx : ∀ σ, PassesAt CX X σ (E σ)) (ha : PA X (e :: es) t) (hdb : (x == ("__debug__" : Str)) = false := by decide)
    (hst : starEach (e :: es) X.env = (false, eval e X.env) :: starEach es X.env := by rfl) (hpl : (backTo pos (starEach es X.env)).any (·.1) = false := by rfl)
    (ht : eval (.Call (.Attribute (.Name x p) m apos) (e :: es) [] pos) X.env = (do
      let ov ← eval (.Name x p) X.env
      standAt apos.atName
      let (f, first) ← holding [ov] (getMethod ov m pl)
      callWith pos f first (backTo pos (starEach (e :: es) X.env)) (backToKw pos (keywordEach [] X.env))) := by rfl) :
    PE X (.Call (.Attribute (.Name x p) m apos) (e :: es) [] pos) (tClsF sp E t) := by
  refine ⟨fun pins s σ H Q I h => ?_⟩
  refine PySem.W.methodCall_KW (pl := pl) (ld_glob I hg hm ?_ hdb) ht
  refine PySem.W.method_cls I.kIn c.r.ga (PySem.W.cls_value I.kIn c.r.rd c.at_ (handed_of (v := .ref f) rfl) ?_)
  have I2 : Inv X pins σ H { s with toks := s.toks + 1 } := I.tok _
  refine PySem.W.callWith_K (first := []) (h₀ := X.base) I.ok.mod.kin c.kp (thn (ha.run pos pins { s with toks := s.toks + 1 } σ H _ I2 h) fun us s1 ⟨vs, H1, I1, r, q⟩ => ⟨I1.kIn, ?_⟩) hst hpl
  exact run_fnS F hr hb (hx σ) I1 r q
end
structure ExtX (x : Addr) (F H F' H' : Hp) : Prop where
  f : Same F F'
  fh : Same F' H'
  h : Keep (L2.del H x) H'
  new : ∀ a o, F' a = some o → F a = some o ∨ H a = none ∨ (∃ xs, o = .tup xs) ∨ ∃ q, o = LamX.CodeO a q
theorem del_same {H : Hp} {x : Addr} : Same (L2.del H x) H := fun a o z => by
  have hne : a ≠ x := fun y => by
    subst y
    unfold L2.del at z
    rw [if_pos rfl] at z; cases z
  rw [L2.del_ne hne] at z; exact z
theorem del_at {H : Hp} {x : Addr} : L2.del H x x = none := if_pos rfl
theorem ins_code {p : Addr} {c : Addr} {dx : Addr} {fs : List (Str × V)} (q : Str) : HO.ins c dx fs ≠ LamX.CodeO p q := fun z => by unfold LamX.CodeO at z; cases z
theorem tabs_del {T : List Addr} {F H : Hp} {x c dx : Addr} {fs : List (Str × V)} (t : TabsF T F H) (hx : H x = some (.ins c dx fs)) : TabsW T (L2.del H x) := fun p hp =>
  tabS_but (t p hp).1 (fun b hb => L2.del_ne hb) (fun ps z => by rw [hx] at z; cases z) fun q z => by rw [hx] at z; exact ins_code q (Option.some.inj z)
theorem ExtX.tabs {x : Addr} {F H F' H' : Hp} {T : List Addr} {c dx : Addr} {fs : List (Str × V)} (E : ExtX x F H F' H') (t : TabsF T F H) (hx : H x = some (.ins c dx fs)) : TabsF T F' H' := fun P hP =>
  ⟨E.h.tab _ (tabs_del t hx P hP), hid_tab E.fh E.new (t P hP).1 (E.h.tab _ (tabs_del t hx P hP)) (t P hP).2⟩
theorem ExtX.start {x : Addr} {F H : Hp} (e : Same F H) : ExtX x F H F H := ⟨Same.refl _, e, .of del_same, fun _ _ q => .inl q⟩
theorem ExtX.put {x : Addr} {F H F1 H1 : Hp} (E : ExtX x F H F1 H1) (hx : F1 x = none) {c dx : Addr} {fs : List (Str × V)} (hu : H1 x = some (.ins c dx fs)) (o : HO) : ExtX x F H F1 (upd H1 x o) :=
  ⟨E.f, fun a u q => by
    have hne : a ≠ x := fun z => by rw [z, hx] at q; cases q
    rw [upd_ne hne]; exact E.fh a u q, E.h.write del_at hu (fun _ z => nomatch z) ins_code, E.new⟩
theorem ExtX.ext {x : Addr} {F H F1 H1 F2 H2 : Hp} (E : ExtX x F H F1 H1) (e : Ext F1 H1 F2 H2) {o : HO} (hx : H1 x = some o) : ExtX x F H F2 H2 :=
  ⟨E.f.trans e.f, e.fh, E.h.trans e.h, fun a u q => by
    rcases e.new a u q with z | z | z
    · exact E.new a u z
    · by_cases hne : a = x
      · rw [hne, hx] at z; cases z
      · have := E.h.free z
        rw [L2.del_ne hne] at this
        exact .inr (.inl this)
    · exact .inr (.inr z)⟩
/-- the promise of the base class's __init__ -/
def spS (G : Gx) (c : Nat) (f1 : DF) : Sp := fun vs H Q E => ∃ (F : Hp) (x dx : Addr) (d : D) (w : V) (QM : D → Prop) (QX : DX), vs = [.ref x, w] ∧ H x = some (.ins (G.cm c) dx []) ∧ F x = none ∧ Same F H ∧ TabsF G.tabs F H ∧ Rep G F d w ∧ Cls G.K (G.cm c) ∧ NoAttr G.K (G.cm c) "form" ∧ NoAttr G.K (G.cm c) "measure" ∧ f1 [d] (fun s => s.use QM) QX ∧
  (∀ m vm F' H', ExtX x F H F' H' → H' x = some (.ins (G.cm c) dx [("form", w), ("measure", vm)]) → F' x = none → Rep G F' m vm → QM m → Q .non H') ∧
  ∀ y, QX y → ∀ cls d' F' H', ExtX x F H F' H' → XRep G F' y cls d' H' → E cls d' H'
/-- the promise of a class's __init__ -/
def spI (G : Gx) (c : Nat) (f1 f2 : DF) : Sp := fun vs H Q E => ∃ (F : Hp) (x dx : Addr) (d : D) (w : V) (QD : List D → Prop) (QX : DX), vs = [.ref x, w] ∧ H x = some (.ins (G.cm c) dx []) ∧ F x = none ∧ Same F H ∧ TabsF G.tabs F H ∧ Rep G F d w ∧ f1 [d] (fun s => s.use fun m => f2 [d] (fun s' => s'.use fun g => QD [d, m, g]) QX) QX ∧
  (∀ us fs F' H', ExtX x F H F' H' → H' x = some (.ins (G.cm c) dx fs) → fs.map (·.1) = XF c → F' x = none → RepL G F' us (fs.map (·.2)) → QD us → Q .non H') ∧
  ∀ y, QX y → ∀ cls d' F' H', ExtX x F H F' H' → XRep G F' y cls d' H' → E cls d' H'
theorem sRep_self {G : Gx} {F H : Hp} {x : Addr} {d : D} {w : V} (e : Same F H) (tb : TabsF G.tabs F H) (r : Rep G F d w) : SRep G F H F H [some (.ref x), some w] [.un, .val d] := by
  refine ⟨rfl, tb, .refl e, fun i s q => ?_, fun i j s t p h1 h2 w1 w2 _ _ => ?_⟩
  · match i, q with
    | 0, q => cases q; trivial
    | 1, q => cases q; exact ⟨w, rfl, r⟩
    | i + 2, q => cases q
  · match i, h1 with
    | 0, h1 => cases h1; cases w1
    | 1, h1 => cases h1; cases w1
    | i + 2, h1 => cases h1
section
variable {P : Program} {w : World} {G : Gx} {mg : Str → Option Value} {base : Heap} {k : Nat} {q : Str} {args : Arguments} {body : List Stmt} {sc : Scope} {fI : Addr} {fd : FuncData} {c : Nat} {f1 f2 : DF}
theorem shape_init (F : FunD G.K "__init__" q args body sc [] [] fI fd) (S : FnScope ["self", "form"] ["self", "form"] sc)
    (hb : ∀ (cdv : Value) (A : Around) (outer : List PySem.Env) (s : Shared) (H : Hp) (E : XK), Room k (A.deeper (envOfC q sc s.heap.objs.size fI cdv)) →
      ∃ T, PSs (cxOf (L2.CX P w) P w G.K mg base ["self", "form"] q sc fI cdv A outer s H E) body (tSeq (sFld G.K (tVar 0) (tVar 1) "form") (sFld G.K (tVar 0) T "measure")) ∧ LE G (fun cls d _ H => E cls d H) (dCall f1 (dCons (dVar 1) dNil)) T) :
    FnOk P w G.K mg base (L2.CX P w) (k + 1) fI fd ["self", "form"] (spS G c f1) := by
  refine F.ok S (fun vs H Q E h => ?_) fun cdv A outer s H vs Q E hr h => ?_
  · obtain ⟨_, x, _, _, v, _, _, rfl, _⟩ := h
    rfl
  · obtain ⟨F0, x, dx, d, v, QM, QX, rfl, hx, fx, e, tb, r, cl, n1, n2, hf, hQ, hX⟩ := h
    obtain ⟨T, hT, hL⟩ := hb cdv A outer s H E hr
    refine ⟨_, hT, v, rfl, .ref x, rfl, x, G.cm c, dx, [], rfl, hx, cl, n1, by decide, ?_⟩
    have E1 := (ExtX.start (x := x) e).put fx hx (.ins (G.cm c) dx [("form", v)])
    have hx1 : upd H x (.ins (G.cm c) dx [("form", v)]) x = some (.ins (G.cm c) dx [("form", v)]) := upd_same
    refine hL F0 _ [.un, .val d] F0 _ _ (fun s => s.use QM) QX _ (sRep_self E1.fh (E1.tabs tb hx) r) hf (fun s u F' H' p hu => ?_) fun y hy cls d' F' H' e' r' => ?_
    · obtain ⟨m, F2, e2, r2, hm⟩ := p.use hu
      have hx2 := e2.h.x _ _ hx1 (fun _ z => nomatch z)
      have fx2 := e2.hiddenW fx hx1 (fun _ z => nomatch z) (fun _ z => nomatch z) ins_code
      have E2 := (E1.ext e2 hx1).put fx2 hx2 (.ins (G.cm c) dx [("form", v), ("measure", u)])
      exact ⟨.ref x, rfl, x, G.cm c, dx, [("form", v)], rfl, hx2, cl, n2, (by show 1 < 1000; decide), hQ m u F2 _ E2 upd_same fx2 r2 hm⟩
    · exact hX y hy cls d' F' H' (E1.ext e' hx1) r'
theorem obj_init {f : Str} {E0 : XK → Sg → XK} {ts : TA} (hc : XF c = (["form", "measure", f] : List Str)) (cl : Cls G.K (G.cm c)) (n1 : NoAttr G.K (G.cm c) "form") (n2 : NoAttr G.K (G.cm c) "measure") (n3 : NoAttr G.K (G.cm c) f) (hne : ("form" : Str) ≠ f) (hne2 : ("measure" : Str) ≠ f)
    (F : FunD G.K "__init__" q args body sc [] [] fI fd) (S : FnScope ["self", "form"] ["self", "form"] sc)
    (hb : ∀ (cdv : Value) (A : Around) (outer : List PySem.Env) (s : Shared) (H : Hp) (E : XK), Room k (A.deeper (envOfC q sc s.heap.objs.size fI cdv)) →
      ∃ T, PSs (cxOf (L2.CX P w) P w G.K mg base ["self", "form"] q sc fI cdv A outer s H E) body (tSeq (tDrop (tClsF (spS G c f1) (fun _ => E) (tCons (tVar 0) (tCons (tVar 1) tNil)))) (sFld G.K (tVar 0) T f)) ∧ LE G (fun cls d _ H => E cls d H) (dCall f2 (dCons (dVar 1) dNil)) T) :
    FnOk P w G.K mg base (L2.CX P w) (k + 1) fI fd ["self", "form"] (spI G c f1 f2) := by
  refine F.ok S (fun vs H Q E h => ?_) fun cdv A outer s H vs Q E hr h => ?_
  · obtain ⟨_, x, _, _, v, _, _, rfl, _⟩ := h
    rfl
  · obtain ⟨F0, x, dx, d, v, QD, QX, rfl, hx, fx, e, tb, r, hf, hQ, hX⟩ := h
    obtain ⟨T, hT, hL⟩ := hb cdv A outer s H E hr
    refine ⟨_, hT, .ref x, rfl, v, rfl, F0, x, dx, d, v, _, QX, rfl, hx, fx, e, tb, r, cl, n1, n2, hf, fun m vm F1 H1 E1 hx1 fx1 r1 hm => ?_, hX⟩
    have rd := Rep.mono E1.f d r
    refine hL F1 _ [.un, .val d] F1 _ _ (fun s' => s'.use fun g => QD [d, m, g]) QX _ (sRep_self E1.fh (E1.tabs tb hx) rd) hm (fun s u F' H' p hu => ?_) fun y hy cls d' F' H' e' r' => ?_
    · obtain ⟨g, F2, e2, r2, hg⟩ := p.use hu
      have hx2 := e2.h.x _ _ hx1 (fun _ z => nomatch z)
      have fx2 := e2.hiddenW fx1 hx1 (fun _ z => nomatch z) (fun _ z => nomatch z) ins_code
      have E2 := (E1.ext e2 hx1).put fx2 hx2 (.ins (G.cm c) dx ([("form", v), ("measure", vm), (f, u)] : List (Str × V)))
      have hput : putF f u ([("form", v), ("measure", vm)] : List (Str × V)) = ([("form", v), ("measure", vm), (f, u)] : List (Str × V)) := by
        unfold putF
        rw [if_neg hne]
        unfold putF
        rw [if_neg hne2]
        rfl
      refine ⟨.ref x, rfl, x, G.cm c, dx, [("form", v), ("measure", vm)], rfl, hx2, cl, n3, (by show 2 < 1000; decide), ?_⟩
      rw [hput]
      exact hQ [d, m, g] _ F2 _ E2 upd_same (by rw [hc]; rfl) fx2 ⟨v, _, rfl, Rep.mono e2.f d rd, vm, _, rfl, Rep.mono e2.f m r1, u, _, rfl, r2, rfl⟩ hg
    · exact hX y hy cls d' F' H' (E1.ext e' hx1) r'
end
section
variable {G : Gx} {W : WX} {ta : DE} {Ta : TE} {ts : DA} {Ts : TA}
theorem le_make {c : Nat} {f1 f2 : DF} (hc : 11 ≤ c) (hf : G.fnm c = XF c) (ha : LA G W 1 ts Ts) : LE G W (dCall (mkObj c f1 f2) ts) (tMakeS (G.cm c) (spI G c f1 f2) (WE W) Ts) := fun F0 H0 ρ F σ H Q QX QV S q hq hx =>
  ha F0 H0 ρ F σ H _ QX _ S q (fun ds vs F1 H1 e1 r1 l1 q1 => fun x dx nx ndx nex => by
    match ds, l1, r1, q1 with
    | [d], _, ⟨w, r0, ew, rd, er⟩, q1 =>
      have er : r0 = [] := er
      subst ew er
      have sm : Same F1 (upd (upd H1 dx (.own x)) x (.ins (G.cm c) dx [])) := (e1.fh.trans (same_upd ndx)).trans (same_upd (by rw [upd_ne (Ne.symm nex)]; exact nx))
      have fx : F1 x = none := e1.fh.free nx
      have fdx : F1 dx = none := e1.fh.free ndx
      have hdx : upd (upd H1 dx (.own x)) x (.ins (G.cm c) dx []) dx = some (.own x) := by rw [upd_ne nex, upd_same]
      have back : ∀ a, upd (upd H1 dx (.own x)) x (.ins (G.cm c) dx []) a = none → H1 a = none := fun a z => by
        by_cases h1 : a = x
        · rw [h1]; exact nx
        · by_cases h2 : a = dx
          · rw [h2]; exact ndx
          · rw [upd_ne h1, upd_ne h2] at z; exact z
      have fwd : ∀ a o, H1 a = some o → a ≠ x ∧ upd (upd H1 dx (.own x)) x (.ins (G.cm c) dx []) a = some o := fun a o z => by
        have h1 : a ≠ x := fun y => by rw [y, nx] at z; cases z
        have h2 : a ≠ dx := fun y => by rw [y, ndx] at z; cases z
        exact ⟨h1, by rw [upd_ne h1, upd_ne h2]; exact z⟩
      have ofX : ∀ {F' H' : Hp}, ExtX x F1 (upd (upd H1 dx (.own x)) x (.ins (G.cm c) dx [])) F' H' → Ext F1 H1 F' H' := fun {F' H'} E => ⟨E.f, E.fh, (Keep.of fun a o z => by rw [L2.del_ne (fwd a o z).1]; exact (fwd a o z).2).trans E.h, fun a o z => (E.new a o z).imp id fun y => y.imp (back a) id⟩
      refine ⟨F1, x, dx, d, w, fun us => Q (.val (.obj c us)), QX, rfl, upd_same, fx, sm, (fun P hP => ⟨((S.ext e1).tabs P hP).1.ext fun a o z => (fwd a o z).2, ((S.ext e1).tabs P hP).2⟩), rd, q1, fun us fs F' H' E hx' hfs fx' ru hu => ⟨rfl, ?_⟩, fun y hy cls d' F' H' E r' => hx y hy cls d' F' H' (e1.trans (ofX E)) r'⟩
      have e' := ofX E
      have hdx' : H' dx = some (.own x) := E.h.x dx _ (by rw [L2.del_ne nex]; exact hdx) (fun _ z => nomatch z)
      have fdx' : F' dx = none := by
        cases z : F' dx with
        | none => rfl
        | some o =>
          rcases E.new dx o z with y | y | ⟨xs, rfl⟩ | ⟨q', rfl⟩
          · rw [fdx] at y; cases y
          · rw [hdx] at y; cases y
          · have := E.fh _ _ z
            rw [hdx'] at this; cases this
          · have := E.fh _ _ z
            rw [hdx'] at this
            unfold LamX.CodeO at this; cases this
      have sF : Same F' (upd (upd F' dx (.own x)) x (.ins (G.cm c) dx fs)) := (same_upd fdx').trans (same_upd (by rw [upd_ne (Ne.symm nex)]; exact fx'))
      have ex : Ext F1 H1 (upd (upd F' dx (.own x)) x (.ins (G.cm c) dx fs)) H' := by
        refine ⟨e'.f.trans sF, fun a o z => ?_, e'.h, fun a o z => ?_⟩
        · by_cases h1 : a = x
          · subst h1; rw [upd_same] at z; cases z; exact hx'
          · rw [upd_ne h1] at z
            by_cases h2 : a = dx
            · subst h2; rw [upd_same] at z; cases z; exact hdx'
            · rw [upd_ne h2] at z; exact e'.fh a o z
        · by_cases h1 : a = x
          · rw [h1]; exact .inr (.inl nx)
          · rw [upd_ne h1] at z
            by_cases h2 : a = dx
            · rw [h2]; exact .inr (.inl ndx)
            · rw [upd_ne h2] at z; exact e'.new a o z
      exact hq _ _ _ H' (.val (e1.trans ex) (show Rep G _ (.obj c us) (.ref x) from ⟨x, rfl, .inl ⟨hc, dx, fs, upd_same, by rw [upd_ne nex, upd_same], by rw [hf]; exact hfs, RepL.mono sF us ru⟩⟩)) hu) hx
/-- what is asked of the two classes of objects (12, 13) and the one above them (14) -/
structure OTab (G : Gx) : Prop where
  cl : ∀ c, c = 12 ∨ c = 13 → Cls G.K (G.cm c)
  nf : ∀ c, c = 12 ∨ c = 13 → ∀ f ∈ XF c, NoAttr G.K (G.cm c) f
  fn : ∀ c, c = 12 ∨ c = 13 → G.fnm c = XF c
  ha : ∀ c, c = 12 ∨ c = 13 → PySem.W.findIn G.K (.ref (G.cm c)) "__class__" = some (some (.builtin "object.__class__"))
  hm : ∀ c, c = 12 ∨ c = 13 → PySem.W.mroIn G.K (G.cm c) (.type "object") = some true
  hn : PySem.W.specialIn G.K (.builtin "object.__class__") "__get__" = some (some (.builtin "getset_descriptor.__get__"))
  ht : PySem.W.takesIn G.K (.builtin "object.__class__") = some true
  is : ∀ c j, c = 12 ∨ c = 13 → j = 12 ∨ j = 13 ∨ j = 14 → PySem.W.kitOne G.K (.ref (G.cm c)) (.ref (G.cm j)) = some (j == 14 || c == j)
theorem nodup_XF {c : Nat} (h : c = 12 ∨ c = 13) : (XF c).Nodup := by rcases h with rfl | rfl <;> decide
theorem lookup_at : ∀ {fs : List (Str × V)} {i : Nat} {f : Str} {v : V}, (fs.map (·.1)).Nodup → (fs.map (·.1))[i]? = some f → (fs.map (·.2))[i]? = some v → fs.lookup f = some v
  | [], _, _, _, _, h, _ => by simp at h
  | (g, u) :: fs, 0, f, v, _, h1, h2 => by
    simp at h1 h2
    subst h1 h2
    simp [List.lookup]
  | (g, u) :: fs, i + 1, f, v, hn, h1, h2 => by
    have h1' : (fs.map (·.1))[i]? = some f := by simpa using h1
    have h2' : (fs.map (·.2))[i]? = some v := by simpa using h2
    have hn' := List.nodup_cons.mp hn
    have hfg : (f == g) = false := by
      cases hb : f == g with
      | false => rfl
      | true =>
        have : f = g := by simpa using hb
        subst this
        exact absurd (List.mem_of_getElem? h1') hn'.1
    unfold List.lookup
    rw [hfg]
    exact lookup_at hn'.2 h1' h2'
/-- r reads the field f -/
def FldR (r : D → DK → Prop) (f : Str) : Prop := ∀ (x : D) (Q : DK), r x Q → ∃ (c : Nat) (us : List D) (d : D) (i : Nat), (c = 12 ∨ c = 13) ∧ x = .obj c us ∧ us[i]? = some d ∧ (XF c)[i]? = some f ∧ Q (.val d)
theorem optD_is {o : Option D} {k : D → Prop} (h : optD o k) : ∃ d, o = some d ∧ k d := by
  cases o with
  | none => exact h.elim
  | some d => exact ⟨d, rfl, h⟩
theorem fld_form : FldR (oFld 0) "form" := fun x Q h => by
  unfold oFld at h
  split at h
  · obtain ⟨d, h1, h2⟩ := optD_is h; exact ⟨12, _, d, 0, .inl rfl, rfl, h1, rfl, h2⟩
  · obtain ⟨d, h1, h2⟩ := optD_is h; exact ⟨13, _, d, 0, .inr rfl, rfl, h1, rfl, h2⟩
  · exact h.elim
theorem fld_measure : FldR (oFld 1) "measure" := fun x Q h => by
  unfold oFld at h
  split at h
  · obtain ⟨d, h1, h2⟩ := optD_is h; exact ⟨12, _, d, 1, .inl rfl, rfl, h1, rfl, h2⟩
  · obtain ⟨d, h1, h2⟩ := optD_is h; exact ⟨13, _, d, 1, .inr rfl, rfl, h1, rfl, h2⟩
  · exact h.elim
theorem fld_ground : FldR oGround "ground" := fun x Q h => by
  unfold oGround at h
  split at h
  · obtain ⟨d, h1, h2⟩ := optD_is h; exact ⟨12, _, d, 2, .inl rfl, rfl, h1, rfl, h2⟩
  · exact h.elim
theorem fld_ways : FldR oWays "ways" := fun x Q h => by
  unfold oWays at h
  split at h
  · obtain ⟨d, h1, h2⟩ := optD_is h; exact ⟨13, _, d, 2, .inr rfl, rfl, h1, rfl, h2⟩
  · exact h.elim
theorem le_fld {r : D → DK → Prop} {f : Str} (O : OTab G) (hr : FldR r f) (ha : LE G W ta Ta) : LE G W (dUn r ta) (tFld G.K Ta f) := fun F0 H0 ρ F σ H Q QX QV S q hq hx =>
  ha.v S q (fun x v F1 H1 e1 r1 q1 => by
    obtain ⟨c, us, d, i, hc, rfl, hd, hf, q2⟩ := hr x Q q1
    obtain ⟨a, rfl, ⟨_, dx, fs, g1, g2, g3, g4⟩ | ⟨h0, _⟩⟩ := r1
    · obtain ⟨w, hw, rw'⟩ := g4.get hd
      rw [O.fn c hc] at g3
      exact ⟨a, G.cm c, dx, fs, w, rfl, e1.fh _ _ g1, O.cl c hc, O.nf c hc f (List.mem_of_getElem? hf), lookup_at (by rw [g3]; exact nodup_XF hc) (by rw [g3]; exact hf) hw, hq _ _ F1 H1 (.val e1 rw') q2⟩
    · omega) hx
theorem meth12 {f g : DF} {x : D} {k : DF → Prop} (h : methOf f g x k) : ∃ us, (x = .obj 12 us ∧ k f) ∨ (x = .obj 13 us ∧ k g) := by
  unfold methOf at h
  split at h
  · exact ⟨_, .inl ⟨rfl, h⟩⟩
  · exact ⟨_, .inr ⟨rfl, h⟩⟩
  · exact h.elim
theorem lookup_out {fs : List (Str × V)} {m : Str} (h : m ∉ fs.map (·.1)) : fs.lookup m = none := by
  induction fs with
  | nil => rfl
  | cons p fs ih =>
    obtain ⟨g, u⟩ := p
    have h' : m ≠ g ∧ m ∉ fs.map (·.1) := by simpa using h
    unfold List.lookup
    have : (m == g) = false := by simpa using h'.1
    rw [this]
    exact ih h'.2
theorem le_meth {f g : DF} {m : Str} {n : Nat} (O : OTab G) (hm : ∀ c, c = 12 ∨ c = 13 → m ∉ XF c) (ha : LE G W ta Ta) (hs : LA G W n ts Ts) : LE G W (dMeth f g ta ts) (tMethU [(G.cm 12, spD G f), (G.cm 13, spD G g)] m (WE W) Ta Ts) := fun F0 H0 ρ F σ H Q QX QV S q hq hx =>
  ha.v S q (fun x v F1 H1 e1 r1 q1 => by
    have go : ∀ (c : Nat) (us : List D) (h : DF), c = 12 ∨ c = 13 → (G.cm c, spD G h) ∈ [(G.cm 12, spD G f), (G.cm 13, spD G g)] → x = .obj c us → ts ρ (fun xs => h (x :: xs) Q QX) QX → ∃ C sp a dx fs, (C, sp) ∈ [(G.cm 12, spD G f), (G.cm 13, spD G g)] ∧ v = .ref a ∧ H1 a = some (.ins C dx fs) ∧ fs.lookup m = none ∧ Ts σ H1 fun vs H2 => sp (v :: vs) H2 QV (WE W σ) := fun c us h hc hmem ex q2 => by
      subst ex
      have rr := r1
      obtain ⟨a, rfl, ⟨_, dx, fs, g1, g2, g3, g4⟩ | ⟨h0, _⟩⟩ := r1
      · refine ⟨G.cm c, spD G h, a, dx, fs, hmem, rfl, e1.fh _ _ g1, lookup_out (by rw [g3, O.fn c hc]; exact hm c hc), ?_⟩
        exact hs F0 H0 ρ F1 σ H1 _ QX _ (S.ext e1) q2 (fun ds vs F2 H2 e2 r2 l2 q3 => ⟨F2, .obj c us :: ds, Q, QX, e2.fh, ((S.ext e1).ext e2).tabs, ⟨_, vs, rfl, Rep.mono e2.f _ rr, r2⟩, q3, fun s w F3 H3 p q4 => hq s w F3 H3 (p.after (e1.trans e2)) q4, (hx.ext e1).ext e2⟩) (hx.ext e1)
      · omega
    obtain ⟨us, ⟨e, h⟩ | ⟨e, h⟩⟩ := meth12 q1
    · exact go 12 us f (.inl rfl) (List.mem_cons_self) e h
    · exact go 13 us g (.inr rfl) (List.mem_cons_of_mem _ List.mem_cons_self) e h) hx
theorem is12 {j : Nat} {x : D} {Q : DK} (h : oIsO j x Q) : ∃ c us, (c = 12 ∨ c = 13) ∧ x = .obj c us ∧ Q (.val (.bl (j == 14 || c == j))) := by
  unfold oIsO at h
  split at h
  · exact ⟨12, _, .inl rfl, rfl, h⟩
  · exact ⟨13, _, .inr rfl, rfl, h⟩
  · exact h.elim
theorem le_iso {j : Nat} (O : OTab G) (hj : j = 12 ∨ j = 13 ∨ j = 14) (ha : LE G W ta Ta) : LE G W (dUn (oIsO j) ta) (tCB (rIsK G.K) (tCons Ta (tCons (tC (.ref (G.cm j))) tNil))) := fun F0 H0 ρ F σ H Q QX QV S q hq hx =>
  ha.v S q (fun x v F1 H1 e1 r1 q1 => by
    obtain ⟨c, us, hc, rfl, q2⟩ := is12 q1
    obtain ⟨a, rfl, ⟨_, dx, fs, g1, g2, g3, g4⟩ | ⟨h0, _⟩⟩ := r1
    · exact ⟨.ref a, .ref (G.cm j), .ref (G.cm c), .ref (G.cm j), _, rfl, .own _, .base (.base (.ins (e1.fh _ _ g1) (O.cl c hc) (O.ha c hc) O.hn O.ht (O.hm c hc))), O.is c j hc hj, hq _ _ F1 H1 (.val e1 (show Rep G F1 (.bl _) (.bl _) from rfl)) q2⟩
    · omega) hx
end
/-- a class that makes objects -/
structure OMk (P : Program) (w : World) (G : Gx) (mg : Str → Option Value) (base : Heap) (k c : Nat) (x : Str) (f1 f2 : DF) : Prop where
  mgx : mg x = some (.ref (G.cm c))
  ex : ∃ (f : Addr) (fd : FuncData) (ps : List Str), Mk G.K (G.cm c) f ∧ FnOk P w G.K mg base (L2.CX P w) k f fd ps (spI G c f1 f2) ∧ Binds G.K fd ps []
/-- a method of the two classes -/
structure OMe (P : Program) (w : World) (G : Gx) (mg : Str → Option Value) (base : Heap) (k : Nat) (m : Str) (f g : DF) : Prop where
  m1 : MOk P w G.K mg base (L2.CX P w) k m (G.cm 12) (spD G f)
  m2 : MOk P w G.K mg base (L2.CX P w) k m (G.cm 13) (spD G g)
theorem OMe.all {P : Program} {w : World} {G : Gx} {mg : Str → Option Value} {base : Heap} {k : Nat} {m : Str} {f g : DF} (h : OMe P w G mg base k m f g) : ∀ C sp, (C, sp) ∈ [(G.cm 12, spD G f), (G.cm 13, spD G g)] → MOk P w G.K mg base (L2.CX P w) k m C sp := fun C sp hm => by
  rcases List.mem_cons.mp hm with e | hm
  · cases e; exact h.m1
  · rcases List.mem_cons.mp hm with e | hm
    · cases e; exact h.m2
    · exact absurd hm List.not_mem_nil
section
variable {X : Cx} {G : Gx} {W : WX} {k l : Nat} {a e : Expr} {es : List Expr} {ta te : DE} {ts : DA} {pos p p2 apos : Pos} {n i j c : Nat} {x m : Str} {f1 f2 : DF}
theorem j_make (C : Cxt X G W k) (O : OTab G) (h : OMk X.prog X.w G X.mg X.base l c x f1 f2) (ha : JA X G W 1 (e :: es) ts) (hc : c = 12 ∨ c = 13 := by decide) (hk : l + 1 ≤ k := by decide) (hg : Gl X x := by rfl) (hdb : (x == ("__debug__" : Str)) = false := by decide)
    (he : starEach (e :: es) X.env = (false, eval e X.env) :: starEach es X.env := by rfl) (hpl : (backTo pos (starEach es X.env)).any (·.1) = false := by rfl) : JE X G W (.Call (.Name x p) (e :: es) [] pos) (dCall (mkObj c f1 f2) ts) := by
  obtain ⟨f, fd, ps, M, F, hb⟩ := h.ex
  obtain ⟨T, q, l⟩ := ha
  exact ⟨_, pe_makeS (by rw [C.K]; exact M) (by rw [C.K]; exact F) (C.room.mono hk) hg h.mgx (by rw [C.K]; exact hb) C.hx q hdb he hpl, le_make (by omega) (O.fn c hc) l⟩
theorem j_fld {r : D → DK → Prop} {f : Str} (C : Cxt X G W k) (O : OTab G) (hr : FldR r f) (ha : JE X G W a ta) (hb : attributeBase a f X.env (eval a X.env) = eval a X.env := by rfl) : JE X G W (.Attribute a f pos) (dUn r ta) := by
  obtain ⟨T, q, l⟩ := ha
  refine ⟨_, pe_fld q hb, ?_⟩
  rw [C.K]
  exact le_fld O hr l
theorem j_meth {f g : DF} {pl : Sem Bool} (C : Cxt X G W k) (O : OTab G) (h : OMe X.prog X.w G X.mg X.base l m f g) (ho : JE X G W a ta) (ha : JA X G W n (e :: es) ts) (hm : ∀ c, c = 12 ∨ c = 13 → m ∉ XF c) (hk : l ≤ k := by decide)
    (hst : starEach (e :: es) X.env = (false, eval e X.env) :: starEach es X.env := by rfl) (hpl : (backTo pos (starEach es X.env)).any (·.1) = false := by rfl)
    (ht : eval (.Call (.Attribute a m apos) (e :: es) [] pos) X.env = (do
      let ov ← eval a X.env
      standAt apos.atName
      let (f, first) ← holding [ov] (getMethod ov m pl)
      callWith pos f first (backTo pos (starEach (e :: es) X.env)) (backToKw pos (keywordEach [] X.env))) := by rfl) :
    JE X G W (.Call (.Attribute a m apos) (e :: es) [] pos) (dMeth f g ta ts) := by
  obtain ⟨T, q, l⟩ := ho
  obtain ⟨U, r, l2⟩ := ha
  exact ⟨_, pe_methU (pl := pl) q (by rw [C.K]; exact h.all) (C.room.mono hk) C.hx r hst hpl ht, le_meth O hm l l2⟩
theorem j_meth0 {f g : DF} {pl : Sem Bool} (C : Cxt X G W k) (O : OTab G) (h : OMe X.prog X.w G X.mg X.base l m f g) (ho : JE X G W a ta) (hm : ∀ c, c = 12 ∨ c = 13 → m ∉ XF c) (hk : l ≤ k := by decide)
    (ht : eval (.Call (.Attribute a m apos) [] [] pos) X.env = (do
      let ov ← eval a X.env
      standAt apos.atName
      let (f, first) ← holding [ov] (getMethod ov m pl)
      callWith pos f first (backTo pos (starEach [] X.env)) (backToKw pos (keywordEach [] X.env))) := by rfl) :
    JE X G W (.Call (.Attribute a m apos) [] [] pos) (dMeth f g ta dNil) := by
  obtain ⟨T, q, l⟩ := ho
  exact ⟨_, pe_methU0 (pl := pl) q (by rw [C.K]; exact h.all) (C.room.mono hk) C.hx ht, le_meth O hm l la_nil⟩
/-- isinstance(o, C), o an object -/
theorem j_iso {y : Str} (C : Cxt X G W k) (O : OTab G) (hm : X.mg "isinstance" = none) (hy : X.mg y = some (.ref (G.cm j))) (ha : JE X G W a ta) (hj : j = 12 ∨ j = 13 ∨ j = 14 := by decide) (hg : Gl X "isinstance" := by rfl) (hgT : Gl X y := by rfl) (hdy : (y == ("__debug__" : Str)) = false := by decide)
    (h1 : starEach (a :: [.Name y p2]) X.env = (false, eval a X.env) :: starEach [.Name y p2] X.env := by rfl) (h2 : starEach [.Name y p2] X.env = (false, eval (.Name y p2) X.env) :: starEach [] X.env := by rfl) (hpl : (backTo pos (starEach [.Name y p2] X.env)).any (·.1) = false := by rfl) :
    JE X G W (.Call (.Name "isinstance" p) [a, .Name y p2] [] pos) (dUn (oIsO j) ta) := by
  obtain ⟨T', q, l⟩ := ha
  refine ⟨_, pe_callB call_isK hg hm boot_isinstance (pa_cons q (pa_cons (pe_glob (v := .ref (G.cm j)) hgT hy rfl hdy) pa_nil h2) h1) (he := h1) (hpl := hpl), ?_⟩
  rw [C.K]
  exact le_iso O hj l
end
theorem hb_of {X : Cx} {G : Gx} {W : WX} {e : Expr} {t : DE} {body : List Stmt} {R : TE → TS} (hj : JE X G W e t) (k : ∀ T, PE X e T → PSs X body (R T)) : ∃ T, PSs X body (R T) ∧ LE G W t T := by
  obtain ⟨T, q, l⟩ := hj
  exact ⟨T, k T q, l⟩
theorem fnOk_mq {P : Program} {w : World} {G : Gx} {mg : Str → Option Value} {base : Heap} {k np n : Nat} {x q : Str} {st : Stmt} {N ps : List Str} {t : DS} {a : Addr} {fd : FuncData} (F : FunD G.K x q (defArgs st) (defBody st) (defScope st) [] [] a fd) (S : FnScope N ps (defScope st)) (hN : N.length = n) (hp : ps.length = np) (hnp : np ≤ n)
    (hb : ∀ (f : Addr) (cdv : Value) (A : Around) (outer : List PySem.Env) (s : Shared) (H : Hp) (E : XK), Room k (A.deeper (envOfC q (defScope st) s.heap.objs.size f cdv)) →
      JSs (cxOf (L2.CX P w) P w G.K mg base N q (defScope st) f cdv A outer s H E) G (fun cls d _ H => E cls d H) (defBody st) t) : FnOk P w G.K mg base (L2.CX P w) (k + 1) a fd ps (spD G (dFun np n t)) := by
  refine F.ok S (fun vs H Q E h => ?_) fun cdv A outer s H vs Q E hr h => ?_
  · obtain ⟨F', ds, QD, QX, _, _, r, ⟨hl, _⟩, _⟩ := h
    rw [r.length, hl, hp]
  · obtain ⟨F', ds, QD, QX, e, tb, r, ⟨hl, q⟩, hQ, hX⟩ := h
    obtain ⟨T, hT, hL⟩ := hb a cdv A outer s H E hr
    refine ⟨T, hT, hL F' H _ F' _ H ⟨_, _, _, _, _⟩ _ (sRep_start e tb r hN hl hnp) (ERel.mk (fun ρ F1 σ H1 S1 q1 => ?_) (fun ρ F1 σ H1 S1 q1 => ?_) (fun ρ F1 σ H1 S1 q1 => ?_) (fun s v F1 H1 p q1 => ?_) (fun x ρ F1 σ H1 cls d S1 q1 r1 => ?_)) q⟩
    · exact hQ (.val .non) .non F1 H1 (.val S1.e rfl) q1
    · exact q1.elim
    · exact q1.elim
    · exact hQ s v F1 H1 p q1
    · exact hX x q1 cls d F1 H1 S1.e r1
theorem mok_of {P : Program} {w : World} {K : PySem.W.Frag} {mg : Str → Option Value} {base : Heap} {j k : Nat} {m : Str} {C f : Addr} {sp : Sp} {fd : FuncData} {ps : List Str} (c : Cls K C) (h : Meth K C m f) (F : FnOk P w K mg base (L2.CX P w) j f fd ps sp) (hjk : j ≤ k) (b : Binds K fd ps []) : MOk P w K mg base (L2.CX P w) k m C sp :=
  ⟨f, fd, ps, c, h, F.mono hjk, b⟩
def clB (K : PySem.W.Frag) (C : Addr) : Bool := PySem.W.plainGet K C Str.empty && (PySem.W.hasDictIn K C && (PySem.W.plainOver K C && decide (PySem.W.findIn K (.ref C) "__setattr__" = some (some (.builtin "object.__setattr__")))))
theorem clB_ok {K : PySem.W.Frag} {C : Addr} (h : clB K C = true) : Cls K C := by
  unfold clB at h
  simp only [Bool.and_eq_true, decide_eq_true_eq] at h
  obtain ⟨h1, h2, h3, h4⟩ := h
  exact ⟨h1, h2, h3, h4⟩
def otB (K : PySem.W.Frag) (cm : Nat → Addr) : Bool := (([12, 13] : List Nat).all fun c => clB K (cm c) && (((XF c).all fun f => decide (PySem.W.findIn K (.ref (cm c)) f = some none)) && (decide (PySem.W.findIn K (.ref (cm c)) "__class__" = some (some (.builtin "object.__class__"))) && (decide (PySem.W.mroIn K (cm c) (.type "object") = some true) &&
  (([12, 13, 14] : List Nat).all fun j => decide (PySem.W.kitOne K (.ref (cm c)) (.ref (cm j)) = some (j == 14 || c == j)))))))
  && (decide (PySem.W.specialIn K (.builtin "object.__class__") "__get__" = some (some (.builtin "getset_descriptor.__get__"))) && decide (PySem.W.takesIn K (.builtin "object.__class__") = some true))
theorem otB_ok {G : Gx} (h : otB G.K G.cm = true) (hf : G.fnm = XF) : OTab G := by
  obtain ⟨h, h2⟩ := Bool.and_eq_true_iff.mp h
  rw [Bool.and_eq_true, decide_eq_true_eq, decide_eq_true_eq] at h2
  have key : ∀ c, c = 12 ∨ c = 13 → _ := fun c hc => List.all_eq_true.mp h c (by rcases hc with rfl | rfl <;> decide)
  simp only [Bool.and_eq_true, decide_eq_true_eq] at key
  exact ⟨fun c hc => clB_ok (key c hc).1, fun c hc f hx => show PySem.W.findIn G.K (.ref (G.cm c)) f = some none from of_decide_eq_true (List.all_eq_true.mp (key c hc).2.1 f hx), fun c _ => by rw [hf], fun c hc => (key c hc).2.2.1, fun c hc => (key c hc).2.2.2.1, h2.1, h2.2,
    fun c j hc hj => of_decide_eq_true (List.all_eq_true.mp (key c hc).2.2.2.2 j (by rcases hj with rfl | rfl | rfl <;> decide))⟩
def mkB (K : PySem.W.Frag) (C : Addr) : Bool := PySem.W.makesIn K C && (decide (PySem.W.findIn K (.ref C) "__init__" = some (some (.ref (He.ma K C "__init__")))) && (PySem.W.isFn K (.ref (He.ma K C "__init__")) && PySem.W.keepIn K (.ref C)))
theorem mkB_ok {K : PySem.W.Frag} {C : Addr} (h : mkB K C = true) : Mk K C (He.ma K C "__init__") := by
  unfold mkB at h
  simp only [Bool.and_eq_true, decide_eq_true_eq] at h
  obtain ⟨h1, h2, h3, h4⟩ := h
  exact ⟨h1, h2, h3, h4⟩
def meB (K : PySem.W.Frag) (C : Addr) (m : Str) (f : Addr) : Bool := decide (PySem.W.findIn K (.ref C) m = some (some (.ref f))) && (PySem.W.isFn K (.ref f) && PySem.W.keepIn K (.ref f))
theorem meB_ok {K : PySem.W.Frag} {C : Addr} {m : Str} {f : Addr} (h : meB K C m f = true) : Meth K C m f := by
  unfold meB at h
  simp only [Bool.and_eq_true, decide_eq_true_eq] at h
  obtain ⟨h1, h2, h3⟩ := h
  exact ⟨h1, h2, h3⟩
def cfB (K : PySem.W.Frag) (C : Addr) (m : Str) (f : Addr) : Bool := PySem.W.readsIn K C (.type "type") && (decide (PySem.W.specialIn K (.ref C) "__getattribute__" = some (some (.builtin "type.__getattribute__"))) && ((match PySem.W.findCls K (.ref C) (.type "type") m with
  | some (.val v) => decide (v = .ref f)
  | _ => false) && PySem.W.keepIn K (.ref f)))
theorem cfB_ok {K : PySem.W.Frag} {C : Addr} {m : Str} {f : Addr} (h : cfB K C m f = true) : ClsFn K C (.type "type") m f := by
  unfold cfB at h
  obtain ⟨h1, h⟩ := Bool.and_eq_true_iff.mp h
  obtain ⟨h2, h⟩ := Bool.and_eq_true_iff.mp h
  obtain ⟨h3, h4⟩ := Bool.and_eq_true_iff.mp h
  refine ⟨⟨h1, of_decide_eq_true h2⟩, ?_, h4⟩
  split at h3
  · rename_i v e
    rw [e, of_decide_eq_true h3]
  · cases h3
end DL

/- DLz -/
namespace DL
open PySem PySem.Spec PyProof.Rows L2
section
variable {G : Gx} {W : WX} {te : DE} {Te : TE} {t : DS} {T : TS}
theorem ls_forU {is : List Nat} {n : Nat} (hw : LE G W te Te) (hb : LS G W t T) (hn : n = is.length) : LS G W (dForU is te t) (tFor (iSeq G.K Te) (gTup G.K n (gNs is)) T) := fun F0 H0 ρ F σ H N D' S E q => by
  subst hn
  have step : ∀ {d : D} {v : V} {ρ' : Env} {F' : Hp} {σ' : Sg} {H' : Hp} {M : Env → Prop} {P : Sg → Hp → Prop}, SRep G F0 H0 F' H' σ' ρ' → Rep G F' d v → (tupOf is.length d fun l => t M N.rt N.nx M N.xc (setAll is l ρ')) → (∀ ρ2 F2 σ2 H2, SRep G F0 H0 F2 H2 σ2 ρ2 → Same F' F2 → M ρ2 → P σ2 H2) →
      gTup G.K is.length (gNs is) v σ' H' (fun σ2 H2 => T { D' with nx := P, ct := P, bk := D'.nx } σ2 H2) := fun {d v ρ' F' σ' H' M P} S' rd hu hP => by
    cases d with
    | tup l =>
      obtain ⟨a, vs, rfl, h1, h2⟩ := rd
      have h1 := h1.1
      obtain ⟨hl, hu⟩ := hu
      exact ⟨a, vs, rfl, sqT_mono S'.same h1, by rw [h2.length]; exact hl, gNs_of is vs σ' H' _ (by rw [h2.length]; exact hl) (turn_step hb E (S'.setAll h2) hu hP)⟩
    | _ => exact hu.elim
  refine hw.v S q (fun d v F1 H1 e1 r1 q1 => ?_) (E.xw S)
  cases d with
  | lst l =>
    obtain ⟨a, vs, rfl, h1, h2⟩ := r1
    refine .inl ⟨a, rfl, ⟨vs, sqL_mono e1.fh h1⟩, for_list (K := G.K) (a := a) (xs := vs) (fun j σ H => ∃ ρ F, SRep G F0 H0 F H σ ρ ∧ SqL G.K F a vs ∧ RepL G F l vs ∧ dEveryU is t N.nx N.rt N.xc (l.drop j) ρ) ⟨ρ, F1, S.ext e1, h1, h2, q1⟩ (fun j σ' H' _ ⟨ρ', F', S', g1, _⟩ => sqL_mono S'.same g1) ?_ ?_⟩
    · rintro j x σ' H' hj ⟨ρ', F', S', g1, g2, g3⟩
      obtain ⟨d, hd, rd⟩ := at_of_len g2 hj
      rw [drop_at hd] at g3
      exact step S' rd g3 fun ρ2 F2 σ2 H2 S2 sF m => ⟨ρ2, F2, S2, sqL_mono sF g1, RepL.mono sF l g2, m⟩
    · rintro σ' H' ⟨ρ', F', S', g1, g2, g3⟩
      rw [g2.length, List.drop_length] at g3
      exact E.nx ρ' F' σ' H' S' g3
  | tup l =>
    obtain ⟨a, vs, rfl, h1, h2⟩ := r1
    have h1 := h1.1
    refine .inr ⟨a, rfl, ⟨vs, sqT_mono e1.fh h1⟩, for_tup (K := G.K) (a := a) (xs := vs) (fun j σ H => ∃ ρ F, SRep G F0 H0 F H σ ρ ∧ SqT G.K F a vs ∧ RepL G F l vs ∧ dEveryU is t N.nx N.rt N.xc (l.drop j) ρ) ⟨ρ, F1, S.ext e1, h1, h2, q1⟩ (fun j σ' H' _ ⟨ρ', F', S', g1, _⟩ => sqT_mono S'.same g1) ?_ ?_⟩
    · rintro j x σ' H' hj ⟨ρ', F', S', g1, g2, g3⟩
      obtain ⟨d, hd, rd⟩ := at_of_len g2 hj
      rw [drop_at hd] at g3
      exact step S' rd g3 fun ρ2 F2 σ2 H2 S2 sF m => ⟨ρ2, F2, S2, sqT_mono sF g1, RepL.mono sF l g2, m⟩
    · rintro σ' H' ⟨ρ', F', S', g1, g2, g3⟩
      rw [g2.length, List.drop_length] at g3
      exact E.nx ρ' F' σ' H' S' g3
  | _ => exact q1.elim
theorem ls_forUL {is : List Nat} {n : Nat} (hw : LE G W te Te) (hb : LS G W t T) (hn : n = is.length) : LS G W (dForUL is te t) (tFor (iSeq G.K Te) (gUnl G.K n (gNs is)) T) := fun F0 H0 ρ F σ H N D' S E q => by
  subst hn
  have step : ∀ {d : D} {v : V} {ρ' : Env} {F' : Hp} {σ' : Sg} {H' : Hp} {M : Env → Prop} {P : Sg → Hp → Prop}, SRep G F0 H0 F' H' σ' ρ' → Rep G F' d v → (lstOf is.length d fun l => t M N.rt N.nx M N.xc (setAll is l ρ')) → (∀ ρ2 F2 σ2 H2, SRep G F0 H0 F2 H2 σ2 ρ2 → Same F' F2 → M ρ2 → P σ2 H2) →
      gUnl G.K is.length (gNs is) v σ' H' (fun σ2 H2 => T { D' with nx := P, ct := P, bk := D'.nx } σ2 H2) := fun {d v ρ' F' σ' H' M P} S' rd hu hP => by
    cases d with
    | lst l =>
      obtain ⟨a, vs, rfl, h1, h2⟩ := rd
      obtain ⟨hl, hu⟩ := hu
      exact ⟨a, vs, rfl, sqL_mono S'.same h1, by rw [h2.length]; exact hl, gNs_of is vs σ' H' _ (by rw [h2.length]; exact hl) (turn_step hb E (S'.setAll h2) hu hP)⟩
    | _ => exact hu.elim
  refine hw.v S q (fun d v F1 H1 e1 r1 q1 => ?_) (E.xw S)
  cases d with
  | lst l =>
    obtain ⟨a, vs, rfl, h1, h2⟩ := r1
    refine .inl ⟨a, rfl, ⟨vs, sqL_mono e1.fh h1⟩, for_list (K := G.K) (a := a) (xs := vs) (fun j σ H => ∃ ρ F, SRep G F0 H0 F H σ ρ ∧ SqL G.K F a vs ∧ RepL G F l vs ∧ dEveryUL is t N.nx N.rt N.xc (l.drop j) ρ) ⟨ρ, F1, S.ext e1, h1, h2, q1⟩ (fun j σ' H' _ ⟨ρ', F', S', g1, _⟩ => sqL_mono S'.same g1) ?_ ?_⟩
    · rintro j x σ' H' hj ⟨ρ', F', S', g1, g2, g3⟩
      obtain ⟨d, hd, rd⟩ := at_of_len g2 hj
      rw [drop_at hd] at g3
      exact step S' rd g3 fun ρ2 F2 σ2 H2 S2 sF m => ⟨ρ2, F2, S2, sqL_mono sF g1, RepL.mono sF l g2, m⟩
    · rintro σ' H' ⟨ρ', F', S', g1, g2, g3⟩
      rw [g2.length, List.drop_length] at g3
      exact E.nx ρ' F' σ' H' S' g3
  | tup l =>
    obtain ⟨a, vs, rfl, h1, h2⟩ := r1
    have h1 := h1.1
    refine .inr ⟨a, rfl, ⟨vs, sqT_mono e1.fh h1⟩, for_tup (K := G.K) (a := a) (xs := vs) (fun j σ H => ∃ ρ F, SRep G F0 H0 F H σ ρ ∧ SqT G.K F a vs ∧ RepL G F l vs ∧ dEveryUL is t N.nx N.rt N.xc (l.drop j) ρ) ⟨ρ, F1, S.ext e1, h1, h2, q1⟩ (fun j σ' H' _ ⟨ρ', F', S', g1, _⟩ => sqT_mono S'.same g1) ?_ ?_⟩
    · rintro j x σ' H' hj ⟨ρ', F', S', g1, g2, g3⟩
      obtain ⟨d, hd, rd⟩ := at_of_len g2 hj
      rw [drop_at hd] at g3
      exact step S' rd g3 fun ρ2 F2 σ2 H2 S2 sF m => ⟨ρ2, F2, S2, sqT_mono sF g1, RepL.mono sF l g2, m⟩
    · rintro σ' H' ⟨ρ', F', S', g1, g2, g3⟩
      rw [g2.length, List.drop_length] at g3
      exact E.nx ρ' F' σ' H' S' g3
  | _ => exact q1.elim
end
section
variable {X : Cx} {G : Gx} {W : WX} {k : Nat} {e : Expr} {es : List Expr} {sts : List Stmt} {te : DE} {t : DS} {p pos : Pos}
theorem s_forU {is : List Nat} {kk m : Nat} (C : Cxt X G W k) (hw : JE X G W e te) (hg : JG X is es) (hb : JSs X G W sts t) (hs : ∀ x, foldedSetIterable e X.env x = pure x := by intro _; rfl) (hn : (assignEach es X.env).length = m := by rfl) (hm : m = is.length := by rfl) (hst : (assignEach es X.env).findIdx? (·.1) = none := by rfl) :
    JS X G W (.For (.Tuple es kk p) e sts [] pos) (dForU is te t) := by
  obtain ⟨_, q, l⟩ := hw
  obtain ⟨_, r, mm⟩ := hb
  refine ⟨_, ps_for C.own C.calm (pi_seq q) (pg_tup C.calm hg hn hst) r hs, ?_⟩
  rw [C.K]
  exact ls_forU l mm hm
theorem s_forUL {is : List Nat} {kk m : Nat} (C : Cxt X G W k) (hw : JE X G W e te) (hg : JG X is es) (hb : JSs X G W sts t) (hs : ∀ x, foldedSetIterable e X.env x = pure x := by intro _; rfl) (hn : (assignEach es X.env).length = m := by rfl) (hm : m = is.length := by rfl) (hst : (assignEach es X.env).findIdx? (·.1) = none := by rfl) :
    JS X G W (.For (.Tuple es kk p) e sts [] pos) (dForUL is te t) := by
  obtain ⟨_, q, l⟩ := hw
  obtain ⟨_, r, mm⟩ := hb
  refine ⟨_, ps_for C.own C.calm (pi_seq q) (pg_unl C.calm hg hn hst) r hs, ?_⟩
  rw [C.K]
  exact ls_forUL l mm hm
end
section
variable {G : Gx}
theorem isI_is {d : D} (h : d.isI = true) : d = .int d.num := by cases d <;> first | rfl | cases h
theorem isI_vals {F : Hp} : ∀ {l : List D} {vs : List V}, l.all D.isI = true → RepL G F l vs → vs = (l.map D.num).map V.int
  | [], vs, _, h => h
  | d :: l, vs, hi, ⟨v, r, e, h1, h2⟩ => by
    subst e
    have hi' := Bool.and_eq_true_iff.mp (show (d.isI && l.all D.isI) = true from hi)
    rw [isI_is hi'.1] at h1
    rw [show v = V.int d.num from h1, isI_vals hi'.2 h2]
    rfl
theorem lr_sum : LRs G fSum (L2.rSum G.K) := fun F H xs us Q QV e r q hq => by
  unfold fSum at q
  split at q
  · rename_i l
    obtain ⟨v, rfl, a, vs, rfl, h1, h2⟩ := one_rep r
    exact ⟨a, l.map D.num, rfl, by rw [← isI_vals q.1 h2]; exact sqL_mono e h1, hq _ _ F H (.val (.refl e) (show Rep G F (.int _) (.int _) from rfl)) q.2⟩
  · exact q.elim
theorem boot_sum' : bootBuiltins "sum" = some (.builtin "sum") := by decide +kernel
variable {X : Cx} {W : WX} {k n : Nat} {e : Expr} {ts : DA} {p pos : Pos}
theorem j_sum (C : Cxt X G W k) (hm : X.mg "sum" = none) (ha : JA X G W n [e] ts) (hg : Gl X "sum" := by rfl) (he : starEach [e] X.env = [(false, eval e X.env)] := by rfl) : JE X G W (.Call (.Name "sum" p) [e] [] pos) (dAs fSum ts) :=
  j_bi (L2.cr_sum C.calm) (by rw [C.K]; exact lr_sum) hg hm boot_sum' ha (he := he)
end
end DL

/- DLm -/
namespace DL
class Bd (x : Int) (n : outParam Nat) : Prop where
  h : x.natAbs < 2 ^ n
theorem Bd.lt {x : Int} {n : Nat} (b : Bd x n) : x.natAbs < 2 ^ n := b.h
theorem bd_mono {x : Int} {n m : Nat} (b : Bd x n) (h : n ≤ m) : Bd x m := ⟨Nat.lt_of_lt_of_le b.h (Nat.pow_le_pow_right (by decide) h)⟩
theorem bd_of {x : Int} {n : Nat} (h : x.natAbs < 2 ^ n) : Bd x n := ⟨h⟩
theorem bd_abs {x y : Int} {n : Nat} (b : Bd y n) (h : x.natAbs ≤ y.natAbs) : Bd x n := ⟨Nat.lt_of_le_of_lt h b.h⟩
instance {x y : Int} {n m : Nat} [a : Bd x n] [b : Bd y m] : Bd (x * y) (n + m) := ⟨by
  rw [Int.natAbs_mul, Nat.pow_add]
  exact Nat.mul_lt_mul'' a.h b.h⟩
theorem pow_max (n m : Nat) : 2 ^ n ≤ 2 ^ (max n m) ∧ 2 ^ m ≤ 2 ^ (max n m) := ⟨Nat.pow_le_pow_right (by decide) (Nat.le_max_left _ _), Nat.pow_le_pow_right (by decide) (Nat.le_max_right _ _)⟩
instance {x y : Int} {n m : Nat} [a : Bd x n] [b : Bd y m] : Bd (x + y) (max n m + 1) := ⟨by
  have h := pow_max n m
  have h1 := a.h
  have h2 := b.h
  have e : 2 ^ (max n m + 1) = 2 * 2 ^ (max n m) := by rw [Nat.pow_succ, Nat.mul_comm]
  omega⟩
instance {x y : Int} {n m : Nat} [a : Bd x n] [b : Bd y m] : Bd (x - y) (max n m + 1) := ⟨by
  have h := pow_max n m
  have h1 := a.h
  have h2 := b.h
  have e : 2 ^ (max n m + 1) = 2 * 2 ^ (max n m) := by rw [Nat.pow_succ, Nat.mul_comm]
  omega⟩
instance {x : Int} {n : Nat} [a : Bd x n] : Bd (-x) n := ⟨by rw [Int.natAbs_neg]; exact a.h⟩
theorem fmod_neg_bounds (x : Int) {y : Int} (h : y < 0) : x.fmod y ≤ 0 ∧ y < x.fmod y := by
  have e := Int.fmod_eq_emod (a := x) (b := y)
  have h1 := Int.emod_nonneg x (show y ≠ 0 by omega)
  have h2 := Int.emod_lt_of_neg x h
  rw [e]
  split
  · rename_i h3
    rcases h3 with h3 | h3
    · omega
    · have := Int.emod_eq_zero_of_dvd h3
      omega
  · have : x % y ≠ 0 := fun h0 => by
      rename_i h3
      exact h3 (.inr (Int.dvd_of_emod_eq_zero h0))
    omega
theorem natAbs_fdiv_le (x y : Int) : (x.fdiv y).natAbs ≤ x.natAbs := by
  by_cases hy : y = 0
  · subst hy; simp
  · have e := Int.mul_fdiv_add_fmod x y
    rcases Int.lt_or_gt_of_ne hy with h | h
    · obtain ⟨h1, h2⟩ := fmod_neg_bounds x h
      generalize x.fdiv y = q at *
      generalize x.fmod y = r at *
      rcases Int.lt_trichotomy q 0 with hq | hq | hq
      · have : (-y - 1) * (-q - 1) ≥ 0 := Int.mul_nonneg (by omega) (by omega)
        rw [Int.mul_sub, Int.sub_mul, Int.neg_mul_neg] at this
        omega
      · subst hq; omega
      · have : (-y - 1) * q ≥ 0 := Int.mul_nonneg (by omega) (by omega)
        rw [Int.sub_mul, Int.neg_mul] at this
        omega
    · have h1 := Int.fmod_nonneg_of_pos x h
      have h2 := Int.fmod_lt_of_pos x h
      generalize x.fdiv y = q at *
      generalize x.fmod y = r at *
      rcases Int.lt_trichotomy q 0 with hq | hq | hq
      · have : (y - 1) * (-q - 1) ≥ 0 := Int.mul_nonneg (by omega) (by omega)
        rw [Int.mul_sub, Int.sub_mul, Int.mul_neg] at this
        omega
      · subst hq; omega
      · have : (y - 1) * q ≥ 0 := Int.mul_nonneg (by omega) (by omega)
        rw [Int.sub_mul] at this
        omega
instance {x y : Int} {n : Nat} [a : Bd x n] : Bd (x.fdiv y) n := ⟨Nat.lt_of_le_of_lt (natAbs_fdiv_le x y) a.h⟩
instance {k : Nat} : Bd (@OfNat.ofNat Int k (@instOfNat k)) (k.log2 + 1) := ⟨by
  show (Int.ofNat k).natAbs < _
  exact Nat.lt_log2_self⟩
theorem bits_le {x : Int} {n : Nat} (b : Bd x n) : bits x ≤ n := by
  unfold bits
  have h := b.h
  split
  · exact Nat.zero_le _
  · rename_i h0
    have : x.natAbs.log2 < n := (Nat.log2_lt (by omega)).mpr h
    omega
theorem bd_of_bits {x : Int} {n : Nat} (h : bits x ≤ n) : Bd x n := ⟨by
  unfold bits at h
  split at h
  · rename_i h0
    subst h0
    exact Nat.two_pow_pos n
  · have := @Nat.lt_log2_self x.natAbs
    exact Nat.lt_of_lt_of_le this (Nat.pow_le_pow_right (by decide) h)⟩
theorem sz {i j : Int} {n m : Nat} [a : Bd i n] [b : Bd j m] (h : Nat.ble (n + m) 134217728 = true) : Sz i j := by
  have h1 := bits_le a
  have h2 := bits_le b
  have h3 := Nat.le_of_ble_eq_true h
  exact .inr (.inr (by omega))
theorem bd_fmod {x y : Int} {m : Nat} [b : Bd y m] (hy : y ≠ 0) : Bd (x.fmod y) m := ⟨by
  have h := b.h
  rcases Int.lt_or_gt_of_ne hy with h0 | h0
  · obtain ⟨h1, h2⟩ := fmod_neg_bounds x h0
    omega
  · have h1 := Int.fmod_nonneg_of_pos x h0
    have h2 := Int.fmod_lt_of_pos x h0
    omega⟩
theorem divLit {i j : Int} (h : (j != 0 && Nat.blt j.natAbs.log2 9000) = true) : DivOk i j := by
  simp only [Bool.and_eq_true, bne_iff_ne, ne_eq, Nat.blt_eq] at h
  exact ⟨h.1, .inl h.2⟩
theorem divBd {i j : Int} {m : Nat} [b : Bd j m] (hj : j ≠ 0) (h : Nat.ble m 9000 = true) : DivOk i j := by
  refine ⟨hj, .inl ?_⟩
  have h2 := (Nat.log2_lt (by omega)).mpr b.h
  have h3 := Nat.le_of_ble_eq_true h
  omega
theorem divBd2 {i j : Int} {m : Nat} [b : Bd i m] (hj : j ≠ 0) (h : Nat.ble m 4000 = true) : DivOk i j := by
  refine ⟨hj, .inr ?_⟩
  have h2 := bits_le b
  have h3 := Nat.le_of_ble_eq_true h
  omega
theorem bEq_int {a b : Int} {k : Bool → Prop} : bEq (.int a) (.int b) k = k (decide (a = b)) := rfl
theorem bNe_int {a b : Int} {k : Bool → Prop} : bNe (.int a) (.int b) k = k (!decide (a = b)) := rfl
theorem bEq_tt {a b : List D} {k : Bool → Prop} : bEq (.tup a) (.tup b) k = (((D.tup a).dat 30 && (D.tup b).dat 30) = true ∧ k (eqL a b)) := rfl
theorem bNe_tt {a b : List D} {k : Bool → Prop} : bNe (.tup a) (.tup b) k = (((D.tup a).dat 30 && (D.tup b).dat 30) = true ∧ k (!eqL a b)) := rfl
theorem bEq_ll {a b : List D} {k : Bool → Prop} : bEq (.lst a) (.lst b) k = (((D.lst a).dat 30 && (D.lst b).dat 30) = true ∧ k (eqL a b)) := rfl
theorem bNe_ll {a b : List D} {k : Bool → Prop} : bNe (.lst a) (.lst b) k = (((D.lst a).dat 30 && (D.lst b).dat 30) = true ∧ k (!eqL a b)) := rfl
theorem two_t {A B : Prop} : two true A B = A := rfl
theorem two_f {A B : Prop} : two false A B = B := rfl
theorem two_d {p : Prop} [Decidable p] {A B : Prop} (h1 : p → A) (h2 : ¬ p → B) : two (decide p) A B := by
  by_cases h : p
  · rw [decide_eq_true h]; exact h1 h
  · rw [decide_eq_false h]; exact h2 h
theorem two_n {b : Bool} {A B : Prop} (h : two b B A) : two (!b) A B := by
  cases b <;> exact h
theorem two_b {b : Bool} {A B : Prop} (h1 : b = true → A) (h2 : b = false → B) : two b A B := by
  cases b
  · exact h2 rfl
  · exact h1 rfl
theorem two_nd {p : Prop} [Decidable p] {A B : Prop} (h1 : ¬ p → A) (h2 : p → B) : two (!decide p) A B := two_n (two_d h2 h1)
/-- the test is known -/
theorem two_p {p : Prop} [Decidable p] {A B : Prop} (hp : p) (h : A) : two (decide p) A B := two_d (fun _ => h) fun n => absurd hp n
theorem two_q {p : Prop} [Decidable p] {A B : Prop} (hp : ¬ p) (h : B) : two (decide p) A B := two_d (fun y => absurd y hp) fun _ => h
theorem while_of {tc : DE} {tb : DS} {n b c : Env → Prop} {q : DK} {x : Exn → Env → Prop} {r : Env} (I : Env → Nat → Prop) (m0 : Nat) (h0 : I r m0)
    (hs : ∀ r m, I r m → tc r (fun s => s.bool fun k => two k (tb (fun r' => ∃ m', m' < m ∧ I r' m') q n (fun r' => ∃ m', m' < m ∧ I r' m') x r) (n r)) fun e => x e r) : dWhile tc tb n q b c x r :=
  ⟨fun m r => I r m, ⟨m0, h0⟩, fun m r h => hs r m h⟩
theorem every_ind {i : Nat} {tb : DS} {n : Env → Prop} {q : DK} {x : Exn → Env → Prop} (I : List D → Env → Prop) (he : ∀ r, I [] r → n r)
    (hs : ∀ d ds r, I (d :: ds) r → (∀ r', I ds r' → dEvery i tb n q x ds r') → tb (fun r' => dEvery i tb n q x ds r') q n (fun r' => dEvery i tb n q x ds r') x (r.set i (.val d))) : ∀ (l : List D) (r : Env), I l r → dEvery i tb n q x l r
  | [], r, h => he r h
  | d :: ds, r, h => hs d ds r h fun r' h' => every_ind I he hs ds r' h'
theorem each_map {f : D → (Option D → Prop) → Prop} (h : D → Option D) : ∀ (l : List D) (_ : ∀ d ∈ l, ∀ k : Option D → Prop, k (h d) → f d k) (Q : List D → Prop), Q (l.filterMap h) → dEach f l Q
  | [], _, Q, q => q
  | d :: l, hf, Q, q => hf d List.mem_cons_self _ (each_map h l (fun e he => hf e (List.mem_cons_of_mem _ he)) _ (by
      rw [List.filterMap_cons] at q
      cases e : h d with
      | none => rw [e] at q; exact q
      | some y => rw [e] at q; exact q))
theorem each_all {f : D → (Option D → Prop) → Prop} (l : List D) (hf : ∀ d ∈ l, ∀ k : Option D → Prop, k (some d) → f d k) (Q : List D → Prop) (q : Q l) : dEach f l Q :=
  each_map some l hf Q (by simpa using q)
/-- each item made by g -/
theorem each_made {f : D → (Option D → Prop) → Prop} (g : D → D) (l : List D) (hf : ∀ d ∈ l, ∀ k : Option D → Prop, k (some (g d)) → f d k) (Q : List D → Prop) (q : Q (l.map g)) : dEach f l Q :=
  each_map (fun d => some (g d)) l hf Q (by simpa using q)
section
variable {a b c : Int} {d e : D} {l m ks vs : List D} {k : D → Prop} {kb : Bool → Prop} {Q : DK} {x y : Bool} {s : List Nat}
theorem use_val : (Sl.val d).use k = k d := rfl
theorem use_own : (Sl.own l).use k = k (.lst l) := rfl
theorem use_ownd : (Sl.ownd ks vs).use k = k (.dct ks vs) := rfl
theorem bool_val : (Sl.val (.bl x)).bool kb = kb x := rfl
theorem view_val : (Sl.val d).view = .val d := rfl
theorem view_own : (Sl.own l).view = .val (.lst l) := rfl
theorem view_ownd : (Sl.ownd ks vs).view = .val (.dct ks vs) := rfl
theorem view_un : Sl.un.view = .un := rfl
theorem imm_val : (Sl.val d).imm = d.imm := rfl
theorem imm_own : (Sl.own l).imm = immL l := rfl
theorem add_ii : oAdd (.int a) (.int b) Q = Q (.val (.int (a + b))) := rfl
theorem add_ll : oAdd (.lst l) (.lst m) Q = (l.length + m.length ≤ 16777216 ∧ Q (.own (l ++ m))) := rfl
theorem add_tt : oAdd (.tup l) (.tup m) Q = ((l ≠ [] ∧ m ≠ [] ∧ l.length + m.length ≤ 16777216) ∧ Q (.val (.tup (l ++ m)))) := rfl
theorem sub_ii : oSub (.int a) (.int b) Q = Q (.val (.int (a - b))) := rfl
theorem mul_ii : oMul (.int a) (.int b) Q = (Sz a b ∧ Q (.val (.int (a * b)))) := rfl
theorem div_ii : oDiv (.int a) (.int b) Q = (DivOk a b ∧ Q (.val (.int (a.fdiv b)))) := rfl
theorem mod_ii : oMod (.int a) (.int b) Q = (b ≠ 0 ∧ Q (.val (.int (a.fmod b)))) := rfl
theorem pow_ii : oPow (.int a) (.int b) Q = ((0 ≤ b ∧ b ≤ 1000000 ∧ a.natAbs < 2 ^ 64) ∧ Q (.val (.int (a ^ b.toNat)))) := rfl
theorem shl_ii : oShl (.int a) (.int b) Q = ((0 ≤ b ∧ (bits a : Int) + b ≤ 134217728) ∧ Q (.val (.int (a * 2 ^ b.toNat)))) := rfl
theorem cmp_ii {p : Int → Int → Bool} : oCmp p (.int a) (.int b) kb = kb (p a b) := rfl
theorem neg_i : oNeg (.int a) Q = Q (.val (.int (-a))) := rfl
theorem isB_bb : oIsB (.bl x) (.bl y) Q = Q (.val (.bl (decide (x = y)))) := rfl
theorem notB_bb : oNotB (.bl x) (.bl y) Q = Q (.val (.bl (!decide (x = y)))) := rfl
theorem len_t : fLen [.tup l] Q = Q (.val (.int l.length)) := rfl
theorem len_l : fLen [.lst l] Q = Q (.val (.int l.length)) := rfl
theorem abs_i : fAbs [.int a] Q = Q (.val (.int (a.natAbs : Int))) := rfl
theorem max_ii : fMax [.int a, .int b] Q = Q (.val (.int (if b > a then b else a))) := rfl
theorem min_ii : fMin [.int a, .int b] Q = Q (.val (.int (if b < a then b else a))) := rfl
theorem int_i : fInt [.int a] Q = Q (.val (.int a)) := rfl
theorem int_b : fInt [.bl x] Q = Q (.val (.int (if x then 1 else 0))) := rfl
theorem divmod_ii : fDivmod [.int a, .int b] Q = (DivOk a b ∧ Q (.val (.tup [.int (a.fdiv b), .int (a.fmod b)]))) := rfl
theorem rng1 : fRange [.int a] Q = ((-(2 ^ 62) ≤ a ∧ a < 2 ^ 62) ∧ Q (.val (.lst (rangeD 0 a)))) := rfl
theorem rng2 : fRange [.int a, .int b] Q = ((-(2 ^ 62) ≤ a ∧ a < 2 ^ 62 ∧ -(2 ^ 62) ≤ b ∧ b < 2 ^ 62) ∧ Q (.val (.lst (rangeD a b)))) := rfl
theorem ixT : oIx (.tup l) (.int a) Q = optD (ixI l a) fun d => Q (.val d) := rfl
theorem ixL : oIx (.lst l) (.int a) Q = optD (ixI l a) fun d => Q (.val d) := rfl
theorem ix0 : oIx (.tup (d :: l)) (.int 0) Q = Q (.val d) := rfl
theorem ix1 {f : D} : oIx (.tup (d :: e :: l)) (.int 1) Q = Q (.val e) := rfl
theorem ix2 {f : D} : oIx (.tup (d :: e :: f :: l)) (.int 2) Q = Q (.val f) := rfl
theorem ix3 {f g : D} : oIx (.tup (d :: e :: f :: g :: l)) (.int 3) Q = Q (.val g) := rfl
theorem iy0 : oIx (.lst (d :: l)) (.int 0) Q = Q (.val d) := rfl
theorem iy1 {f : D} : oIx (.lst (d :: e :: l)) (.int 1) Q = Q (.val e) := rfl
theorem iy2 {f : D} : oIx (.lst (d :: e :: f :: l)) (.int 2) Q = Q (.val f) := rfl
theorem iy3 {f g : D} : oIx (.lst (d :: e :: f :: g :: l)) (.int 3) Q = Q (.val g) := rfl
theorem eqL_c : eqL (d :: l) (e :: m) = (D.eq d e && eqL l m) := rfl
theorem eqL_n : eqL [] [] = true := rfl
theorem eq_ii : D.eq (.int a) (.int b) = (a == b) := rfl
theorem eq_tt : D.eq (.tup l) (.tup m) = eqL l m := rfl
theorem eq_ll : D.eq (.lst l) (.lst m) = eqL l m := rfl
theorem opt_some : optD (some d) k = k d := rfl
theorem isInt_i : (D.int a).isInt = true := rfl
theorem isInt_t : (D.tup l).isInt = false := rfl
theorem isInt_n : D.non.isInt = false := rfl
theorem isInt_b : (D.bl x).isInt = true := rfl
theorem isBool_i : (D.int a).isBool = false := rfl
theorem isBool_b : (D.bl x).isBool = true := rfl
theorem isTuple_t : (D.tup l).isTuple = true := rfl
theorem isTuple_i : (D.int a).isTuple = false := rfl
theorem isTuple_n : D.non.isTuple = false := rfl
theorem isList_l : (D.lst l).isList = true := rfl
theorem isList_t : (D.tup l).isList = false := rfl
theorem isStr_s : (D.str s).isStr = true := rfl
theorem plain_i : (D.int a).plain = true := rfl
theorem plain_t : (D.tup l).plain = true := rfl
theorem plain_l : (D.lst l).plain = true := rfl
theorem plain_b : (D.bl x).plain = true := rfl
theorem plain_n : D.non.plain = true := rfl
theorem plain_s : (D.str s).plain = true := rfl
theorem isNone_i : (D.int a).isNone = false := rfl
theorem isNone_t : (D.tup l).isNone = false := rfl
theorem isNone_n : D.non.isNone = true := rfl
theorem immI : (D.int a).imm = true := rfl
theorem immB : (D.bl x).imm = true := rfl
theorem immN : D.non.imm = true := rfl
theorem immS : (D.str s).imm = true := rfl
theorem immT : (D.tup l).imm = immL l := rfl
theorem immL_cons : immL (d :: l) = (d.imm && immL l) := rfl
theorem not_t : (!true) = false := rfl
theorem not_f : (!false) = true := rfl
theorem map_c : List.map Sl.val (d :: l) = Sl.val d :: List.map Sl.val l := rfl
theorem map_n : List.map Sl.val [] = [] := rfl
theorem vmap_c {s : Sl} {r : Env} : List.map Sl.view (s :: r) = s.view :: List.map Sl.view r := rfl
theorem vmap_n : List.map Sl.view [] = [] := rfl
theorem app_c {s t : Sl} {r r' : Env} : ((s :: r) ++ r' : Env) = s :: (r ++ r') := rfl
theorem app_n {r' : Env} : (([] : Env) ++ r') = r' := rfl
theorem rep_s {s : Sl} {n : Nat} : List.replicate (n + 1) s = s :: List.replicate n s := rfl
theorem rep_z {s : Sl} : List.replicate 0 s = [] := rfl
theorem get_z {s : Sl} {r : Env} : (s :: r)[0]? = some s := rfl
theorem get_s {s : Sl} {r : Env} {n : Nat} : (s :: r)[n + 1]? = r[n]? := rfl
theorem set_z {s t : Sl} {r : Env} : List.set (s :: r) 0 t = t :: r := rfl
theorem set_s {s t : Sl} {r : Env} {n : Nat} : List.set (s :: r) (n + 1) t = s :: List.set r n t := rfl
theorem leng_c {d : D} {l : List D} : (d :: l).length = l.length + 1 := rfl
theorem leng_n : ([] : List D).length = 0 := rfl
theorem told_val : (Sl.val d).told Q = Q (.val d) := rfl
theorem getD_some {s u : Sl} : (some s).getD u = s := rfl
theorem tupOf_t {n : Nat} {kl : List D → Prop} : tupOf n (.tup l) kl = (l.length = n ∧ kl l) := rfl
theorem lstOf_l {n : Nat} {kl : List D → Prop} : lstOf n (.lst l) kl = (l.length = n ∧ kl l) := rfl
theorem given_own : (Sl.own l).given Q = Q (.own l) := rfl
theorem given_ownd : (Sl.ownd ks vs).given Q = Q (.ownd ks vs) := rfl
theorem items_l {kl : List D → Prop} : itemsOf (.lst l) kl = kl l := rfl
theorem items_t {kl : List D → Prop} : itemsOf (.tup l) kl = kl l := rfl
theorem itemsL_l {kl : List D → Prop} : itemsL (.lst l) kl = (l.length ≤ 16777216 ∧ kl l) := rfl
theorem itemsL_t {kl : List D → Prop} : itemsL (.tup l) kl = (l.length ≤ 16777216 ∧ kl l) := rfl
theorem owned_own {kl : List D → Prop} : (Sl.own l).owned kl = kl l := rfl
theorem datum_val : (Sl.val d).datum k = k d := rfl
theorem asInt_i {ki : Int → Prop} : (D.int a).asInt ki = ki a := rfl
theorem asLst_l {kl : List D → Prop} : (D.lst l).asLst kl = kl l := rfl
theorem immL_nil : immL [] = true := rfl
theorem isx_n {p : Nat → Bool} : oIsX p .non Q = Q (.val (.bl false)) := rfl
theorem isx_o {p : Nat → Bool} {n : Nat} : oIsX p (.obj n l) Q = (n < 11 ∧ Q (.val (.bl (p n)))) := rfl
theorem xf_o {cs : List Nat} {i n : Nat} : oXf cs i (.obj n l) Q = (cs.contains n = true ∧ optD l[i]? fun d => Q (.val d)) := rfl
theorem meth_b {f g : DF} {k : DF → Prop} : methOf f g (.obj 12 l) k = k f := rfl
theorem meth_s {f g : DF} {k : DF → Prop} : methOf f g (.obj 13 l) k = k g := rfl
theorem fld0b : oFld 0 (.obj 12 (d :: l)) Q = Q (.val d) := rfl
theorem fld0s : oFld 0 (.obj 13 (d :: l)) Q = Q (.val d) := rfl
theorem fld1b : oFld 1 (.obj 12 (d :: e :: l)) Q = Q (.val e) := rfl
theorem fld1s : oFld 1 (.obj 13 (d :: e :: l)) Q = Q (.val e) := rfl
theorem gr2 {z : D} : oGround (.obj 12 (d :: e :: z :: l)) Q = Q (.val z) := rfl
theorem ws2 {z : D} : oWays (.obj 13 (d :: e :: z :: l)) Q = Q (.val z) := rfl
theorem iso_bb : oIsO 12 (.obj 12 l) Q = Q (.val (.bl true)) := rfl
theorem iso_bs : oIsO 13 (.obj 12 l) Q = Q (.val (.bl false)) := rfl
theorem iso_ba : oIsO 14 (.obj 12 l) Q = Q (.val (.bl true)) := rfl
theorem iso_sb : oIsO 12 (.obj 13 l) Q = Q (.val (.bl false)) := rfl
theorem iso_ss : oIsO 13 (.obj 13 l) Q = Q (.val (.bl true)) := rfl
theorem iso_sa : oIsO 14 (.obj 13 l) Q = Q (.val (.bl true)) := rfl
theorem mk_obj {c : Nat} {f1 f2 : DF} {X : DX} : mkObj c f1 f2 [d] Q X = f1 [d] (fun s => s.use fun m => f2 [d] (fun s' => s'.use fun g => Q (.val (.obj c [d, m, g]))) X) X := rfl
theorem xf0 {cs : List Nat} {n : Nat} : oXf cs 0 (.obj n (d :: l)) Q = (cs.contains n = true ∧ Q (.val d)) := rfl
theorem xf1 {cs : List Nat} {n : Nat} : oXf cs 1 (.obj n (d :: e :: l)) Q = (cs.contains n = true ∧ Q (.val e)) := rfl
theorem plain_o {n : Nat} : (D.obj n l).isNone = false := rfl
end
theorem bd_mul {x y : Int} {n m : Nat} (a : Bd x n) (b : Bd y m) : Bd (x * y) (n + m) := inferInstance
theorem bd_now {x : Int} {n m : Nat} [b : Bd x n] (h : Nat.ble n m = true) : Bd x m := bd_mono b (Nat.le_of_ble_eq_true h)
theorem bd_lit {x : Int} {n : Nat} (m : Nat) (h : x.natAbs < 2 ^ m) (hm : Nat.ble m n = true) : Bd x n := bd_mono ⟨h⟩ (Nat.le_of_ble_eq_true hm)
theorem bd_step1 {u b : Int} {n : Nat} (hb : Bd b n) (h : u.natAbs ≤ b.natAbs + 1) : Bd u (n + 1) := ⟨by
  have := hb.h
  rw [Nat.pow_succ]; omega⟩
theorem bd_step3 {v a b : Int} {n : Nat} (ha : Bd a n) (hb : Bd b n) (h : v.natAbs ≤ a.natAbs + 2 * b.natAbs + 1) : Bd v (n + 3) := ⟨by
  have := ha.h
  have := hb.h
  rw [Nat.pow_succ, Nat.pow_succ, Nat.pow_succ]; omega⟩
theorem mem_rangeD {lo hi : Int} {d : D} (h : d ∈ rangeD lo hi) : ∃ k : Int, d = .int k ∧ lo ≤ k ∧ k < hi := by
  unfold rangeD at h
  obtain ⟨i, hi', rfl⟩ := List.mem_map.mp h
  have := List.mem_range.mp hi'
  exact ⟨_, rfl, by omega, by omega⟩
theorem opt_at {o : Option D} {d : D} {k : D → Prop} (e : o = some d) (h : k d) : optD o k := by rw [e]; exact h
theorem ixNat {l : List D} {n : Nat} {d : D} {i : Int} (e : i = n) (h : l[n]? = some d) : ixI l i = some d := by subst e; exact h
theorem ixInt {ns : List Int} {i : Int} (h0 : 0 ≤ i) (h : i < ns.length) : ixI (ns.map D.int) i = some (.int (ns[i.toNat]'(by omega))) := by
  refine ixNat (n := i.toNat) (by omega) ?_
  rw [List.getElem?_map, List.getElem?_eq_getElem (by omega)]
  rfl
theorem ixLast {l : List D} {d : D} : ixI (l ++ [d]) (-1) = some d := by
  show (match (l ++ [d]).length - 0 with | 0 => none | m + 1 => (l ++ [d])[m]?) = some d
  rw [List.length_append]
  show (l ++ [d])[l.length]? = some d
  simp
theorem szB {i j : Int} {n m : Nat} (a : Bd i n) (b : Bd j m) (h : n + m ≤ 134217728) : Sz i j := @sz i j n m a b (Nat.ble_eq_true_of_le h)
theorem bd0 : Bd 0 1 := ⟨by decide⟩
theorem bd1 : Bd 1 1 := ⟨by decide⟩
theorem bd2 : Bd 2 2 := ⟨by decide⟩
theorem bd3 : Bd 3 2 := ⟨by decide⟩
theorem bd4 : Bd 4 3 := ⟨by decide⟩
theorem bd_add {x y : Int} {n : Nat} (a : Bd x n) (b : Bd y n) : Bd (x + y) (n + 1) := ⟨by
  have := a.h
  have := b.h
  rw [Nat.pow_succ]; omega⟩
theorem bd_sub {x y : Int} {n : Nat} (a : Bd x n) (b : Bd y n) : Bd (x - y) (n + 1) := ⟨by
  have := a.h
  have := b.h
  rw [Nat.pow_succ]; omega⟩
theorem bd_neg {x : Int} {n : Nat} (a : Bd x n) : Bd (-x) n := ⟨by
  have := a.h
  omega⟩
theorem bd_up {x : Int} {n : Nat} (m : Nat) (b : Bd x n) (h : n ≤ m := by omega) : Bd x m := bd_mono b h
theorem bd_at {x : Int} (n : Nat) (h : x.natAbs < 2 ^ n) : Bd x n := ⟨h⟩
theorem every_g {i : Nat} {tb : DS} {n : Env → Prop} {q : DK} {x : Exn → Env → Prop} (I : List D → Env → Prop) (he : ∀ r, I [] r → n r)
    (hs : ∀ d ds r (G : Env → Prop), I (d :: ds) r → (∀ r', I ds r' → G r') → tb G q n G x (r.set i (.val d))) (l : List D) (r : Env) (h : I l r) : dEvery i tb n q x l r :=
  every_ind I he (fun d ds r hI ih => hs d ds r _ hI ih) l r h
theorem while_g {tc : DE} {tb : DS} {n b c : Env → Prop} {q : DK} {x : Exn → Env → Prop} {r : Env} (I : Env → Nat → Prop) (m0 : Nat) (h0 : I r m0)
    (hs : ∀ r m (G : Env → Prop), I r m → (∀ r' m', m' < m → I r' m' → G r') → tc r (fun s => s.bool fun k => two k (tb G q n G x r) (n r)) fun e => x e r) : dWhile tc tb n q b c x r :=
  while_of I m0 h0 fun r m h => hs r m _ h fun r' m' hm hI => ⟨m', hm, hI⟩
theorem bNe_bb {x y : Bool} {k : Bool → Prop} (e : x = y) (h : k false) : bNe (.bl x) (.bl y) k := by
  subst e
  exact ⟨rfl, by rw [show D.eq (.bl x) (.bl x) = (x == x) from rfl, beq_self_eq_true]; exact h⟩
theorem each_any {f : D → (Option D → Prop) → Prop} (P : D → Prop) : ∀ (l : List D) (_ : ∀ d ∈ l, ∀ k : Option D → Prop, (∀ y, P y → k (some y)) → k none → f d k) (Q : List D → Prop) (_ : ∀ ys, (∀ y ∈ ys, P y) → ys.length ≤ l.length → Q ys), dEach f l Q
  | [], _, Q, q => q [] (fun y h => absurd h List.not_mem_nil) (Nat.le_refl _)
  | d :: l, hf, Q, q => hf d List.mem_cons_self _ (fun y hy => each_any P l (fun e he => hf e (List.mem_cons_of_mem _ he)) _ fun ys h1 h2 => q (y :: ys) (fun z hz => by
      rcases List.mem_cons.mp hz with rfl | hz
      · exact hy
      · exact h1 z hz) (Nat.succ_le_succ h2)) (each_any P l (fun e he => hf e (List.mem_cons_of_mem _ he)) _ fun ys h1 h2 => q ys h1 (Nat.le_trans h2 (Nat.le_succ _)))
theorem eqL_ints : ∀ l : List Int, eqL (l.map D.int) (l.map D.int) = true
  | [] => rfl
  | a :: l => by
    show (a == a && eqL (l.map D.int) (l.map D.int)) = true
    rw [eqL_ints l, beq_self_eq_true]; rfl
theorem datL_ints (n : Nat) : ∀ l : List Int, datL n (l.map D.int) = true
  | [] => rfl
  | a :: l => by
    show ((D.int a).dat n && datL n (l.map D.int)) = true
    rw [datL_ints n l]
    cases n <;> rfl
theorem bNe_ints (l : List Int) {k : Bool → Prop} (h : k false) : bNe (.tup (l.map D.int)) (.tup (l.map D.int)) k := by
  refine ⟨?_, ?_⟩
  · show (datL 29 _ && datL 29 _) = true
    rw [datL_ints]; rfl
  · show k (!eqL _ _)
    rw [eqL_ints]; exact h
theorem bEq_ints (l : List Int) {k : Bool → Prop} (h : k true) : bEq (.tup (l.map D.int)) (.tup (l.map D.int)) k := by
  refine ⟨?_, ?_⟩
  · show (datL 29 _ && datL 29 _) = true
    rw [datL_ints]; rfl
  · show k (eqL _ _)
    rw [eqL_ints]; exact h
theorem bNe2 {a b a' b' : Int} {k : Bool → Prop} (e1 : a = a') (e2 : b = b') (h : k false) : bNe (.tup [.int a, .int b]) (.tup [.int a', .int b']) k := by
  subst e1 e2; exact bNe_ints [a, b] h
theorem bNe3 {a b c a' b' c' : Int} {k : Bool → Prop} (e1 : a = a') (e2 : b = b') (e3 : c = c') (h : k false) : bNe (.tup [.int a, .int b, .int c]) (.tup [.int a', .int b', .int c']) k := by
  subst e1 e2 e3; exact bNe_ints [a, b, c] h
theorem bNe4 {a b c d a' b' c' d' : Int} {k : Bool → Prop} (e1 : a = a') (e2 : b = b') (e3 : c = c') (e4 : d = d') (h : k false) : bNe (.tup [.int a, .int b, .int c, .int d]) (.tup [.int a', .int b', .int c', .int d']) k := by
  subst e1 e2 e3 e4; exact bNe_ints [a, b, c, d] h
theorem bEq2 {a b a' b' : Int} {k : Bool → Prop} (e1 : a = a') (e2 : b = b') (h : k true) : bEq (.tup [.int a, .int b]) (.tup [.int a', .int b']) k := by
  subst e1 e2; exact bEq_ints [a, b] h
theorem bEq3 {a b c a' b' c' : Int} {k : Bool → Prop} (e1 : a = a') (e2 : b = b') (e3 : c = c') (h : k true) : bEq (.tup [.int a, .int b, .int c]) (.tup [.int a', .int b', .int c']) k := by
  subst e1 e2 e3; exact bEq_ints [a, b, c] h
theorem bEq4 {a b c d a' b' c' d' : Int} {k : Bool → Prop} (e1 : a = a') (e2 : b = b') (e3 : c = c') (e4 : d = d') (h : k true) : bEq (.tup [.int a, .int b, .int c, .int d]) (.tup [.int a', .int b', .int c', .int d']) k := by
  subst e1 e2 e3 e4; exact bEq_ints [a, b, c, d] h
theorem bd_mul2 {x y : Int} {n m k : Nat} (a : Bd x n) (b : Bd y m) (h : n + m ≤ k := by omega) : Bd (x * y) k := bd_mono (bd_mul a b) h
theorem bd_add2 {x y : Int} {n m k : Nat} (a : Bd x n) (b : Bd y m) (h : n + 1 ≤ k ∧ m + 1 ≤ k := by omega) : Bd (x + y) k := bd_mono (bd_add (bd_mono a (Nat.le_max_left n m)) (bd_mono b (Nat.le_max_right n m))) (by omega)
theorem bd_sub2 {x y : Int} {n m k : Nat} (a : Bd x n) (b : Bd y m) (h : n + 1 ≤ k ∧ m + 1 ≤ k := by omega) : Bd (x - y) k := bd_mono (bd_sub (bd_mono a (Nat.le_max_left n m)) (bd_mono b (Nat.le_max_right n m))) (by omega)
theorem rng_len (lo hi : Int) : (rangeD lo hi).length = (hi - lo).toNat := by unfold rangeD; rw [List.length_map, List.length_range]
theorem fun_mk {np n : Nat} {t : DS} {ds : List D} {Q : DK} {X : DX} (h : ds.length = np ∧ t (fun _ => Q (.val .non)) Q (fun _ => False) (fun _ => False) (fun x _ => X x) (ds.map Sl.val ++ List.replicate (n - np) .un)) : dFun np n t ds Q X := ⟨h.1, h.2⟩
theorem bNe_str {s : List Nat} {k : Bool → Prop} (hs : (s.all fun c => decide (c < 1114112)) = true) (h : k false) : bNe (.str s) (.str s) k := by
  refine ⟨?_, ?_⟩
  · show ((s.all fun c => decide (c < 1114112)) && (s.all fun c => decide (c < 1114112))) = true
    rw [hs]; rfl
  · show k (!(s == s))
    rw [beq_self_eq_true]; exact h
theorem cut3 (ns : List Int) (m : Nat) (h : m + 3 ≤ ns.length) (lo hi : Int) (hlo : lo = m) (hhi : hi = m + 3) : ∃ x y z : Int, cutD (ns.map D.int) (some lo) (some hi) = [.int x, .int y, .int z] := by
  subst hlo hhi
  have e : cutD (ns.map D.int) (some (m : Int)) (some ((m : Int) + 3)) = ((ns.drop m).take 3).map D.int := by
    unfold cutD sIx
    dsimp only
    rw [if_neg (by omega), if_neg (by omega), List.length_map, List.map_take, List.map_drop]
    have e1 : (m : Int).toNat = m := by omega
    have e2 : ((m : Int) + 3).toNat = m + 3 := by omega
    rw [e1, e2, Nat.min_eq_left h, Nat.min_eq_left (show m ≤ ns.length by omega)]
    have e3 : m + 3 - m = 3 := by omega
    rw [e3]
  rw [e]
  have hl : 3 ≤ (ns.drop m).length := by rw [List.length_drop]; omega
  match ns.drop m, hl with
  | x :: y :: z :: l, _ => exact ⟨x, y, z, rfl⟩
theorem szR {i j : Int} (h : decide (bits j ≤ 64) = true) : Sz i j := .inr (.inl (of_decide_eq_true h))
theorem szL {i j : Int} (h : decide (bits i ≤ 64) = true) : Sz i j := .inl (of_decide_eq_true h)
/-- a cell's size -/
theorem cell_bits {ns : List Int} (hb : ∀ z ∈ ns, bits z ≤ 1048576) (k : Nat) : Bd (ns.getD k 0) 1048576 := by
  have h : bits (ns.getD k 0) ≤ 1048576 := by
    rw [List.getD_eq_getElem?_getD]
    by_cases hk : k < ns.length
    · rw [List.getElem?_eq_getElem hk]
      exact hb _ (List.getElem_mem hk)
    · rw [List.getElem?_eq_none (by omega)]
      decide
  exact bd_of_bits h
end DL

/- DLt -/
namespace DL
inductive Out (β : Type) where
  | no | val (b : β) | exc (e : Exn)
def Out.sat {β : Type} : Out β → (β → Prop) → DX → Prop
  | .no, _, _ => False
  | .val b, Q, _ => Q b
  | .exc e, _, X => X e
abbrev Has {β : Type} (T : (β → Prop) → DX → Prop) : Prop := ∃ o : Out β, ∀ Q X, T Q X ↔ o.sat Q X
class DetG {β : Type} (t : Env → (β → Prop) → DX → Prop) : Prop where
  h : ∀ r, Has (t r)
class DetF (f : DF) : Prop where
  h : ∀ ds, Has (f ds)
class Det1 {α β : Type} (f : α → (β → Prop) → Prop) : Prop where
  h : ∀ x, Has fun Q (_ : DX) => f x Q
class Det2 {β : Type} (f : D → D → (β → Prop) → Prop) : Prop where
  h : ∀ x y, Has fun Q (_ : DX) => f x y Q
section
variable {β γ : Type}
theorem has_no {T : (β → Prop) → DX → Prop} (h : ∀ Q X, ¬ T Q X) : Has T := ⟨.no, fun Q X => ⟨fun z => h Q X z, fun z => z.elim⟩⟩
theorem has_val (b : β) : Has fun Q (_ : DX) => Q b := ⟨.val b, fun _ _ => Iff.rfl⟩
theorem has_false : Has fun (_ : β → Prop) (_ : DX) => False := ⟨.no, fun _ _ => Iff.rfl⟩
theorem has_if {P : Prop} {T : (β → Prop) → DX → Prop} (h : Has T) : Has fun Q X => P ∧ T Q X := by
  classical
  by_cases p : P
  · obtain ⟨o, h⟩ := h
    exact ⟨o, fun Q X => ⟨fun z => (h Q X).mp z.2, fun z => ⟨p, (h Q X).mpr z⟩⟩⟩
  · exact has_no fun Q X z => p z.1
theorem has_of {T : (β → Prop) → DX → Prop} (h : ∀ Q X, T Q X → ∃ b, ∀ Q' X', T Q' X' ↔ Q' b) : Has T := by
  classical
  by_cases c : ∃ Q X, T Q X
  · obtain ⟨Q, X, z⟩ := c
    obtain ⟨b, hb⟩ := h Q X z
    exact ⟨.val b, hb⟩
  · exact has_no fun Q X z => c ⟨Q, X, z⟩
theorem has_bind {T : (β → Prop) → DX → Prop} {g : β → (γ → Prop) → DX → Prop} (h : Has T) (hg : ∀ b, Has (g b)) : Has fun Q X => T (fun b => g b Q X) X := by
  obtain ⟨o, ho⟩ := h
  cases o with
  | no => exact ⟨.no, fun Q X => ho _ _⟩
  | val b => obtain ⟨o', h'⟩ := hg b; exact ⟨o', fun Q X => (ho _ _).trans (h' Q X)⟩
  | exc e => exact ⟨.exc e, fun Q X => ho _ _⟩
/-- what comes, where nothing may be let out -/
theorem has_bind0 {T : (β → Prop) → DX → Prop} {g : β → (γ → Prop) → Prop} (h : Has T) (hg : ∀ b, Has fun Q (_ : DX) => g b Q) : Has fun Q (_ : DX) => T (fun b => g b Q) fun _ => False := by
  obtain ⟨o, ho⟩ := h
  cases o with
  | no => exact ⟨.no, fun Q X => ho _ _⟩
  | val b => obtain ⟨o', h'⟩ := hg b; exact ⟨o', fun Q X => (ho _ _).trans (h' Q X)⟩
  | exc e => exact ⟨.no, fun Q X => ho _ _⟩
theorem has_use (s : Sl) : Has fun (k : D → Prop) (_ : DX) => s.use k := by cases s <;> first | exact has_val _ | exact has_false
theorem has_told (s : Sl) : Has fun (k : DK) (_ : DX) => s.told k := by cases s <;> first | exact has_val _ | exact has_false
theorem has_given (s : Sl) : Has fun (k : DK) (_ : DX) => s.given k := by cases s <;> first | exact has_val _ | exact has_false
theorem has_bool (s : Sl) : Has fun (k : Bool → Prop) (_ : DX) => s.bool k := by
  cases s with
  | val d => cases d <;> first | exact has_val _ | exact has_false
  | _ => exact has_false
theorem has_owned (s : Sl) : Has fun (k : List D → Prop) (_ : DX) => s.owned k := by cases s <;> first | exact has_val _ | exact has_false
theorem has_datum (s : Sl) : Has fun (k : D → Prop) (_ : DX) => s.datum k := by cases s <;> first | exact has_val _ | exact has_false
theorem has_asInt (d : D) : Has fun (k : Int → Prop) (_ : DX) => d.asInt k := by cases d <;> first | exact has_val _ | exact has_false
theorem has_asLst (d : D) : Has fun (k : List D → Prop) (_ : DX) => d.asLst k := by cases d <;> first | exact has_val _ | exact has_false
theorem has_optD (o : Option D) : Has fun (k : D → Prop) (_ : DX) => optD o k := by cases o <;> first | exact has_val _ | exact has_false
theorem has_optN (o : Option Nat) : Has fun (k : Nat → Prop) (_ : DX) => optN o k := by cases o <;> first | exact has_val _ | exact has_false
theorem has_two {b : Bool} {A B : (β → Prop) → DX → Prop} (ha : Has A) (hb : Has B) : Has fun Q X => two b (A Q X) (B Q X) := by cases b <;> assumption
theorem has_one1 (l : List D) : Has fun (k : D → Prop) (_ : DX) => one1 l k := by
  match l with
  | [] => exact has_false
  | [_] => exact has_val _
  | _ :: _ :: _ => exact has_false
theorem has_tupOf (n : Nat) (d : D) : Has fun (k : List D → Prop) (_ : DX) => tupOf n d k := by
  cases d <;> first | exact has_if (has_val _) | exact has_false
theorem has_lstOf (n : Nat) (d : D) : Has fun (k : List D → Prop) (_ : DX) => lstOf n d k := by
  cases d <;> first | exact has_if (has_val _) | exact has_false
theorem has_itemsOf (d : D) : Has fun (k : List D → Prop) (_ : DX) => itemsOf d k := by cases d <;> first | exact has_val _ | exact has_false
theorem has_itemsL (d : D) : Has fun (k : List D → Prop) (_ : DX) => itemsL d k := by
  cases d <;> first | exact has_if (has_val _) | exact has_false
end
section
variable {ta tb tc td : DE} {ts : DA} {tl th : DO}
instance {d : D} : DetG (dC d) := ⟨fun _ => has_val _⟩
instance {i : Nat} : DetG (dVar i) := ⟨fun r => has_told _⟩
instance : DetG dYes := ⟨fun _ => has_val _⟩
instance [a : DetG ta] : DetG (dView ta) := ⟨fun r => by
  classical
  obtain ⟨o, h⟩ := a.h (view r)
  cases o with
  | no => exact ⟨.no, fun Q X => h _ _⟩
  | val s =>
    by_cases c : s.imm = true
    · exact ⟨.val s, fun Q X => (h _ _).trans ⟨fun z => z.2, fun z => ⟨c, z⟩⟩⟩
    · exact ⟨.no, fun Q X => (h _ _).trans ⟨fun z => c z.1, fun z => z.elim⟩⟩
  | exc e =>
    by_cases c : immL e.fs = true
    · exact ⟨.exc e, fun Q X => (h _ _).trans ⟨fun z => z.2, fun z => ⟨c, z⟩⟩⟩
    · exact ⟨.no, fun Q X => (h _ _).trans ⟨fun z => c z.1, fun z => z.elim⟩⟩⟩
instance [a : DetG ta] : DetG (dViewT ta) := ⟨fun r => by
  classical
  obtain ⟨o, h⟩ := a.h (view r)
  cases o with
  | no => exact ⟨.no, fun Q X => h _ _⟩
  | val s => exact ⟨.val s, fun Q X => h _ _⟩
  | exc e =>
    by_cases c : immL e.fs = true
    · exact ⟨.exc e, fun Q X => (h _ _).trans ⟨fun z => z.2, fun z => ⟨c, z⟩⟩⟩
    · exact ⟨.no, fun Q X => (h _ _).trans ⟨fun z => c z.1, fun z => z.elim⟩⟩⟩
instance {f : D → D → DK → Prop} [k : Det2 f] [a : DetG ta] [b : DetG tb] : DetG (dOp f ta tb) := ⟨fun r => has_bind (T := ta r) (a.h r) fun s => has_bind (has_use s) fun x => has_bind (b.h r) fun s' => has_bind (has_use s') fun y => k.h x y⟩
instance {f : D → DK → Prop} [k : Det1 f] [a : DetG ta] : DetG (dUn f ta) := ⟨fun r => has_bind (T := ta r) (a.h r) fun s => has_bind (has_use s) fun x => k.h x⟩
instance {f : List D → DK → Prop} [k : Det1 f] [a : DetG ts] : DetG (dAs f ts) := ⟨fun r => has_bind (T := ts r) (a.h r) fun xs => k.h xs⟩
instance : DetG dNil := ⟨fun _ => has_val _⟩
instance [a : DetG ta] [b : DetG ts] : DetG (dCons ta ts) := ⟨fun r => has_bind (T := ta r) (a.h r) fun s => has_bind (has_use s) fun x => has_bind (b.h r) fun xs => has_val _⟩
instance [a : DetG ta] [b : DetG tb] : DetG (dAnd ta tb) := ⟨fun r => has_bind (T := ta r) (a.h r) fun s => has_bind (has_bool s) fun k => has_two (b.h r) (has_val _)⟩
instance [a : DetG ta] [b : DetG tb] : DetG (dOr ta tb) := ⟨fun r => has_bind (T := ta r) (a.h r) fun s => has_bind (has_bool s) fun k => has_two (has_val _) (b.h r)⟩
instance [a : DetG ta] : DetG (dNot ta) := ⟨fun r => has_bind (T := ta r) (a.h r) fun s => has_bind (has_bool s) fun k => has_val _⟩
instance [c : DetG tc] [a : DetG ta] [b : DetG tb] : DetG (dIte tc ta tb) := ⟨fun r => has_bind (T := tc r) (c.h r) fun s => has_bind (has_bool s) fun k => has_two (a.h r) (b.h r)⟩
instance : Det1 (fun (xs : List D) (Q : DK) => Q (.val (.tup xs))) := ⟨fun _ => has_val _⟩
instance : Det1 (fun (xs : List D) (Q : DK) => Q (.own xs)) := ⟨fun _ => has_val _⟩
instance [a : DetG ts] : DetG (dTup ts) := ⟨fun r => has_bind (T := ts r) (a.h r) fun xs => has_val _⟩
instance [a : DetG ts] : DetG (dLst ts) := ⟨fun r => has_bind (T := ts r) (a.h r) fun xs => has_val _⟩
instance {f : DF} [k : DetF f] [a : DetG ts] : DetG (dCall f ts) := ⟨fun r => has_bind (T := ts r) (a.h r) fun xs => k.h xs⟩
instance {i j : Nat} {f : DF} [k : DetF f] [a : DetG ts] : DetG (dCallV i j f ts) := ⟨fun r => has_if (has_bind (a.h r) fun xs => k.h xs)⟩
instance : DetG dNewD := ⟨fun _ => has_val _⟩
instance {f g : D → D → (Bool → Prop) → Prop} [k : Det2 f] [l : Det2 g] [a : DetG ta] [b : DetG tb] [c : DetG tc] : DetG (dChain f g ta tb tc) :=
  ⟨fun r => has_bind (T := ta r) (a.h r) fun s => has_bind (has_use s) fun x => has_bind (b.h r) fun s' => has_bind (has_use s') fun y => has_bind (k.h x y) fun p => has_two (has_bind (c.h r) fun s'' => has_bind (has_use s'') fun z => has_bind (l.h y z) fun q => has_val _) (has_val _)⟩
instance {f g e : D → D → (Bool → Prop) → Prop} [k : Det2 f] [l : Det2 g] [m : Det2 e] [a : DetG ta] [b : DetG tb] [c : DetG tc] [d : DetG td] : DetG (dChain3 f g e ta tb tc td) :=
  ⟨fun r => has_bind (T := ta r) (a.h r) fun s => has_bind (has_use s) fun x => has_bind (b.h r) fun s' => has_bind (has_use s') fun y => has_bind (k.h x y) fun p => has_two (has_bind (c.h r) fun s'' => has_bind (has_use s'') fun z => has_bind (l.h y z) fun q => has_two (has_bind (d.h r) fun s3 => has_bind (has_use s3) fun w => has_bind (m.h z w) fun _ => has_val _) (has_val _)) (has_val _)⟩
instance : DetG dNoPart := ⟨fun _ => has_val _⟩
instance [a : DetG ta] : DetG (dPart ta) := ⟨fun r => has_bind (T := ta r) (a.h r) fun s => has_bind (has_use s) fun d => has_bind (has_asInt d) fun i => has_val _⟩
instance [a : DetG ta] [b : DetG tl] [c : DetG th] : DetG (dSl ta tl th) := ⟨fun r => has_bind (T := ta r) (a.h r) fun s => has_bind (has_use s) fun d => has_bind (b.h r) fun lo => has_bind (c.h r) fun hi => has_bind (has_asLst d) fun l => has_val _⟩
instance [a : DetG ta] [b : DetG ts] : DetG (dIndex ta ts) := ⟨fun r => has_bind (T := ta r) (a.h r) fun s => has_bind (has_use s) fun x => has_bind (has_asLst x) fun l => has_bind (b.h r) fun xs => has_bind (has_one1 xs) fun y => has_if (has_bind (has_optN _) fun j => has_val _)⟩
theorem has_each {f : D → (Option D → Prop) → Prop} (h : ∀ x, Has fun Q (_ : DX) => f x Q) : ∀ l, Has fun Q (_ : DX) => dEach f l Q
  | [] => has_val _
  | x :: xs => has_bind (T := fun Q (_ : DX) => f x Q) (h x) fun o => has_bind (T := fun Q (_ : DX) => dEach f xs Q) (has_each h xs) fun ys => has_val _
theorem has_oneLc {i : Nat} [a : DetG tb] [b : DetG tc] (r : Env) (x : D) : Has fun Q (_ : DX) => oneLc i tb tc r x Q :=
  has_bind0 (a.h _) fun s => has_bind (T := fun k (_ : DX) => s.bool k) (has_bool s) fun b' => has_two (has_bind0 (b.h _) fun s' => has_bind (T := fun k (_ : DX) => s'.use k) (has_use s') fun y => has_val _) (has_val _)
instance {i : Nat} [w : DetG ta] [a : DetG tb] [b : DetG tc] : DetG (dLc i ta tb tc) := ⟨fun r => has_bind (T := ta r) (w.h r) fun s => has_bind (has_use s) fun d => has_bind (has_itemsL d) fun l => has_bind (T := fun Q (_ : DX) => dEach (oneLc i tb tc r) l Q) (has_each (has_oneLc r) l) fun ys => has_val _⟩
end
instance : Det2 oAdd := ⟨by (intro x y; cases x <;> cases y <;> first | exact has_val _ | exact has_false | exact has_if (has_val _))⟩
instance : Det2 oSub := ⟨by (intro x y; cases x <;> cases y <;> first | exact has_val _ | exact has_false | exact has_if (has_val _))⟩
instance : Det2 oMul := ⟨by (intro x y; cases x <;> cases y <;> first | exact has_val _ | exact has_false | exact has_if (has_val _))⟩
instance : Det2 oDiv := ⟨by (intro x y; cases x <;> cases y <;> first | exact has_val _ | exact has_false | exact has_if (has_val _))⟩
instance : Det2 oMod := ⟨by (intro x y; cases x <;> cases y <;> first | exact has_val _ | exact has_false | exact has_if (has_val _))⟩
instance : Det2 oPow := ⟨by (intro x y; cases x <;> cases y <;> first | exact has_val _ | exact has_false | exact has_if (has_val _))⟩
instance : Det2 oShl := ⟨by (intro x y; cases x <;> cases y <;> first | exact has_val _ | exact has_false | exact has_if (has_val _))⟩
instance : Det2 iAdd := ⟨by (intro x y; cases x <;> cases y <;> first | exact has_val _ | exact has_false | exact has_if (has_val _))⟩
instance {p : Int → Int → Bool} : Det2 (oCmp p) := ⟨by (intro x y; cases x <;> cases y <;> first | exact has_val _ | exact has_false | exact has_if (has_val _))⟩
instance {f : D → D → (Bool → Prop) → Prop} [k : Det2 f] : Det2 (cB f) := ⟨fun x y => has_bind (T := fun Q (_ : DX) => f x y Q) (k.h x y) fun b => has_val _⟩
instance : Det2 bEq := ⟨by (intro x y; cases x <;> cases y <;> first | exact has_val _ | exact has_false | exact has_if (has_val _))⟩
instance : Det2 bNe := ⟨by (intro x y; cases x <;> cases y <;> first | exact has_val _ | exact has_false | exact has_if (has_val _))⟩
instance : Det2 oIsB := ⟨by (intro x y; cases x <;> cases y <;> first | exact has_val _ | exact has_false | exact has_if (has_val _))⟩
instance : Det2 oNotB := ⟨by (intro x y; cases x <;> cases y <;> first | exact has_val _ | exact has_false | exact has_if (has_val _))⟩
instance : Det2 oIx := ⟨fun x y => by
  cases x <;> cases y <;> first | exact has_bind (has_optD _) fun d => has_val _ | exact has_false⟩
instance : Det2 oDIx := ⟨fun x y => by
  cases x <;> first | exact has_if (has_bind (has_optD _) fun d => has_val _) | exact has_bind (has_optD _) fun d => has_val _ | exact has_false⟩
instance : Det2 bIn := ⟨fun x y => by cases y <;> first | exact has_if (has_val _) | (cases x <;> exact has_false)⟩
instance : Det2 bNotIn := ⟨fun x y => by cases y <;> first | exact has_if (has_val _) | (cases x <;> exact has_false)⟩
instance : Det2 bDIn := ⟨fun x y => by cases y <;> first | exact has_if (has_val _) | (cases x <;> exact has_false)⟩
instance : Det2 bDNotIn := ⟨fun x y => by cases y <;> first | exact has_if (has_val _) | (cases x <;> exact has_false)⟩
instance : Det2 bLtT := ⟨by (intro x y; cases x <;> cases y <;> first | exact has_val _ | exact has_false | exact has_if (has_val _))⟩
instance : Det1 oNeg := ⟨by (intro x; cases x <;> first | exact has_val _ | exact has_false | exact has_if (has_val _))⟩
instance : Det1 oIsN := ⟨fun x => has_val _⟩
instance : Det1 oNotN := ⟨fun x => has_val _⟩
instance : Det1 oBits := ⟨by (intro x; cases x <;> first | exact has_val _ | exact has_false | exact has_if (has_val _))⟩
instance {p : D → Bool} : Det1 (oIsi p) := ⟨fun x => has_if (has_val _)⟩
instance {p : Nat → Bool} : Det1 (oIsX p) := ⟨by (intro x; cases x <;> first | exact has_val _ | exact has_false | exact has_if (has_val _))⟩
instance {cs : List Nat} {i : Nat} : Det1 (oXf cs i) := ⟨fun x => by cases x <;> first | exact has_if (has_bind (has_optD _) fun d => has_val _) | exact has_false⟩
theorem hb_optD {o : Option D} {Q : DK} (h : optD o fun d => Q (.val d)) : ∃ d, ∀ Q' : DK, (optD o fun d => Q' (.val d)) ↔ Q' d := by
  cases o with
  | none => exact h.elim
  | some d => exact ⟨.val d, fun _ => Iff.rfl⟩
instance {i : Nat} : Det1 (oFld i) := ⟨fun x => has_of fun Q X z => by
  unfold oFld at z
  split at z <;> first | exact z.elim | (obtain ⟨d, hd⟩ := hb_optD z; exact ⟨d, fun Q' _ => hd Q'⟩)⟩
instance : Det1 oGround := ⟨fun x => has_of fun Q X z => by
  unfold oGround at z
  split at z <;> first | exact z.elim | (obtain ⟨d, hd⟩ := hb_optD z; exact ⟨d, fun Q' _ => hd Q'⟩)⟩
instance : Det1 oWays := ⟨fun x => has_of fun Q X z => by
  unfold oWays at z
  split at z <;> first | exact z.elim | (obtain ⟨d, hd⟩ := hb_optD z; exact ⟨d, fun Q' _ => hd Q'⟩)⟩
instance {j : Nat} : Det1 (oIsO j) := ⟨fun x => has_of fun Q X z => by
  unfold oIsO at z
  split at z <;> first | exact z.elim | exact ⟨_, fun _ _ => Iff.rfl⟩⟩
instance : Det1 fLen := ⟨by (intro x; refine has_of fun Q X z => ?_; unfold fLen at z; split at z <;> first | exact z.elim | exact ⟨_, fun _ _ => Iff.rfl⟩ | exact ⟨_, fun _ _ => ⟨fun y => y.2, fun q => ⟨z.1, q⟩⟩⟩ | exact ⟨_, fun _ _ => ⟨fun y => y.2.2, fun q => ⟨z.1, z.2.1, q⟩⟩⟩)⟩
instance : Det1 fAbs := ⟨by (intro x; refine has_of fun Q X z => ?_; unfold fAbs at z; split at z <;> first | exact z.elim | exact ⟨_, fun _ _ => Iff.rfl⟩ | exact ⟨_, fun _ _ => ⟨fun y => y.2, fun q => ⟨z.1, q⟩⟩⟩ | exact ⟨_, fun _ _ => ⟨fun y => y.2.2, fun q => ⟨z.1, z.2.1, q⟩⟩⟩)⟩
instance : Det1 fMax := ⟨by (intro x; refine has_of fun Q X z => ?_; unfold fMax at z; split at z <;> first | exact z.elim | exact ⟨_, fun _ _ => Iff.rfl⟩ | exact ⟨_, fun _ _ => ⟨fun y => y.2, fun q => ⟨z.1, q⟩⟩⟩ | exact ⟨_, fun _ _ => ⟨fun y => y.2.2, fun q => ⟨z.1, z.2.1, q⟩⟩⟩)⟩
instance : Det1 fMin := ⟨by (intro x; refine has_of fun Q X z => ?_; unfold fMin at z; split at z <;> first | exact z.elim | exact ⟨_, fun _ _ => Iff.rfl⟩ | exact ⟨_, fun _ _ => ⟨fun y => y.2, fun q => ⟨z.1, q⟩⟩⟩ | exact ⟨_, fun _ _ => ⟨fun y => y.2.2, fun q => ⟨z.1, z.2.1, q⟩⟩⟩)⟩
instance : Det1 fInt := ⟨by (intro x; refine has_of fun Q X z => ?_; unfold fInt at z; split at z <;> first | exact z.elim | exact ⟨_, fun _ _ => Iff.rfl⟩ | exact ⟨_, fun _ _ => ⟨fun y => y.2, fun q => ⟨z.1, q⟩⟩⟩ | exact ⟨_, fun _ _ => ⟨fun y => y.2.2, fun q => ⟨z.1, z.2.1, q⟩⟩⟩)⟩
instance : Det1 fDivmod := ⟨by (intro x; refine has_of fun Q X z => ?_; unfold fDivmod at z; split at z <;> first | exact z.elim | exact ⟨_, fun _ _ => Iff.rfl⟩ | exact ⟨_, fun _ _ => ⟨fun y => y.2, fun q => ⟨z.1, q⟩⟩⟩ | exact ⟨_, fun _ _ => ⟨fun y => y.2.2, fun q => ⟨z.1, z.2.1, q⟩⟩⟩)⟩
instance : Det1 fList := ⟨by (intro x; refine has_of fun Q X z => ?_; unfold fList at z; split at z <;> first | exact z.elim | exact ⟨_, fun _ _ => Iff.rfl⟩ | exact ⟨_, fun _ _ => ⟨fun y => y.2, fun q => ⟨z.1, q⟩⟩⟩ | exact ⟨_, fun _ _ => ⟨fun y => y.2.2, fun q => ⟨z.1, z.2.1, q⟩⟩⟩)⟩
instance : Det1 fListD := ⟨by (intro x; refine has_of fun Q X z => ?_; unfold fListD at z; split at z <;> first | exact z.elim | exact ⟨_, fun _ _ => Iff.rfl⟩ | exact ⟨_, fun _ _ => ⟨fun y => y.2, fun q => ⟨z.1, q⟩⟩⟩ | exact ⟨_, fun _ _ => ⟨fun y => y.2.2, fun q => ⟨z.1, z.2.1, q⟩⟩⟩)⟩
instance : Det1 fSum := ⟨by (intro x; refine has_of fun Q X z => ?_; unfold fSum at z; split at z <;> first | exact z.elim | exact ⟨_, fun _ _ => Iff.rfl⟩ | exact ⟨_, fun _ _ => ⟨fun y => y.2, fun q => ⟨z.1, q⟩⟩⟩ | exact ⟨_, fun _ _ => ⟨fun y => y.2.2, fun q => ⟨z.1, z.2.1, q⟩⟩⟩)⟩
instance : Det1 fMinT := ⟨by (intro x; refine has_of fun Q X z => ?_; unfold fMinT at z; split at z <;> first | exact z.elim | exact ⟨_, fun _ _ => Iff.rfl⟩ | exact ⟨_, fun _ _ => ⟨fun y => y.2, fun q => ⟨z.1, q⟩⟩⟩ | exact ⟨_, fun _ _ => ⟨fun y => y.2.2, fun q => ⟨z.1, z.2.1, q⟩⟩⟩)⟩
instance : Det1 fSortT := ⟨by (intro x; refine has_of fun Q X z => ?_; unfold fSortT at z; split at z <;> first | exact z.elim | exact ⟨_, fun _ _ => Iff.rfl⟩ | exact ⟨_, fun _ _ => ⟨fun y => y.2, fun q => ⟨z.1, q⟩⟩⟩ | exact ⟨_, fun _ _ => ⟨fun y => y.2.2, fun q => ⟨z.1, z.2.1, q⟩⟩⟩)⟩
instance : Det1 fRange := ⟨by (intro x; refine has_of fun Q X z => ?_; unfold fRange at z; split at z <;> first | exact z.elim | exact ⟨_, fun _ _ => Iff.rfl⟩ | exact ⟨_, fun _ _ => ⟨fun y => y.2, fun q => ⟨z.1, q⟩⟩⟩ | exact ⟨_, fun _ _ => ⟨fun y => y.2.2, fun q => ⟨z.1, z.2.1, q⟩⟩⟩)⟩
instance {c : Nat} {f g : DF} [a : DetF f] [b : DetF g] : DetF (mkObj c f g) := ⟨fun ds => by
  match ds with
  | [] => exact has_false
  | [d] => exact has_bind (T := f [d]) (a.h _) fun s => has_bind (has_use s) fun m => has_bind (b.h _) fun s' => has_bind (has_use s') fun g => has_val _
  | _ :: _ :: _ => exact has_false⟩
theorem meth_or (f g : DF) (o : D) : (∀ k, methOf f g o k ↔ k f) ∨ (∀ k, methOf f g o k ↔ k g) ∨ ∀ k, ¬ methOf f g o k := by
  classical
  by_cases c : ∃ k, methOf f g o k
  · obtain ⟨k, z⟩ := c
    unfold methOf at z
    split at z
    · exact .inl fun _ => Iff.rfl
    · exact .inr (.inl fun _ => Iff.rfl)
    · exact z.elim
  · exact .inr (.inr fun k z => c ⟨k, z⟩)
instance {f g : DF} [a : DetF f] [b : DetF g] {to : DE} {ta : DA} [c : DetG to] [d : DetG ta] : DetG (dMeth f g to ta) := ⟨fun r => has_bind (T := to r) (c.h r) fun s => has_bind (has_use s) fun o => by
  have m : Has fun Q X => methOf f g o fun h => ta r (fun xs => h (o :: xs) Q X) X := by
    rcases meth_or f g o with h | h | h
    · obtain ⟨u, hu⟩ := has_bind (T := ta r) (g := fun xs => f (o :: xs)) (d.h r) fun xs => a.h _
      exact ⟨u, fun Q X => (h _).trans (hu Q X)⟩
    · obtain ⟨u, hu⟩ := has_bind (T := ta r) (g := fun xs => g (o :: xs)) (d.h r) fun xs => b.h _
      exact ⟨u, fun Q X => (h _).trans (hu Q X)⟩
    · exact has_no fun Q X => h _
  exact m⟩
inductive OutS where
  | no | nx (r : Env) | rt (s : Sl) | bk (r : Env) | ct (r : Env) | xc (e : Exn) (r : Env)
def OutS.sat : OutS → (Env → Prop) → DK → (Env → Prop) → (Env → Prop) → (Exn → Env → Prop) → Prop
  | .no, _, _, _, _, _ => False
  | .nx r, n, _, _, _, _ => n r
  | .rt s, _, q, _, _, _ => q s
  | .bk r, _, _, b, _, _ => b r
  | .ct r, _, _, _, c, _ => c r
  | .xc e r, _, _, _, _, x => x e r
abbrev HasS (T : (Env → Prop) → DK → (Env → Prop) → (Env → Prop) → (Exn → Env → Prop) → Prop) : Prop := ∃ o : OutS, ∀ n q b c x, T n q b c x ↔ o.sat n q b c x
class DetS (t : DS) : Prop where
  h : ∀ r, HasS fun n q b c x => t n q b c x r
theorem hs_no : HasS fun _ _ _ _ _ => False := ⟨.no, fun _ _ _ _ _ => Iff.rfl⟩
theorem hs_nx (r : Env) : HasS fun n _ _ _ _ => n r := ⟨.nx r, fun _ _ _ _ _ => Iff.rfl⟩
theorem hs_if {P : Prop} {T} (h : HasS T) : HasS fun n q b c x => P ∧ T n q b c x := by
  classical
  by_cases p : P
  · obtain ⟨o, h⟩ := h
    exact ⟨o, fun n q b c x => ⟨fun z => (h ..).mp z.2, fun z => ⟨p, (h ..).mpr z⟩⟩⟩
  · exact ⟨.no, fun n q b c x => ⟨fun z => p z.1, fun z => z.elim⟩⟩
theorem hs_bind {β : Type} {T : (β → Prop) → DX → Prop} {g : β → (Env → Prop) → DK → (Env → Prop) → (Env → Prop) → (Exn → Env → Prop) → Prop} (r : Env) (h : Has T) (hg : ∀ b, HasS (g b)) : HasS fun n q b c x => T (fun y => g y n q b c x) fun e => x e r := by
  obtain ⟨o, ho⟩ := h
  cases o with
  | no => exact ⟨.no, fun n q b c x => ho _ _⟩
  | val y => obtain ⟨o', h'⟩ := hg y; exact ⟨o', fun n q b c x => (ho _ _).trans (h' n q b c x)⟩
  | exc e => exact ⟨.xc e r, fun n q b c x => ho _ _⟩
/-- .. of something that lets nothing out -/
theorem hs_bindV {β : Type} {T : (β → Prop) → Prop} {g : β → (Env → Prop) → DK → (Env → Prop) → (Env → Prop) → (Exn → Env → Prop) → Prop} (h : Has fun Q (_ : DX) => T Q) (hg : ∀ b, HasS (g b)) : HasS fun n q b c x => T (fun y => g y n q b c x) := by
  obtain ⟨o, ho⟩ := h
  cases o with
  | no => exact ⟨.no, fun n q b c x => ho _ fun _ => False⟩
  | val y => obtain ⟨o', h'⟩ := hg y; exact ⟨o', fun n q b c x => (ho _ fun _ => False).trans (h' n q b c x)⟩
  | exc e => exact ⟨.no, fun n q b c x => ho _ fun _ => False⟩
theorem hs_two {k : Bool} {A B} (ha : HasS A) (hb : HasS B) : HasS fun n q b c x => two k (A n q b c x) (B n q b c x) := by cases k <;> assumption
section
variable {ta tb tk tv te tc : DE} {ts : DA} {t u : DS}
instance : DetS dNext := ⟨fun r => hs_nx r⟩
instance : DetS dPass := ⟨fun r => hs_nx r⟩
instance : DetS dNever := ⟨fun r => hs_no⟩
instance : DetS dBreak := ⟨fun r => ⟨.bk r, fun _ _ _ _ _ => Iff.rfl⟩⟩
instance : DetS dCont := ⟨fun r => ⟨.ct r, fun _ _ _ _ _ => Iff.rfl⟩⟩
instance [a : DetS t] [b : DetS u] : DetS (dSeq t u) := ⟨fun r => by
  obtain ⟨o, h⟩ := a.h r
  cases o with
  | nx r' => obtain ⟨o', h'⟩ := b.h r'; exact ⟨o', fun n q b c x => (h _ q b c x).trans (h' n q b c x)⟩
  | no => exact ⟨.no, fun n q b c x => h _ q b c x⟩
  | rt s => exact ⟨.rt s, fun n q b c x => h _ q b c x⟩
  | bk s => exact ⟨.bk s, fun n q b c x => h _ q b c x⟩
  | ct s => exact ⟨.ct s, fun n q b c x => h _ q b c x⟩
  | xc e s => exact ⟨.xc e s, fun n q b c x => h _ q b c x⟩⟩
instance {i : Nat} [a : DetG te] : DetS (dSet i te) := ⟨fun r => hs_bind r (a.h r) fun s => hs_nx _⟩
instance {i : Nat} [a : DetG te] : DetS (dSetV i te) := ⟨fun r => hs_bind r (a.h r) fun s => hs_nx _⟩
instance {is : List Nat} [a : DetG te] : DetS (dUnp is te) := ⟨fun r => hs_bind r (a.h r) fun s => hs_bindV (has_use s) fun d => hs_bindV (has_tupOf _ d) fun l => hs_nx _⟩
instance {is : List Nat} [a : DetG te] : DetS (dUnpL is te) := ⟨fun r => hs_bind r (a.h r) fun s => hs_bindV (has_use s) fun d => hs_bindV (has_lstOf _ d) fun l => hs_nx _⟩
instance {is : List Nat} [a : DetG ts] : DetS (dPar is ts) := ⟨fun r => hs_bind r (a.h r) fun ds => hs_nx _⟩
instance [a : DetG te] : DetS (dDrop te) := ⟨fun r => hs_bind r (a.h r) fun _ => hs_nx _⟩
theorem hs_rt (s : Sl) : HasS fun _ q _ _ _ => q s := ⟨.rt s, fun _ _ _ _ _ => Iff.rfl⟩
instance [a : DetG te] : DetS (dRet te) := ⟨fun r => hs_bind r (a.h r) fun s => hs_rt s⟩
instance {i : Nat} : DetS (dRetOwn i) := ⟨fun r => hs_bindV (has_given _) fun s => hs_rt s⟩
instance : DetS dRetN := ⟨fun r => hs_rt _⟩
instance [c : DetG tc] [a : DetS t] [b : DetS u] : DetS (dIf tc t u) := ⟨fun r => hs_bind r (c.h r) fun s => hs_bindV (has_bool s) fun k => hs_two (a.h r) (b.h r)⟩
instance {i : Nat} [a : DetS t] : DetS (dFrz i t) := ⟨fun r => a.h _⟩
instance {i : Nat} [a : DetG te] : DetS (dApp i te) := ⟨fun r => hs_bindV (has_owned _) fun l => hs_bind r (a.h r) fun s => hs_bindV (has_use s) fun d => hs_if (hs_nx _)⟩
instance {i : Nat} [a : DetG tk] [b : DetG tv] : DetS (dLPut i tk tv) := ⟨fun r => hs_bindV (has_owned _) fun l => hs_bind r (b.h r) fun s => hs_bindV (has_use s) fun v => hs_bind r (a.h r) fun s' => hs_bindV (has_use s') fun y => hs_bindV (has_asInt y) fun j => hs_bindV (has_optN _) fun m => hs_nx _⟩
theorem has_ownedD (s : Sl) : Has fun (k : List D × List D → Prop) (_ : DX) => s.ownedD fun ks vs => k (ks, vs) := by cases s <;> first | exact has_val (β := List D × List D) (_, _) | exact has_false
instance {i : Nat} [a : DetG tk] [b : DetG tv] : DetS (dPut i tk tv) := ⟨fun r => hs_bindV (T := fun k : List D × List D → Prop => (slotAt r i).ownedD fun ks vs => k (ks, vs)) (g := fun p n q b c x => tv r (fun s => s.use fun v => tk r (fun s' => s'.use fun y => (y.keyed = true ∧ p.1.length < 16777216) ∧ n (r.set i (.ownd (putKs y p.1) (putVs y v p.1 p.2)))) fun e => x e r) fun e => x e r) (has_ownedD _) fun p => hs_bind r (b.h r) fun s => hs_bindV (has_use s) fun v => hs_bind r (a.h r) fun s' => hs_bindV (has_use s') fun y => hs_if (hs_nx _)⟩
instance {i : Nat} : DetS (dClear i) := ⟨fun r => hs_bindV (has_owned _) fun l => hs_nx _⟩
instance {i : Nat} {f : D → D → DK → Prop} [k : Det2 f] [a : DetG te] : DetS (dAug i f te) := ⟨fun r => hs_bindV (has_datum _) fun d => hs_bind r (a.h r) fun s => hs_bindV (has_use s) fun y => hs_bindV (k.h d y) fun s => hs_nx _⟩
instance {c : Nat} [a : DetG ts] : DetS (dRaise c ts) := ⟨fun r => hs_bind r (a.h r) fun xs => ⟨.xc _ _, fun _ _ _ _ _ => Iff.rfl⟩⟩
instance {i j : Nat} [a : DetS t] : DetS (dTry i j t) := ⟨fun r => by
  classical
  obtain ⟨o, h⟩ := a.h r
  cases o with
  | nx r' => exact ⟨.nx r', fun n q b c x => h n q b c _⟩
  | no => exact ⟨.no, fun n q b c x => h n q b c _⟩
  | rt s => exact ⟨.rt s, fun n q b c x => h n q b c _⟩
  | bk s => exact ⟨.bk s, fun n q b c x => h n q b c _⟩
  | ct s => exact ⟨.ct s, fun n q b c x => h n q b c _⟩
  | xc e s =>
    by_cases he : e.cls < 11
    · exact ⟨.nx _, fun n q b c x => (h n q b c _).trans ⟨fun z => z.2, fun z => ⟨he, z⟩⟩⟩
    · exact ⟨.no, fun n q b c x => (h n q b c _).trans ⟨fun z => he z.1, fun z => z.elim⟩⟩⟩
/-- a turn of a loop over items -/
theorem hs_turn {T : (Env → Prop) → DK → (Env → Prop) → (Env → Prop) → (Exn → Env → Prop) → Prop} (h : HasS T) {R : Env → (Env → Prop) → DK → (Exn → Env → Prop) → Prop} (hr : ∀ r, HasS fun n q _ _ x => R r n q x) : HasS fun n q _ _ x => T (fun r' => R r' n q x) q n (fun r' => R r' n q x) x := by
  obtain ⟨o, h⟩ := h
  cases o with
  | nx r' => obtain ⟨o', h'⟩ := hr r'; exact ⟨o', fun n q b c x => (h _ q n _ x).trans (h' n q b c x)⟩
  | ct r' => obtain ⟨o', h'⟩ := hr r'; exact ⟨o', fun n q b c x => (h _ q n _ x).trans (h' n q b c x)⟩
  | no => exact ⟨.no, fun n q b c x => h _ q n _ x⟩
  | rt s => exact ⟨.rt s, fun n q b c x => h _ q n _ x⟩
  | bk s => exact ⟨.nx s, fun n q b c x => h _ q n _ x⟩
  | xc e s => exact ⟨.xc e s, fun n q b c x => h _ q n _ x⟩
theorem hs_every {i : Nat} [a : DetS t] : ∀ (l : List D) (r : Env), HasS fun n q _ _ x => dEvery i t n q x l r
  | [], r => hs_nx r
  | d :: l, r => hs_turn (a.h (r.set i (.val d))) fun r' => hs_every l r'
instance {i : Nat} [w : DetG ta] [a : DetS t] : DetS (dFor i ta t) := ⟨fun r => hs_bind r (w.h r) fun s => hs_bindV (has_use s) fun d => hs_bindV (has_itemsOf d) fun l => hs_every l r⟩
theorem hs_everyU {is : List Nat} [a : DetS t] : ∀ (l : List D) (r : Env), HasS fun n q _ _ x => dEveryU is t n q x l r
  | [], r => hs_nx r
  | d :: l, r => hs_bindV (has_tupOf _ d) fun xs => hs_turn (a.h (setAll is xs r)) fun r' => hs_everyU l r'
instance {is : List Nat} [w : DetG ta] [a : DetS t] : DetS (dForU is ta t) := ⟨fun r => hs_bind r (w.h r) fun s => hs_bindV (has_use s) fun d => hs_bindV (has_itemsOf d) fun l => hs_everyU l r⟩
theorem hs_everyUL {is : List Nat} [a : DetS t] : ∀ (l : List D) (r : Env), HasS fun n q _ _ x => dEveryUL is t n q x l r
  | [], r => hs_nx r
  | d :: l, r => hs_bindV (has_lstOf _ d) fun xs => hs_turn (a.h (setAll is xs r)) fun r' => hs_everyUL l r'
instance {is : List Nat} [w : DetG ta] [a : DetS t] : DetS (dForUL is ta t) := ⟨fun r => hs_bind r (w.h r) fun s => hs_bindV (has_use s) fun d => hs_bindV (has_itemsOf d) fun l => hs_everyUL l r⟩
abbrev WOk (tc : DE) (tb : DS) (n : Env → Prop) (q : DK) (x : Exn → Env → Prop) (W : Nat → Env → Prop) : Prop := ∀ m r, W m r → tc r (fun s => s.bool fun k => two k (tb (fun r' => ∃ m', m' < m ∧ W m' r') q n (fun r' => ∃ m', m' < m ∧ W m' r') x r) (n r)) fun e => x e r
theorem hs_wh [a : DetG tc] [bb : DetS t] : ∀ (m : Nat) (r : Env), (∃ W n q x, WOk tc t n q x W ∧ W m r) → HasS fun n q b c x => dWhile tc t n q b c x r := by
  intro m
  induction m using Nat.strongRecOn with
  | ind m ih =>
    rintro r ⟨W, n0, q0, x0, hW, hm⟩
    -- one step told
    have step : ∀ {n q x} {W : Nat → Env → Prop} {m : Nat}, WOk tc t n q x W → W m r → tc r (fun s => s.bool fun k => two k (t (fun r' => ∃ m', m' < m ∧ W m' r') q n (fun r' => ∃ m', m' < m ∧ W m' r') x r) (n r)) fun e => x e r := fun h1 h2 => h1 _ r h2
    have one : ∀ {n q x}, (tc r (fun s => s.bool fun k => two k (t (fun _ => False) q n (fun _ => False) x r) (n r)) fun e => x e r) → dWhile tc t n q (fun _ => False) (fun _ => False) x r := fun {n q x} h => by
      refine ⟨fun m' r' => m' = 0 ∧ r' = r, ⟨0, rfl, rfl⟩, ?_⟩
      rintro m' r' ⟨e1, e2⟩
      subst e1 e2
      obtain ⟨o, ho⟩ := a.h r'
      rw [ho] at h ⊢
      cases o with
      | no => exact h
      | exc e => exact h
      | val s =>
        obtain ⟨o2, h2'⟩ := has_bool s
        have h2 : ∀ k : Bool → Prop, s.bool k ↔ o2.sat k fun _ => False := fun k => h2' k _
        have h : s.bool fun k => two k (t (fun _ => False) q n (fun _ => False) x r') (n r') := h
        show s.bool _
        rw [h2] at h ⊢
        cases o2 with
        | no => exact h
        | exc e => exact h
        | val k =>
          cases k with
          | false => exact h
          | true =>
            have h : t (fun _ => False) q n (fun _ => False) x r' := h
            show t _ q n _ x r'
            obtain ⟨o3, h3'⟩ := bb.h r'
            have h3 : ∀ n q b c x, t n q b c x r' ↔ o3.sat n q b c x := h3'
            rw [h3] at h ⊢
            cases o3 <;> first | exact h | exact h.elim
    have h0 := step hW hm
    obtain ⟨o, ho⟩ := a.h r
    rw [ho] at h0
    cases o with
    | no => exact h0.elim
    | exc e =>
      refine ⟨.xc e r, fun n q b c x => ⟨fun ⟨W, ⟨m, h1⟩, h2⟩ => ?_, fun z => one ?_⟩⟩
      · exact (ho _ _).mp (step h2 h1)
      · exact (ho _ _).mpr z
    | val s =>
      have h0 : s.bool fun k => two k (t (fun r' => ∃ m', m' < m ∧ W m' r') q0 n0 (fun r' => ∃ m', m' < m ∧ W m' r') x0 r) (n0 r) := h0
      obtain ⟨o2, h2'⟩ := has_bool s
      have h2 : ∀ k : Bool → Prop, s.bool k ↔ o2.sat k fun _ => False := fun k => h2' k _
      rw [h2] at h0
      cases o2 with
      | no => exact h0.elim
      | exc e => exact h0.elim
      | val k =>
        have at_ : ∀ {P : Bool → Prop} {X : DX}, tc r (fun s => s.bool P) X ↔ P k := fun {P X} => (ho _ _).trans (h2 P)
        cases k with
        | false =>
          refine ⟨.nx r, fun n q b c x => ⟨fun ⟨W, ⟨m, h1⟩, h2⟩ => ?_, fun z => one ?_⟩⟩
          · exact at_.mp (step h2 h1)
          · exact at_.mpr z
        | true =>
          have h0 : t (fun r' => ∃ m', m' < m ∧ W m' r') q0 n0 (fun r' => ∃ m', m' < m ∧ W m' r') x0 r := h0
          obtain ⟨o3, h3'⟩ := bb.h r
          have h3 : ∀ n q b c x, t n q b c x r ↔ o3.sat n q b c x := h3'
          rw [h3] at h0
          have simple : ∀ {o' : OutS}, o3 = o' → (∀ n q x (A B : Env → Prop), o'.sat A q n B x ↔ o'.sat (fun _ => False) q n (fun _ => False) x) → HasS fun n q b c x => dWhile tc t n q b c x r := fun {o'} e hs => by
            subst e
            refine ⟨match o3 with | .bk r' => .nx r' | .rt s => .rt s | .xc e r' => .xc e r' | _ => .no, fun n q b c x => ⟨fun ⟨W, ⟨m, h1⟩, h2⟩ => ?_, fun z => one ?_⟩⟩
            · have z := (h3 ..).mp (show t _ q n _ x r from at_.mp (step h2 h1))
              rw [hs] at z
              cases o3 <;> first | exact z | exact z.elim
            · refine at_.mpr (show t _ q n _ x r from (h3 ..).mpr ?_)
              cases o3 <;> first | exact z | exact z.elim
          have goes : ∀ {r' : Env} (m' : Nat), m' < m → W m' r' → (∀ n q x (A : Env → Prop), t A q n A x r ↔ A r') → HasS fun n q b c x => dWhile tc t n q b c x r := fun {r'} m' lt w eq => by
            obtain ⟨o', h'⟩ := ih m' lt r' ⟨W, n0, q0, x0, hW, w⟩
            refine ⟨o', fun n q b c x => Iff.trans ⟨fun ⟨W, ⟨m, h1⟩, h2⟩ => ?_, fun ⟨W, ⟨m, h1⟩, h2⟩ => ?_⟩ (h' n q b c x)⟩
            · have z := (eq n q x _).mp (show t _ q n _ x r from at_.mp (step h2 h1))
              obtain ⟨m'', _, z⟩ := z
              exact ⟨W, ⟨m'', z⟩, h2⟩
            · refine ⟨fun k r0 => (k = m + 1 ∧ r0 = r) ∨ W k r0, ⟨m + 1, .inl ⟨rfl, rfl⟩⟩, ?_⟩
              rintro k r0 (⟨rfl, rfl⟩ | w)
              · exact at_.mpr (show t _ q n _ x r0 from (eq n q x _).mpr ⟨m, Nat.lt_succ_self m, .inr h1⟩)
              · have z := h2 k r0 w
                -- the same with more
                obtain ⟨o, ho⟩ := a.h r0
                rw [ho] at z ⊢
                cases o with
                | no => exact z
                | exc e => exact z
                | val s =>
                  obtain ⟨o2, h2'⟩ := has_bool s
                  have h2 : ∀ k : Bool → Prop, s.bool k ↔ o2.sat k fun _ => False := fun k => h2' k _
                  have z : s.bool fun k' => two k' (t (fun r' => ∃ m', m' < k ∧ W m' r') q n (fun r' => ∃ m', m' < k ∧ W m' r') x r0) (n r0) := z
                  show s.bool _
                  rw [h2] at z ⊢
                  cases o2 with
                  | no => exact z
                  | exc e => exact z
                  | val k' =>
                    cases k' with
                    | false => exact z
                    | true =>
                      have z : t (fun r' => ∃ m', m' < k ∧ W m' r') q n (fun r' => ∃ m', m' < k ∧ W m' r') x r0 := z
                      show t _ q n _ x r0
                      obtain ⟨o3, h3'⟩ := bb.h r0
                      have h3 : ∀ n q b c x, t n q b c x r0 ↔ o3.sat n q b c x := h3'
                      rw [h3] at z ⊢
                      cases o3 with
                      | nx r' => obtain ⟨m', e1, e2⟩ := z; exact ⟨m', e1, .inr e2⟩
                      | ct r' => obtain ⟨m', e1, e2⟩ := z; exact ⟨m', e1, .inr e2⟩
                      | no => exact z
                      | rt s => exact z
                      | bk s => exact z
                      | xc e s => exact z
          cases o3 with
          | no => exact h0.elim
          | nx r' => obtain ⟨m', e1, e2⟩ := h0; exact goes m' e1 e2 fun n q x A => h3 ..
          | ct r' => obtain ⟨m', e1, e2⟩ := h0; exact goes m' e1 e2 fun n q x A => h3 ..
          | rt s => exact simple rfl fun _ _ _ _ _ => Iff.rfl
          | bk s => exact simple rfl fun _ _ _ _ _ => Iff.rfl
          | xc e s => exact simple rfl fun _ _ _ _ _ => Iff.rfl
instance [a : DetG tc] [b : DetS t] : DetS (dWhile tc t) := ⟨fun r => by
  classical
  by_cases h : ∃ m W n q x, WOk tc t n q x W ∧ W m r
  · obtain ⟨m, W, n, q, x, h1, h2⟩ := h
    exact hs_wh m r ⟨W, n, q, x, h1, h2⟩
  · refine ⟨.no, fun n q b c x => ⟨fun ⟨W, ⟨m, h1⟩, h2⟩ => h ⟨m, W, n, q, x, h2, h1⟩, fun z => z.elim⟩⟩⟩
instance {np n : Nat} [a : DetS t] : DetF (dFun np n t) := ⟨fun ds => by
  classical
  by_cases hl : ds.length = np
  · obtain ⟨o, h⟩ := a.h (ds.map Sl.val ++ List.replicate (n - np) .un)
    have key : ∀ Q X, dFun np n t ds Q X ↔ o.sat (fun _ => Q (.val .non)) Q (fun _ => False) (fun _ => False) (fun x _ => X x) := fun Q X => ⟨fun z => (h ..).mp z.go, fun z => ⟨hl, (h ..).mpr z⟩⟩
    cases o with
    | no => exact ⟨.no, key⟩
    | nx r => exact ⟨.val (.val .non), key⟩
    | rt s => exact ⟨.val s, key⟩
    | bk r => exact ⟨.no, key⟩
    | ct r => exact ⟨.no, key⟩
    | xc e r => exact ⟨.exc e, key⟩
  · exact has_no fun Q X z => hl z.len⟩
end
theorem tells {f : DF} [a : DetF f] {ds : List D} {P : Sl → Prop} (h : f ds P fun _ => False) : ∃ s, P s ∧ ∀ {Q : DK} {X : DX}, Q s → f ds Q X := by
  obtain ⟨o, ho⟩ := a.h ds
  have h1 := (ho _ _).mp h
  cases o with
  | no => exact h1.elim
  | exc e => exact h1.elim
  | val s => exact ⟨s, h1, fun {Q X} q => (ho Q X).mpr q⟩
/-- a method by its object's class -/
def methF (f g : DF) : DF := fun xs Q X => match xs with
  | o :: l => methOf f g o fun h => h (o :: l) Q X
  | [] => False
instance {f g : DF} [a : DetF f] [b : DetF g] : DetF (methF f g) := ⟨fun xs => by
  cases xs with
  | nil => exact has_false
  | cons o l =>
    rcases meth_or f g o with h | h | h
    · obtain ⟨u, hu⟩ := a.h (o :: l)
      exact ⟨u, fun Q X => (h _).trans (hu Q X)⟩
    · obtain ⟨u, hu⟩ := b.h (o :: l)
      exact ⟨u, fun Q X => (h _).trans (hu Q X)⟩
    · exact has_no fun Q X => h _⟩
end DL

/- DLu -/
namespace DL
/-- min(a, b) of tuples of whole numbers -/
def fMin2T : List D → DK → Prop
  | [x, y], Q => ([x, y].all D.ints) = true ∧ Q (.val (tupI (minL x.nums [y.nums])))
  | _, _ => False
instance : Det1 fMin2T := ⟨by (intro x; refine has_of fun Q X z => ?_; unfold fMin2T at z; split at z <;> first | exact z.elim | exact ⟨_, fun _ _ => ⟨fun y => y.2, fun q => ⟨z.1, q⟩⟩⟩)⟩
def keysD : D → (List D → Prop) → Prop
  | .dct ks _, k => ks.length ≤ 16777216 ∧ k ks
  | _, _ => False
/-- [e for x in d if t], d a dict -/
def dLcD (i : Nat) (w : DE) (tt te : DE) : DE := fun r Q X => w r (fun s => s.use fun d => keysD d fun l => dEach (oneLc i tt te r) l fun ys => Q (.own ys)) X
theorem has_keysD (d : D) : Has (fun (Q : List D → Prop) (_ : DX) => keysD d Q) := has_of fun Q X z => by
  unfold keysD at z
  split at z
  · exact ⟨_, fun _ _ => ⟨fun y => y.2, fun q => ⟨z.1, q⟩⟩⟩
  · exact z.elim
instance {i : Nat} [w : DetG ta] [a : DetG tb] [b : DetG tc] : DetG (dLcD i ta tb tc) := ⟨fun r => has_bind (T := ta r) (w.h r) fun s => has_bind (has_use s) fun d => has_bind (has_keysD d) fun l => has_bind (T := fun Q (_ : DX) => dEach (oneLc i tb tc r) l Q) (has_each (has_oneLc r) l) fun ys => has_val _⟩
theorem keys_d {ks us : List D} {k : List D → Prop} : keysD (.dct ks us) k = (ks.length ≤ 16777216 ∧ k ks) := rfl
end DL

/- DLv -/
namespace DL
open PySem PySem.Spec PySem.W PyProof.Rows L2
section
variable {prog : Program} {w : World} {A : Around} {E : Value → Shared → Prop} {s : Shared}
theorem min_two_data {a b : Value} {x y : PyData} {as : List Addr} {Q : Value → Shared → Prop} (hh : A.handled = none) (hr : ReadsAll s.heap [a, b] [x, y] as) (ha : AlikeAll [x, y]) (hu : A.units + 1 + PyData.depthAll [x, y] < cLine)
    (h : ∀ (i : Nat) v h' tk bs, [a, b][i]? = some v → Reads h' v (minD x [y]) bs → (∀ b o, s.heap.get? b = some o → h'.get? b = some o) → Q v { s with heap := h', toks := tk }) :
    wpAny (model prog w) A (call (.builtin "min") [a, b]) Q E s := by
  have hname : (toString "min" ++ toString ".loop" : String) = "min.loop" := by decide
  have hold : ∀ c o, s.heap.get? c = some o → (s.heap.push { cls := .type "tuple", data := .seq #[a, b] }).get? c = some o := fun c o e => Heap.get?_push_of_some _ e
  have hT : (s.heap.push { cls := .type "tuple", data := .seq #[a, b] }).IsTuple s.heap.objs.size #[a, b] := ⟨_, Heap.get?_push_size _ rfl, rfl, 0, rfl⟩
  refine call_function_tree F.kind_min F.plain_min F.entry_min (F.args_min2 _ _) ?_
  show wpAny _ A.in1 (Builtin.Builtins.bindParams "min" ["key", "default"] 0 ⟨[], []⟩ >>= _) _ _ s
  refine wpAny_bind (wpAny_of_eq (show Builtin.Builtins.bindParams "min" ["key", "default"] 0 ⟨[], []⟩ = pure [none, none] from rfl) ?_)
  show wpAny _ A.in1 (newTuple [a, b] >>= _) _ _ s
  refine wpAny_bind (wpAny_newObj_type ?_)
  have hr' : ReadsAll (s.heap.push { cls := .type "tuple", data := .seq #[a, b] }) (#[a, b] : Array Value).toList [x, y] as := ReadsAll.keeps hold hr
  refine wpAny_bind (iter_tupleW (s := { s with heap := s.heap.push { cls := .type "tuple", data := .seq #[a, b] } }) (A := A.in1) hh hT fun s₂ e W st hfp hw hk => ?_)
  refine wpAny_bind (wpAny_newObj_type ?_)
  have hSf : s₂.heap.objs.size ∉ [({ s with heap := s.heap.push { cls := .type "tuple", data := .seq #[a, b] } } : Shared).heap.objs.size, s.heap.objs.size] := fun hm => Nat.lt_irrefl _ (hfp _ hm)
  rw [hname]
  refine wpAny_pure ⟨plainId_quiet F.plain_min_loop _, codeAny_min_loop_firstH W _ hw _ (cmpIn_lt (s := { s with heap := s.heap.push { cls := .type "tuple", data := .seq #[a, b] } }) (A := A.in1) hr' ha (by show A.units + 1 + _ < _; exact hu)) s₂.heap.objs.size hSf (fresh_in hk) _ (by show 0 < 2; decide) (fun b o e => Heap.get?_push_of_some _ (hk b o e)) (W.frame 0 s₂ _ s₂.toks st (Nat.le_refl _) fun b _ o e => Heap.get?_push_of_some _ e) (Heap.get?_push_size _ rfl) fun v s' hP hm => ?_⟩
  have hm2 := Moved.drop_new (tk := s₂.toks) hm (Nat.le_refl _)
  obtain ⟨h', tk, rfl, hk'⟩ := moved_old e rfl hm2
  obtain ⟨bs, r, _, _, _⟩ := readsAll_atA hr' _ v hP
  have e2 := (argBest_fold dataLt PyData.none x [y] 1 (Nat.le_refl _)).2
  rw [show List.take 1 [y] = [y] from rfl] at e2
  have hP2 : ([a, b] : List Value)[argBest (fun i j => dataLt ([x, y].getD i PyData.none) ([x, y].getD j PyData.none)) 1]? = some v := by rw [← List.getElem?_toArray]; exact hP
  exact h _ v h' tk bs hP2 (reads_keeps hk' (by unfold minD; rw [← e2]; exact r)) fun b o z => hk' b o (hold b o z)
end
section
variable {X : Cx}
/-- min(a, b), two tuples of whole numbers -/
def rMin2P (K : PySem.W.Frag) : List V → Hp → VK → Prop := fun xs H Q => ∃ (v w : V) (n m : List Int) (Good : V → List Int → Prop), xs = [v, w] ∧ Good v n ∧ Good w m ∧ Tpl K H Good ∧ ∀ v, Good v (minL n [m]) → Q v H
theorem cr_min2P (hc : X.calm = true) (hu : X.A.units + 64 < cLine) : CallR X (.builtin "min") (rMin2P X.K) := by
  intro pins s σ H vs us Q I r h
  obtain ⟨a, b, n, m, Good, rfl, g1, g2, hg, q⟩ := h
  obtain ⟨va, vb, rfl, ra, rb⟩ : ∃ va vb, us = [va, vb] ∧ RelV a va ∧ RelV b vb := by
    cases r with
    | cons r1 r2 =>
      cases r2 with
      | cons r2 r3 =>
        cases r3
        exact ⟨_, _, rfl, r1, r2⟩
  have eR : PySem.W.EachIs (fun v ns => ∃ x, RelV x v ∧ Good x ns) [va, vb] [n, m] := .cons ⟨a, ra, g1⟩ (.cons ⟨b, rb, g2⟩ .nil)
  obtain ⟨as, hr⟩ := PySem.W.each_readsAll (h := s.heap) encT (eR.mono fun v ns ⟨x, rx, g⟩ => tpl_reads I hg rx g)
  have hr' : ReadsAll s.heap [va, vb] [encT n, encT m] as := hr
  refine min_two_data (I.ok.hd hc) hr' ⟨fun x hx y hy => ?_, fun x hx e => ?_⟩ ?_ fun i v h' tk bs hi hrd hk => ?_
  · obtain ⟨a, _, rfl⟩ := List.mem_map.mp (show x ∈ [n, m].map encT from hx)
    obtain ⟨b, _, rfl⟩ := List.mem_map.mp (show y ∈ [n, m].map encT from hy)
    exact alike_tups a b
  · obtain ⟨a, _, rfl⟩ := List.mem_map.mp (show x ∈ [n, m].map encT from hx)
    cases e
  · have := depth_tups [n, m]
    have e : PyData.depthAll [encT n, encT m] = PyData.depthAll ([n, m].map encT) := rfl
    rw [e]
    omega
  · have em := minD_enc [m] n
    rw [show [encT m] = [m].map encT from rfl, em] at hrd
    have hmem : v ∈ [va, vb] := List.mem_of_getElem? hi
    have hx : ∃ ns x, RelV x v ∧ Good x ns := by
      rcases List.mem_cons.mp hmem with rfl | hmem
      · exact ⟨n, a, ra, g1⟩
      · rcases List.mem_cons.mp hmem with rfl | hmem
        · exact ⟨m, b, rb, g2⟩
        · cases hmem
    obtain ⟨ns, x, rx, g⟩ := hx
    obtain ⟨as2, r2⟩ := tpl_reads I hg rx g
    have e := (Reads.unique (PyProof.Rows.Reads.keeps hk r2) _ _ hrd).1
    have e2 : ns = minL n [m] := ints_inj (PyData.tuple.inj e)
    subst e2
    exact ⟨x, H, I.kept (t' := tk) fun b u z => hk b u z, rx, q x g⟩
end
section
variable {G : Gx}
theorem lr_min2T : LRs G fMin2T (rMin2P G.K) := fun F H xs us Q QV e r q hq => by
  unfold fMin2T at q
  split at q
  · rename_i x y
    obtain ⟨v, w, rfl, h1, h2⟩ := two_rep r
    have hx := Bool.and_eq_true_iff.mp q.1
    have hy := (Bool.and_eq_true_iff.mp hx.2).1
    rw [ints_is hx.1] at h1
    rw [ints_is hy] at h2
    exact ⟨v, w, x.nums, y.nums, _, rfl, h1, h2, rep_tpl e, fun v hv => hq _ v F H (.val (.refl e) hv) q.2⟩
  · exact q.elim
end
section
variable {X : Cx} {G : Gx} {W : WX} {k : Nat} {a b c e : Expr} {es : List Expr} {ta tb tc te : DE} {ts : DA} {t u : DS} {pos p p2 p3 : Pos} {n i j l : Nat} {x y : Str}
theorem j_min2T (C : Cxt X G W k) (hm : X.mg "min" = none) (ha : JA X G W n (a :: [b]) ts) (hg : Gl X "min" := by rfl) (he : starEach (a :: [b]) X.env = (false, eval a X.env) :: starEach [b] X.env := by rfl) (hpl : (backTo pos (starEach [b] X.env)).any (·.1) = false := by rfl) : JE X G W (.Call (.Name "min" p) [a, b] [] pos) (dAs fMin2T ts) :=
  j_bi (cr_min2P C.calm C.units) (by rw [C.K]; exact lr_min2T) hg hm boot_min ha (he := he) (hpl := hpl)
end
section
variable {G : Gx}
/-- locked or let go -/
def Flip (F F' : Hp) : Prop := ∀ b u, F b = some u → F' b = some u ∨ (∃ o kvs, u = .dT kvs ∧ F' b = some (.frz o (.dT kvs))) ∨ ∃ o kvs, u = .frz o (.dT kvs) ∧ F' b = some (.dT kvs)
theorem Flip.tup {F F' : Hp} (e : Flip F F') {b : Addr} {vs : List V} (h : F b = some (.tup vs)) : F' b = some (.tup vs) := by
  rcases e b _ h with z | ⟨o, kvs, z, _⟩ | ⟨o, kvs, z, _⟩
  · exact z
  · cases z
  · cases z
theorem Flip.frt {F F' : Hp} (e : Flip F F') {b : Addr} {o : Obj} {vs : List V} (h : F b = some (.frz o (.tup vs))) : F' b = some (.frz o (.tup vs)) := by
  rcases e b _ h with z | ⟨o, kvs, z, _⟩ | ⟨o, kvs, z, _⟩
  · exact z
  · cases z
  · cases z
theorem Flip.lst {F F' : Hp} (e : Flip F F') {b : Addr} {vs : List V} (h : F b = some (.lst vs)) : F' b = some (.lst vs) := by
  rcases e b _ h with z | ⟨o, kvs, z, _⟩ | ⟨o, kvs, z, _⟩
  · exact z
  · cases z
  · cases z
theorem Flip.frl {F F' : Hp} (e : Flip F F') {b : Addr} {o : Obj} {vs : List V} (h : F b = some (.frz o (.lst vs))) : F' b = some (.frz o (.lst vs)) := by
  rcases e b _ h with z | ⟨o, kvs, z, _⟩ | ⟨o, kvs, z, _⟩
  · exact z
  · cases z
  · cases z
theorem Flip.ins {F F' : Hp} (e : Flip F F') {b c dx : Addr} {fs : List (Str × V)} (h : F b = some (.ins c dx fs)) : F' b = some (.ins c dx fs) := by
  rcases e b _ h with z | ⟨o, kvs, z, _⟩ | ⟨o, kvs, z, _⟩
  · exact z
  · cases z
  · cases z
theorem Flip.own {F F' : Hp} (e : Flip F F') {b c : Addr} (h : F b = some (.own c)) : F' b = some (.own c) := by
  rcases e b _ h with z | ⟨o, kvs, z, _⟩ | ⟨o, kvs, z, _⟩
  · exact z
  · cases z
  · cases z
theorem Flip.exk {F F' : Hp} (e : Flip F F') {b : Addr} {c : Value} {d : Option Addr} {a : Addr} (h : F b = some (ExK c d a)) : F' b = some (ExK c d a) := by
  rcases e b _ h with z | ⟨o, kvs, z, _⟩ | ⟨o, kvs, z, _⟩
  · exact z
  · unfold ExK at z; cases z
  · unfold ExK at z; cases z
theorem Flip.ext {F F' : Hp} (e : Flip F F') {b : Addr} {u : HO} (h : F b = some u) (n1 : ∀ kvs, u ≠ .dT kvs) (n2 : ∀ o kvs, u ≠ .frz o (.dT kvs)) : F' b = some u := by
  rcases e b _ h with z | ⟨o, kvs, z, _⟩ | ⟨o, kvs, z, _⟩
  · exact z
  · first | exact (n1 _ z).elim | exact (n2 _ _ z).elim
  · first | exact (n1 _ z).elim | exact (n2 _ _ z).elim
theorem Flip.fn {F F' : Hp} (e : Flip F F') {G : Gx} {k : Nat} {v : V} (h : FnR G F k v) : FnR G F' k v := by
  rcases h with h | ⟨h1, f, c, h2, h3, h4⟩
  · exact .inl h
  · exact .inr ⟨h1, f, c, h2, e.ext h3 (fun _ z => by unfold LamO at z; cases z) (fun _ _ z => by unfold LamO at z; cases z), e.ext h4 (fun _ z => by unfold LamX.CodeO at z; cases z) (fun _ _ z => by unfold LamX.CodeO at z; cases z)⟩
theorem Flip.xd {F F' : Hp} (e : Flip F F') {b : Addr} {fs : List (Str × V)} (h : F b = some (.xd fs)) : F' b = some (.xd fs) := by
  rcases e b _ h with z | ⟨o, kvs, z, _⟩ | ⟨o, kvs, z, _⟩
  · exact z
  · cases z
  · cases z
theorem Flip.t {K : PySem.W.Frag} {F F' : Hp} (e : Flip F F') {a : Addr} {vs : List V} (h : SqT K F a vs) : SqT K F' a vs := by
  rcases h with (h | ⟨o, h⟩) | h
  · exact .inl (.inl (Flip.tup e h))
  · exact .inl (.inr ⟨o, Flip.frt e h⟩)
  · exact .inr h
theorem Flip.l {K : PySem.W.Frag} {F F' : Hp} (e : Flip F F') {a : Addr} {vs : List V} (h : SqL K F a vs) : SqL K F' a vs := by
  rcases h with (h | ⟨o, h⟩) | h
  · exact .inl (.inl (Flip.lst e h))
  · exact .inl (.inr ⟨o, Flip.frl e h⟩)
  · exact .inr h
theorem Flip.d {F F' : Hp} (e : Flip F F') {a : Addr} {kvs : List (List L2.Key × V)} (h : Rd F a (.dT kvs)) : Rd F' a (.dT kvs) := by
  rcases h with h | ⟨o, h⟩
  · rcases e _ _ h with z | ⟨o, k2, z, y⟩ | ⟨o, k2, z, _⟩
    · exact .inl z
    · cases z; exact .inr ⟨o, y⟩
    · cases z
  · rcases e _ _ h with z | ⟨o, k2, z, _⟩ | ⟨o, k2, z, y⟩
    · exact .inr ⟨_, z⟩
    · cases z
    · cases z; exact .inl y
mutual
theorem Rep.flip {F F' : Hp} (e : Flip F F') : ∀ (d : D) {v : V}, Rep G F d v → Rep G F' d v
  | .non, _, h => h
  | .bl _, _, h => h
  | .int _, _, h => h
  | .str _, _, h => h
  | .tup l, _, ⟨a, vs, e1, h1, h2⟩ => ⟨a, vs, e1, ⟨Flip.t e h1.1, fun k => Flip.tup e (h1.2 k)⟩, RepL.flip e l h2⟩
  | .lst l, _, ⟨a, vs, e1, h1, h2⟩ => ⟨a, vs, e1, Flip.l e h1, RepL.flip e l h2⟩
  | .dct _ us, _, ⟨a, kvs, e1, h1, h2, h3⟩ => ⟨a, kvs, e1, Flip.d e h1, h2, RepL.flip e us h3⟩
  | .obj _ us, _, ⟨a, e1, .inl ⟨hc, dx, fs, h1, h2, h3, h4⟩⟩ => ⟨a, e1, .inl ⟨hc, dx, fs, Flip.ins e h1, Flip.own e h2, h3, RepL.flip e us h4⟩⟩
  | .obj _ us, _, ⟨a, e1, .inr ⟨hc, d, h1, .inl h2⟩⟩ => ⟨a, e1, .inr ⟨hc, d, Flip.exk e h1, .inl h2⟩⟩
  | .obj _ us, _, ⟨a, e1, .inr ⟨hc, d, h1, .inr ⟨dd, fs, vs, h2, h3, h4, h5⟩⟩⟩ => ⟨a, e1, .inr ⟨hc, d, Flip.exk e h1, .inr ⟨dd, fs, vs, h2, Flip.xd e h3, RepL.flip e us h4, h5⟩⟩⟩
  | .fn _, _, h => Flip.fn e h
theorem RepL.flip {F F' : Hp} (e : Flip F F') : ∀ (l : List D) {vs : List V}, RepL G F l vs → RepL G F' l vs
  | [], _, h => h
  | d :: ds, _, ⟨v, r, e1, h1, h2⟩ => ⟨v, r, e1, Rep.flip e d h1, RepL.flip e ds h2⟩
end
theorem ext_tup {F H : Hp} {q : Addr} {xs : List V} (e : Same F H) (h : H q = some (.tup xs)) : Ext F H (fun b => if b = q then some (.tup xs) else F b) H := by
  refine ⟨fun b u z => ?_, fun b u z => ?_, Keep.refl _, fun b u z => ?_⟩
  · by_cases hb : b = q
    · subst hb
      rw [if_pos rfl]
      rw [e _ _ z] at h
      exact h.symm
    · rw [if_neg hb]; exact z
  · by_cases hb : b = q
    · subst hb
      rw [if_pos rfl] at z
      cases z; exact h
    · rw [if_neg hb] at z; exact e _ _ z
  · by_cases hb : b = q
    · subst hb
      rw [if_pos rfl] at z
      cases z; exact .inr (.inr (.inl ⟨_, rfl⟩))
    · rw [if_neg hb] at z; exact .inl z
theorem flip_lock {F : Hp} {d : Addr} {o : Obj} {kvs : List (List L2.Key × V)} (h : F d = some (.dT kvs)) : Flip F (upd F d (.frz o (.dT kvs))) := fun b u z => by
  by_cases hb : b = d
  · subst hb
    rw [h] at z; cases z
    exact .inr (.inl ⟨o, kvs, rfl, upd_same⟩)
  · exact .inl (by rw [upd_ne hb]; exact z)
theorem flip_free {F : Hp} {d : Addr} {o : Obj} {kvs : List (List L2.Key × V)} (h : F d = some (.frz o (.dT kvs))) : Flip F (upd F d (.dT kvs)) := fun b u z => by
  by_cases hb : b = d
  · subst hb
    rw [h] at z; cases z
    exact .inr (.inr ⟨o, kvs, rfl, upd_same⟩)
  · exact .inl (by rw [upd_ne hb]; exact z)
/-- the state while the dict is locked -/
theorem SRep.lock {F0 H0 F H : Hp} {σ : Sg} {ρ : Env} {d : Addr} {kvs : List (List L2.Key × V)} (S : SRep G F0 H0 F H σ ρ) (hd : F d = some (.dT kvs)) (o : Obj) :
    SRep G (fun b => if b = d then (if (F0 d).isSome then some (.frz o (.dT kvs)) else none) else F0 b) (fun b => if b = d then (if (H0 d).isSome then some (.frz o (.dT kvs)) else none) else H0 b) (upd F d (.frz o (.dT kvs))) (upd H d (.frz o (.dT kvs))) σ ρ := by
  have hH := S.same _ _ hd
  have n0 : ∀ ps, H d ≠ some (.tbl ps) := fun ps z => by rw [hH] at z; cases z
  have nc : ∀ q, H d ≠ some (LamX.CodeO d q) := fun q z => by rw [hH] at z; exact dT_code q (Option.some.inj z)
  have at0 : ∀ u, H0 d = some u → (∀ ps, u ≠ .tbl ps) → u = .dT kvs := fun u z n => by
    have := S.e.h.x _ _ z n
    rw [hH] at this; exact (Option.some.inj this).symm
  have down : ∀ P, TabW (fun b => if b = d then (if (H0 d).isSome then some (.frz o (.dT kvs)) else none) else H0 b) P → TabW H0 P := fun P t => tabS_but t (fun b hb => (if_neg hb).symm) (fun ps z => by
    rw [if_pos rfl] at z
    split at z <;> cases z) fun q z => by
    rw [if_pos rfl] at z
    unfold LamX.CodeO at z
    split at z <;> cases z
  refine ⟨S.len, fun p hp => ?_, ⟨fun b u z => ?_, fun b u z => ?_, ⟨fun b u z n => ?_, fun {b} z => ?_, fun P t => tabS_but (S.e.h.tab P (down P t)) (fun b hb => upd_ne hb) n0 nc⟩, fun b u z => ?_⟩, fun i s z => ?_, S.dis⟩
  · obtain ⟨⟨ps, e1, e2, e3⟩, f0⟩ := S.t0 p hp
    obtain ⟨ps', f1, _⟩ := S.e.h.tab _ (S.t0 p hp).1
    have hpd : p ≠ d := fun z => n0 ps' (by rw [← z]; exact f1)
    refine ⟨⟨ps, (if_neg hpd).trans e1, e2, fun pos cv hcv => ?_⟩, (if_neg hpd).trans f0⟩
    obtain ⟨c, g1, g2⟩ := e3 pos cv hcv
    refine ⟨c, g1, (if_neg (fun z => ?_)).trans g2⟩
    subst z
    exact dT_code _ (at0 _ g2 codeO_tbl).symm
  · by_cases hb : b = d
    · subst hb
      rw [if_pos rfl] at z
      rw [upd_same]
      split at z <;> first | exact z | cases z
    · rw [if_neg hb] at z
      rw [upd_ne hb]; exact S.e.f _ _ z
  · by_cases hb : b = d
    · subst hb
      rw [upd_same] at z ⊢; exact z
    · rw [upd_ne hb] at z ⊢; exact S.e.fh _ _ z
  · by_cases hb : b = d
    · subst hb
      rw [if_pos rfl] at z
      rw [upd_same]
      split at z <;> first | exact z | cases z
    · rw [if_neg hb] at z
      rw [upd_ne hb]; exact S.e.h.x _ _ z n
  · by_cases hb : b = d
    · subst hb; rw [upd_same] at z; cases z
    · rw [upd_ne hb] at z
      exact (if_neg hb).trans (S.e.h.free z)
  · by_cases hb : b = d
    · subst hb
      rw [upd_same] at z
      rw [if_pos rfl, if_pos rfl]
      rcases S.e.new _ _ hd with y | y | ⟨xs, y⟩ | ⟨q', y⟩
      · rw [y]; exact .inl z
      · rw [y]; exact .inr (.inl rfl)
      · cases y
      · exact (dT_code q' y).elim
    · rw [upd_ne hb] at z
      rw [if_neg hb, if_neg hb]; exact S.e.new _ _ z
  · have y := S.sl i s z
    cases s with
    | un => exact y
    | val x =>
      obtain ⟨v, h1, h2⟩ := y
      exact ⟨v, h1, Rep.flip (flip_lock hd) x h2⟩
    | own l =>
      obtain ⟨p, vs, h1, h2, h3, h4, h5⟩ := y
      have hp : p ≠ d := fun h => by subst h; rw [hd] at h3; cases h3
      exact ⟨p, vs, h1, by rw [upd_ne hp]; exact h2, by rw [upd_ne hp]; exact h3, by show (if p = d then _ else _) = _; rw [if_neg hp]; exact h4, RepL.flip (flip_lock hd) l h5⟩
    | ownd ks us =>
      obtain ⟨p, vs, h1, h2, h3, h4, h5, h6⟩ := y
      have hp : p ≠ d := fun h => by subst h; rw [hd] at h3; cases h3
      exact ⟨p, vs, h1, by rw [upd_ne hp]; exact h2, by rw [upd_ne hp]; exact h3, by show (if p = d then _ else _) = _; rw [if_neg hp]; exact h4, h5, RepL.flip (flip_lock hd) us h6⟩
/-- over the keys of a locked dict -/
theorem lc_keysT {d : Addr} {o : Obj} {kvs : List (List L2.Key × V)} {g : TG} {tt : TT} {te : TE} {vs : List Nat} {σ : Sg} {H1 : Hp} {D : Addr} {Qd : Hp → Prop} (Pv : Nat → Hp → Prop) (h0 : Pv 0 (upd H1 D (.lst []))) (hl : ∀ i H, i ≤ kvs.length → Pv i H → H d = some (.frz o (.dT kvs)))
    (hs : ∀ i k v q H, kvs[i]? = some (k, v) → H q = some (.tup (k.map kV)) → Pv i H → g (.ref q) (wipe σ vs) H fun σ2 H2 => wipe σ2 vs = wipe σ vs ∧ tt σ2 H2 fun b H3 =>
      if b = true then te σ2 H3 fun y H4 => ∃ acc, H4 D = some (.lst acc) ∧ acc.length < sizeLine ∧ Pv (i + 1) (upd H4 D (.lst (acc ++ [y]))) else Pv (i + 1) H3) (hd : ∀ H, Pv kvs.length H → Qd H) :
    ∃ W : Nat → Nat → Hp → Prop, (∃ m, W 0 m (upd H1 D (.lst []))) ∧ ∀ i m H, W i m H →
      ((Itkt d o kvs).stop i H ∧ Qd H) ∨ ((Itkt d o kvs).go i H ∧ ∃ Nx : Hp → Prop, (∀ H', Nx H' → ∃ m', m' < m ∧ W (i + 1) m' H') ∧ ∀ x H', (Itkt d o kvs).yld i H x H' → g x (wipe σ vs) H' fun σ2 H2 => wipe σ2 vs = wipe σ vs ∧ tt σ2 H2 fun b H3 =>
        if b = true then te σ2 H3 fun y H4 => ∃ acc, H4 D = some (.lst acc) ∧ acc.length < sizeLine ∧ Nx (upd H4 D (.lst (acc ++ [y]))) else Nx H3) := by
  refine ⟨fun i m H => m = kvs.length - i ∧ i ≤ kvs.length ∧ Pv i H, ⟨kvs.length, by simp, Nat.zero_le _, h0⟩, ?_⟩
  rintro i m H ⟨rfl, hi, p⟩
  have q := hl i H hi p
  by_cases hlt : i < kvs.length
  · refine .inr ⟨⟨q, hlt⟩, Pv (i + 1), fun H' p' => ⟨kvs.length - (i + 1), by omega, rfl, hlt, p'⟩, fun x H' y => ?_⟩
    obtain ⟨e, k, v, r, h1, rfl, h2⟩ := y
    subst e
    exact hs i k v r _ h1 h2 p
  · have e : i = kvs.length := by omega
    subst e
    exact .inl ⟨⟨q, Nat.le_refl _⟩, hd H p⟩
theorem keys_rl {F : Hp} : ∀ k : List L2.Key, RepL G F (k.map keyD) (k.map kV)
  | [] => rfl
  | .inl i :: k => ⟨_, _, rfl, rfl, keys_rl k⟩
  | .inr x :: k => ⟨_, _, rfl, rfl, keys_rl k⟩
theorem lcD_core {tt te : DE} {TT' : TT} {Te : TE} {i j : Nat} (ht : LT G (fun _ _ _ _ => False) tt TT') (he : LE G (fun _ _ _ _ => False) te Te) {F0 H0 : Hp} {ρ : Env} {F : Hp} {σ : Sg} {H : Hp} {Q : DK} {QV : VK} {d : Addr} {o : Obj} {kvs : List (List L2.Key × V)} (S : SRep G F0 H0 F H σ ρ) (hf : F d = some (.frz o (.dT kvs))) (hσ : σ[j]? = some (some (.ref d))) (hN : i < σ.length) (hl : kvs.length ≤ 16777216)
    (q : dEach (oneLc i tt te ρ) (kvs.map fun p => DL.D.tup (p.1.map keyD)) fun ys => Q (.own ys))
    (hq : ∀ (D : Addr) acc ys F' H', Ext F H F' H' → H D = none → H' D = some (.lst acc) → F' D = none → RepL G F' ys acc → Q (.own ys) → QV (.ref D) H') :
    tLc (iKeys (tVar j)) (gName i) TT' Te [i] σ H QV := by
  have hHd := S.same _ _ hf
  refine ⟨.ref d, hσ, d, o, rfl, .inr ⟨kvs, hHd, fun D hD => lc_keysT (fun n H' => ∃ F' acc ys, Ext F H F' H' ∧ H' D = some (.lst acc) ∧ F' D = none ∧ RepL G F' ys acc ∧ acc.length ≤ n ∧ dEach (oneLc i tt te ρ) ((kvs.map fun p => DL.D.tup (p.1.map keyD)).drop n) fun zs => Q (.own (ys ++ zs))) ⟨F, [], [], ⟨Same.refl _, S.same.trans (same_upd hD), .of (same_upd hD), fun _ _ z => .inl z⟩, upd_same, S.same.free hD, rfl, Nat.le_refl _, q⟩ ?_ ?_ ?_⟩⟩
  · rintro n H' hn ⟨F', acc, ys, e, _⟩
    exact e.fh _ _ (e.f _ _ hf)
  · rintro n k v r H' hk hr ⟨F', acc, ys, e, g1, g2, g3, g4, g5⟩
    have hd : (kvs.map fun p => DL.D.tup (p.1.map keyD))[n]? = some (DL.D.tup (k.map keyD)) := by
      rw [List.getElem?_map, hk]; rfl
    have hjl := (List.getElem?_eq_some_iff.mp hd).1
    rw [List.length_map] at hjl
    rw [drop_at hd] at g5
    have e1 := ext_tup e.fh hr
    have hDr : D ≠ r := fun h => by subst h; rw [g1] at hr; cases hr
    have rx : Rep G (fun b => if b = r then some (.tup (k.map kV)) else F' b) (.tup (k.map keyD)) (.ref r) := ⟨r, k.map kV, rfl, ⟨.inl (.inl (if_pos rfl)), fun _ => if_pos rfl⟩, keys_rl k⟩
    refine lc_step ht he S (e.trans e1) g1 (by show (if D = r then _ else _) = _; rw [if_neg hDr]; exact g2) hD (RepL.mono e1.f ys g3) rx hN (by omega) g5 fun F2 H2 acc' o e2 sF k1 k2 k3 k4 => ⟨F2, acc', _, e2, k1, k2, k3, ?_, ?_⟩
    · have w := k3.length
      have w0 := g3.length
      cases o <;> simp at w <;> omega
    · cases o with
      | none => exact k4
      | some y => simpa using k4
  · rintro H' ⟨F', acc, ys, e, g1, g2, g3, g4, g5⟩
    rw [← List.length_map (f := fun p : List L2.Key × V => DL.D.tup (p.1.map keyD)), List.drop_length] at g5
    have g5 : Q (.own (ys ++ [])) := g5
    rw [List.append_nil] at g5
    exact hq D acc ys F' H' e hD g1 g2 g3 g5
theorem ext_unlock {F H F2 H2 : Hp} {a : Addr} {od : Obj} {kvs : List (List L2.Key × V)} (hd : F a = some (.dT kvs)) (sm : Same F H) (e : Ext (upd F a (.frz od (.dT kvs))) (upd H a (.frz od (.dT kvs))) F2 H2) : Ext F H (upd F2 a (.dT kvs)) (upd H2 a (.dT kvs)) := by
  have hH := sm _ _ hd
  have nt : ∀ ps, H a ≠ some (.tbl ps) := fun ps z => by rw [hH] at z; cases z
  have nc : ∀ q, H a ≠ some (LamX.CodeO a q) := fun q z => by rw [hH] at z; exact dT_code q (Option.some.inj z)
  have h2 : H2 a = some (.frz od (.dT kvs)) := e.h.x a _ upd_same fun _ z => nomatch z
  refine ⟨fun b u z => ?_, fun b u z => ?_, ⟨fun b u z n => ?_, fun {b} z => ?_, fun P t => ?_⟩, fun b u z => ?_⟩
  · by_cases hb : b = a
    · subst hb
      rw [hd] at z; cases z; exact upd_same
    · rw [upd_ne hb]; exact e.f _ _ (by rw [upd_ne hb]; exact z)
  · by_cases hb : b = a
    · subst hb
      rw [upd_same] at z ⊢; exact z
    · rw [upd_ne hb] at z ⊢; exact e.fh _ _ z
  · by_cases hb : b = a
    · subst hb
      rw [hH] at z; cases z; exact upd_same
    · rw [upd_ne hb]; exact e.h.x _ _ (by rw [upd_ne hb]; exact z) n
  · by_cases hb : b = a
    · subst hb; rw [upd_same] at z; cases z
    · rw [upd_ne hb] at z
      have := e.h.free z
      rw [upd_ne hb] at this; exact this
  · exact tabS_but (e.h.tab P (tabS_but t (fun b hb => upd_ne hb) nt nc)) (fun b hb => upd_ne hb) (fun ps z => by rw [h2] at z; cases z) fun q z => by rw [h2] at z; unfold LamX.CodeO at z; cases z
  · by_cases hb : b = a
    · subst hb
      rw [upd_same] at z; cases z; exact .inl hd
    · rw [upd_ne hb] at z
      have y := e.new _ _ z
      rw [upd_ne hb, upd_ne hb] at y
      exact y
theorem le_lcD {tt te : DE} {TT' : TT} {Te : TE} {i j : Nat} (ht : LT G (fun _ _ _ _ => False) tt TT') (he : LE G (fun _ _ _ _ => False) te Te) {F0 H0 : Hp} {ρ : Env} {F : Hp} {σ : Sg} {H : Hp} {Q : DK} {QX : DX} {QV : VK} (hN : i < σ.length) (S : SRep G F0 H0 F H σ ρ) (q : dLcD i (dVar j) tt te ρ Q QX) (hq : ∀ s v F' H', Post G F H s v F' H' → Q s → QV v H') :
    tLockE (tLc (iKeys (tVar j)) (gName i) TT' Te [i]) σ H QV ∨ tLc (iKeys (tVar j)) (gName i) TT' Te [i] σ H QV := by
  unfold dLcD dVar at q
  cases hs : ρ[j]? with
  | none => rw [hs] at q; exact q.elim
  | some s =>
    rw [hs] at q
    cases s with
    | val d =>
      obtain ⟨v, h1, h2⟩ := S.sl j _ hs
      cases d with
      | dct ks us =>
        obtain ⟨a, kvs, rfl, rd, rfl, h3⟩ := h2
        obtain ⟨hl, q⟩ := q
        rw [List.length_map] at hl
        rcases rd with h | ⟨o, h⟩
        · refine .inl ⟨a, .dT kvs, S.same _ _ h, trivial, fun od => lcD_core ht he (S.lock h od) upd_same h1 hN hl q fun D acc ys F' H' e hD k1 k2 k3 k4 => ⟨e.fh _ _ (e.f _ _ upd_same), ?_⟩⟩
          have hDa : D ≠ a := fun h => by subst h; rw [upd_same] at hD; cases hD
          rw [upd_ne hDa] at hD
          refine hq (.own ys) (.ref D) (upd F' a (.dT kvs)) (upd H' a (.dT kvs)) ⟨ext_unlock h S.same e, D, acc, rfl, ?_, ?_, hD, RepL.flip (flip_free (e.f _ _ upd_same)) ys k3⟩ k4
          · rw [upd_ne hDa]; exact k1
          · rw [upd_ne hDa]; exact k2
        · exact .inr (lcD_core ht he S h h1 hN hl q fun D acc ys F' H' e hD k1 k2 k3 k4 => hq (.own ys) _ F' H' ⟨e, D, acc, rfl, k1, k2, hD, k3⟩ k4)
      | _ => exact q.elim
    | _ => exact q.elim
end
section
variable {X : Cx} {G : Gx} {W : WX} {k : Nat} {te : DE} {pos p : Pos} {n i j : Nat} {x y : Str} {scope : Scope} {elt : Expr} {ifs : List Expr} {tt : DE} {sp : Pos}
theorem pe_or {e : Expr} {t1 t2 : TE} (h1 : PE X e t1) (h2 : PE X e t2) : PE X e (fun σ H Q => t1 σ H Q ∨ t2 σ H Q) := ⟨fun pins s σ H Q I h => h.elim (fun z => h1.run pins s σ H Q I z) fun z => h2.run pins s σ H Q I z⟩
theorem j_lcD {p2 : Pos} (C : Cxt X G W k) {el : DE} (ok : BlkOk X.N X.env.scope scope [(x, i)]) (ht : ∀ q : BI, JI (blkOf X scope q) G ifs tt) (he : ∀ q : BI, JE (blkOf X scope q) G W0 elt el)
    (hNj : X.N[j]? = some y := by rfl) (hv : Vis X.env.scope y := by first | exact Or.inl rfl | exact Or.inr (Or.inl rfl) | exact Or.inr (Or.inr rfl)) (hd : (y == ("__debug__" : Str)) = false := by decide) (hcd : (y == ("__classdict__" : Str)) = false := by decide)
    (hx : ∀ q : BI, Loc (blkOf X scope q).env.scope x := by exact fun _ => Or.inl rfl) (hf : ∀ q : BI, (blkOf X scope q).fn x = true ∨ (blkOf X scope q).env.scope.names.lookup x = some .local := by first | exact fun _ => .inr rfl | exact fun _ => .inl rfl)
    (hi : X.N[i]? = some x := by rfl) (hs : ∀ x, foldedSetIterable (.Name y p2) X.env x = pure x := by intro _; rfl) : JE X G W (.ListComp elt [⟨.Name x p, .Name y p2, ifs, 0⟩] scope pos) (dLcD i (dVar j) tt el) := by
  obtain ⟨TT', h1, l1⟩ := pts_uni ht
  obtain ⟨Te, h2, l2⟩ := pe_uni he
  have hil : i < X.N.length := (List.getElem?_eq_some_iff.mp hi).1
  have hp := pe_lc (pos := pos) (tg := .Name x p) (own := [(x, i)]) C.calm C.nd (pi_keys (pe_var hNj hv hd hcd)) ok (fun s H C' cl fp => pg_name (i := i) C.nd hi (hx (s, H, C', cl, fp)) (hf (s, H, C', cl, fp))) (fun s H C' cl fp => h1 (s, H, C', cl, fp)) (fun s H C' cl fp => h2 (s, H, C', cl, fp)) hs
  refine ⟨_, PE.len (pe_or (pe_lock hp) hp), LE.len _ ?_⟩
  intro F0 H0 ρ F σ H Q QX QV hN S qq hq hxx
  exact le_lcD l1 l2 (by rw [hN]; exact hil) S qq hq
end
end DL

/- DLs -/
namespace DL
def sortI (l : List Int) : List Int := l.mergeSort fun a b => decide (a ≤ b)
/-- sorted(xs) of whole numbers -/
def fSortI : List D → DK → Prop
  | [.lst l], Q => l.all D.isI = true ∧ l.length ≤ 16777216 ∧ Q (.own ((sortI (l.map D.num)).map D.int))
  | _, _ => False
instance : Det1 fSortI := ⟨by (intro x; refine has_of fun Q X z => ?_; unfold fSortI at z; split at z <;> first | exact z.elim | exact ⟨_, fun _ _ => ⟨fun y => y.2.2, fun q => ⟨z.1, z.2.1, q⟩⟩⟩)⟩
/-- list(range(j)) -/
def fListR : List D → DK → Prop
  | [.int j], Q => (-(2 ^ 62) ≤ j ∧ j ≤ 16777216) ∧ Q (.own (rangeD 0 j))
  | _, _ => False
instance : Det1 fListR := ⟨by (intro x; refine has_of fun Q X z => ?_; unfold fListR at z; split at z <;> first | exact z.elim | exact ⟨_, fun _ _ => ⟨fun y => y.2, fun q => ⟨z.1, q⟩⟩⟩)⟩
/-- isinstance(x, (list, tuple)) -/
def oIsLT (x : D) (Q : DK) : Prop := x.plain = true ∧ Q (.val (.bl (x.isList || x.isTuple)))
instance : Det1 oIsLT := ⟨fun x => has_if (has_val _)⟩
/-- how many numbers range(i, j, c) has, c above nought -/
def stepN (i j c : Int) : Nat := if i < j then ((j - i - 1) / c + 1).toNat else 0
def rangeS (i c : Int) (n : Nat) : List D := (List.range n).map fun (k : Nat) => D.int (i + (k : Int) * c)
/-- range(i, j, c), c above nought, walked at once -/
def fRange3 : List D → DK → Prop
  | [.int i, .int j, .int c], Q => (-1000000000 ≤ i ∧ i ≤ 1000000000 ∧ -1000000000 ≤ j ∧ j ≤ 1000000000 ∧ 1 ≤ c ∧ c ≤ 1000) ∧ Q (.val (.lst (rangeS i c (stepN i j c))))
  | _, _ => False
instance : Det1 fRange3 := ⟨by (intro x; refine has_of fun Q X z => ?_; unfold fRange3 at z; split at z <;> first | exact z.elim | exact ⟨_, fun _ _ => ⟨fun y => y.2, fun q => ⟨z.1, q⟩⟩⟩)⟩
/-- for x in xs: if c: return e; xs the def's own list in slot j -/
def dForO (i j : Nat) (tc te : DE) : DS := fun n q _ _ x r => i ≠ j ∧ (slotAt r j).owned fun l => dEvery i (dIf tc (dRet te) dNext) n q x l r
/-- an exception of class c, made with these fields -/
def dMkX (c : Nat) (ta : DA) : DE := fun r Q X => ta r (fun ds => Q (.val (.obj c ds))) X
/-- two rising rows of the same numbers are one -/
theorem rising_one : ∀ {a b : List Int}, a.Perm b → a.Pairwise (· ≤ ·) → b.Pairwise (· ≤ ·) → a = b
  | [], b, p, _, _ => (List.nil_perm.mp p).symm
  | x :: a, [], p, _, _ => absurd (p.length_eq) (by simp)
  | x :: a, y :: b, p, h1, h2 => by
    obtain ⟨a1, a2⟩ := List.pairwise_cons.mp h1
    obtain ⟨b1, b2⟩ := List.pairwise_cons.mp h2
    have exy : x = y := by
      have hx : x ∈ y :: b := p.mem_iff.mp List.mem_cons_self
      have hy : y ∈ x :: a := p.mem_iff.mpr List.mem_cons_self
      rcases List.mem_cons.mp hx with e | hx
      · exact e
      · rcases List.mem_cons.mp hy with e | hy
        · exact e.symm
        · have := a1 y hy
          have := b1 x hx
          omega
    subst exy
    rw [rising_one (List.perm_cons x |>.mp p) a2 b2]
theorem sortI_is {l l' : List Int} (p : l'.Perm l) (h : l'.Pairwise (· ≤ ·)) : l' = sortI l := by
  unfold sortI
  refine rising_one (p.trans (List.mergeSort_perm l _).symm) h ?_
  have := List.pairwise_mergeSort (le := fun a b : Int => decide (a ≤ b)) (fun a b c h1 h2 => decide_eq_true (Int.le_trans (of_decide_eq_true h1) (of_decide_eq_true h2))) (fun a b => by
    rcases Int.le_total a b with g | g
    · rw [decide_eq_true g]; rfl
    · rw [decide_eq_true g, Bool.or_true]) l
  exact this.imp fun {a b} h => of_decide_eq_true h
end DL

/- DLw -/
namespace DL
open PySem PySem.Spec PyProof.Rows L2
/-- a comprehension's own scope in a def of scope D -/
def relab (D scope : Scope) : Scope := { scope with names := scope.names.map fun p => if (p.2 == .free && D.kind == .function && D.names.lookup p.1 == some .cell) then (p.1, .cell) else p }
/-- a comprehension within a comprehension -/
theorem blkOk_at {X : Cx} {scope scope' D : Scope} {own : List (Str × Nat)} {N : List Str} {q : BI} (hN : X.N = N) (hD : X.env.scope = D) (h : blkC N (relab D scope) scope' own = true) : BlkOk (blkOf X scope q).N (blkOf X scope q).env.scope scope' own := by
  subst hN hD
  have e : (blkOf X scope q).env.scope = relab X.env.scope scope := by
    show relabel scope X.env = _
    unfold relabel relab
    congr 1
  rw [e]
  exact blkOk_by (N := X.N) h
section
variable {G : Gx} {W : WX} {ta te : DE} {Ta Te : TE} {ts : DA} {Ts : TA} {t : DS} {T : TS}
theorem ints_isI {l : List D} (h : l.all D.isI = true) : l = (l.map D.num).map D.int := by
  rw [List.map_map]
  have key : ∀ x ∈ l, (D.int ∘ D.num) x = x := fun x hx => by
    have z := List.all_eq_true.mp h x hx
    cases x <;> first | rfl | cases z
  rw [List.map_congr_left key, List.map_id'']
  exact fun _ => rfl
theorem rep_ints {F : Hp} : ∀ {ns : List Int} {vs : List V}, RepL G F (ns.map D.int) vs → vs = ns.map V.int
  | [], _, h => h
  | n :: ns, _, ⟨v, r, e, h1, h2⟩ => by rw [e, show v = V.int n from h1, rep_ints h2]; rfl
theorem lr_sortI : LRs G fSortI (rSortedI G.K) := fun F H xs us Q QV e r q hq => by
  unfold fSortI at q
  split at q
  · rename_i l
    obtain ⟨v, rfl, a, vs, rfl, h1, h2⟩ := one_rep r
    obtain ⟨q1, q2, q3⟩ := q
    rw [ints_isI q1] at h2
    have ev := rep_ints h2
    subst ev
    refine ⟨a, l.map D.num, rfl, sqL_mono e h1, fun ns' p hp hs hn => ?_⟩
    rw [sortI_is hp hs] 
    exact hq _ _ F _ (.mkOwn (.refl e) hn (intsL _)) q3
  · exact q.elim
theorem le_listR (ha : LE G W ta Ta) : LE G W (dAs fListR (dCons ta dNil)) (tLstRg (tRg1 Ta)) := fun F0 H0 ρ F σ H Q QX QV S q hq hx =>
  ha.v S q (fun d v F1 H1 e1 r1 q1 => by
    cases d with
    | int j =>
      obtain ⟨⟨b1, b2⟩, q2⟩ := q1
      refine ⟨j, r1, ⟨by decide, by decide, b1, by omega, by omega⟩, fun p hp => hq _ _ F1 _ (.mkOwn e1 hp ?_) q2⟩
      have key : ∀ (l : List Nat), RepL G F1 (l.map fun (i : Nat) => D.int (0 + (i : Int))) (l.map fun i => V.int (0 + (i : Nat))) := fun l => by
        induction l with
        | nil => exact rfl
        | cons x l ih => exact ⟨_, _, rfl, rfl, ih⟩
      exact key _
    | _ => exact q1.elim) hx
theorem le_isLT (ha : LE G W ta Ta) : LE G W (dUn oIsLT ta) (tCB (rIsiT G.K) (tCons Ta (tCons (tTup (tCons (tC (.ty "list")) (tCons (tC (.ty "tuple")) tNil))) tNil))) := fun F0 H0 ρ F σ H Q QX QV S q hq hx =>
  ha.v S q (fun x v F1 H1 e1 r1 q1 => ⟨by rw [sizeLine_eq]; decide, fun tp htp => by
    have e2 : Ext F1 H1 (upd F1 tp (.tup [.ty "list", .ty "tuple"])) (upd H1 tp (.tup [.ty "list", .ty "tuple"])) := .put e1.fh htp
    refine ⟨v, tp, [.ty "list", .ty "tuple"], .type x.tyn, [.type "list", .type "tuple"], x.isList || x.isTuple, rfl, upd_same, .cons (.ty _) (.cons (.ty _) .nil), rep_ty e2.fh q1.1 (Rep.mono e2.f x r1), ?_, hq _ _ _ _ (.val (e1.trans e2) (show Rep G _ (.bl _) (.bl _) from rfl)) q1.2⟩
    have k1 := kit_ty (K := G.K) (isi_list x q1.1)
    have k2 := kit_ty (K := G.K) (isi_tuple x q1.1)
    unfold PySem.W.kitAny
    rw [k1]
    cases hx : x.isList with
    | true => rfl
    | false =>
      show PySem.W.kitAny G.K _ _ = _
      unfold PySem.W.kitAny
      rw [k2]
      cases hy : x.isTuple with
      | true => rfl
      | false => rfl⟩) hx
theorem rangeS_at {i c : Int} {n k : Nat} (h : k < n) : (rangeS i c n)[k]? = some (.int (i + (k : Nat) * c)) := by
  unfold rangeS
  rw [List.getElem?_map, List.getElem?_range h]
  rfl
theorem rangeS_len {i c : Int} {n : Nat} : (rangeS i c n).length = n := by
  unfold rangeS
  rw [List.length_map, List.length_range]
theorem rgC_of {i j c : Int} (h : -1000000000 ≤ i ∧ i ≤ 1000000000 ∧ -1000000000 ≤ j ∧ j ≤ 1000000000 ∧ 1 ≤ c ∧ c ≤ 1000) : RgC i j c (stepN i j c) := by
  have hn : Builtin.Range.rangeSize i j c = (stepN i j c : Nat) := by
    unfold Builtin.Range.rangeSize stepN
    rw [if_pos (by omega)]
    split
    · have := Int.ediv_nonneg (a := j - i - 1) (b := c) (by omega) (by omega)
      omega
    · rfl
  have hle : ((stepN i j c : Nat) : Int) ≤ 2000000001 := by
    unfold stepN
    split
    · have := Int.ediv_nonneg (a := j - i - 1) (b := c) (by omega) (by omega)
      have := Int.ediv_le_self (a := j - i - 1) c (by omega)
      omega
    · decide
  have hmul : ((stepN i j c : Nat) : Int) * c ≤ 2000000001 + 1000 := by
    unfold stepN
    split
    · have h0 := Int.ediv_nonneg (a := j - i - 1) (b := c) (by omega) (by omega)
      have h1 := Int.mul_ediv_add_emod (j - i - 1) c
      have h2 := Int.emod_nonneg (j - i - 1) (show c ≠ 0 by omega)
      have e : (((j - i - 1) / c + 1).toNat : Int) = (j - i - 1) / c + 1 := by omega
      rw [e, Int.add_mul, Int.one_mul, Int.mul_comm]
      omega
    · have : ((0 : Nat) : Int) * c = 0 := Int.zero_mul c
      omega
  have hmul0 : 0 ≤ ((stepN i j c : Nat) : Int) * c := Int.mul_nonneg (by omega) (by omega)
  refine ⟨by omega, by omega, ?_, hn⟩
  unfold Builtin.Range.small
  rw [hn]
  simp only [Builtin.Range.rangeFitsLong, Bool.and_eq_true, Bool.or_eq_true, decide_eq_true_eq, beq_iff_eq]
  refine ⟨by omega, .inr ?_⟩
  rw [if_pos (by omega), Bool.and_eq_true, decide_eq_true_eq, decide_eq_true_eq]
  omega
theorem ls_forR3 {i n : Nat} (ha : LA G W n ts Ts) (hb : LS G W t T) : LS G W (dFor i (dAs fRange3 ts) t) (tFor (iRng3 Ts) (gName i) T) := fun F0 H0 ρ F σ H N D' S E q =>
  ha F0 H0 ρ F σ H _ _ _ S q (fun ds vs F1 H1 e1 r1 l1 q1 => by
    unfold fRange3 at q1
    split at q1
    · rename_i lo hi c
      obtain ⟨v, r', rfl, h1, h2⟩ := r1
      obtain ⟨w, x, rfl, h3, h4⟩ := two_rep h2
      refine ⟨lo, hi, c, stepN lo hi c, by rw [rint h1, rint h3, rint h4], rgC_of q1.1, ?_⟩
      refine for_rangeC (lo := lo) (c := c) (n := stepN lo hi c) (fun j σ H => ∃ ρ F, SRep G F0 H0 F H σ ρ ∧ dEvery i t N.nx N.rt N.xc ((rangeS lo c (stepN lo hi c)).drop j) ρ) ⟨ρ, F1, S.ext e1, q1.2⟩ ?_ ?_
      · rintro j σ' H' hj ⟨ρ', F', S', g3⟩
        rw [drop_at (rangeS_at hj)] at g3
        exact turn_step hb E (S'.set i (.val (.refl S'.same) (show Rep G F' (.int _) (.int _) from rfl))) g3 fun ρ2 F2 σ2 H2 S2 sF m => ⟨ρ2, F2, S2, m⟩
      · rintro σ' H' ⟨ρ', F', S', g3⟩
        have e : (rangeS lo c (stepN lo hi c)).drop (stepN lo hi c) = [] := List.drop_eq_nil_of_le (by rw [rangeS_len]; exact Nat.le_refl _)
        rw [e] at g3
        exact E.nx ρ' F' σ' H' S' g3
    · exact q1.elim) (E.xw S)
theorem ls_forO {i j : Nat} {tc : DE} {CA : TT} (hc : LT G W tc CA) (he : LE G W te Te) : LS G W (dForO i j tc te) (tFor (iSeq G.K (tVar j)) (gName i) (tIfS CA (tRet Te) tNext)) := fun F0 H0 ρ F σ H N D' S E q => by
  obtain ⟨hij, q⟩ := q
  unfold slotAt at q
  cases hs : ρ[j]? with
  | none => rw [hs] at q; exact q.elim
  | some s =>
   rw [hs] at q
   cases s with
   | own l =>
    obtain ⟨p, vs, h1, h2, h3, h4, h5⟩ := S.sl j _ hs
    refine ⟨.ref p, h1, .inl ⟨p, rfl, ⟨vs, .inl (.inl h2)⟩, for_list (K := G.K) (a := p) (xs := vs) (fun k σ H => ∃ ρ F, SRep G F0 H0 F H σ ρ ∧ ρ[j]? = some (.own l) ∧ σ[j]? = some (some (.ref p)) ∧ H p = some (.lst vs) ∧ RepL G F l vs ∧ dEvery i (dIf tc (dRet te) dNext) N.nx N.rt N.xc (l.drop k) ρ) ⟨ρ, F, S, hs, h1, h2, h5, q⟩ (fun k σ' H' _ ⟨ρ', F', S', g0, g1, g2, _⟩ => .inl (.inl g2)) ?_ ?_⟩⟩
    · rintro k x σ' H' hk ⟨ρ', F', S', g0, g1, g2, g3, g4⟩
      obtain ⟨d, hd, rd⟩ := at_of_len g3 hk
      rw [drop_at hd] at g4
      have S2 := S'.set i (.val (.refl S'.same) rd)
      have g4 : tc (ρ'.set i (.val d)) (fun s => s.bool fun b => two b (te (ρ'.set i (.val d)) N.rt fun e => N.xc e (ρ'.set i (.val d))) (dEvery i (dIf tc (dRet te) dNext) N.nx N.rt N.xc (l.drop (k + 1)) (ρ'.set i (.val d)))) (fun e => N.xc e (ρ'.set i (.val d))) := g4
      refine hc F0 H0 _ _ _ _ _ _ _ S2 g4 (fun b F1 H1 e1 q1 => two_if q1 (fun z => ?_) fun z => ?_) (E.xw S2)
      · exact he F0 H0 _ F1 _ H1 _ _ _ (S2.ext e1) z (fun s v F2 H2 p2 q2 => E.rt s v F2 H2 (p2.after (S2.ext e1).e) q2) (E.xw (S2.ext e1))
      · exact ⟨_, F1, S2.ext e1, by rw [List.getElem?_set_ne hij]; exact g0, by rw [List.getElem?_set_ne hij]; exact g1, e1.h.lst g2, RepL.mono e1.f l g3, z⟩
    · rintro σ' H' ⟨ρ', F', S', g0, g1, g2, g3, g4⟩
      rw [g3.length, List.drop_length] at g4
      exact E.nx ρ' F' σ' H' S' g4
   | _ => exact q.elim
end
section
variable {X : Cx} {G : Gx} {W : WX} {k : Nat} {a b c e : Expr} {es : List Expr} {ta tb tc te : DE} {ts : DA} {t u : DS} {pos p p2 p3 : Pos} {n i j l : Nat} {x y : Str} {sts : List Stmt}
theorem j_sortI (C : Cxt X G W k) (hm : X.mg "sorted" = none) (ha : JA X G W n [e] ts) (hg : Gl X "sorted" := by rfl) (he : starEach [e] X.env = [(false, eval e X.env)] := by rfl) : JE X G W (.Call (.Name "sorted" p) [e] [] pos) (dAs fSortI ts) :=
  j_bi cr_sortedI (by rw [C.K]; exact lr_sortI) hg hm boot_sorted' ha (he := he)
theorem j_listR (C : Cxt X G W k) (hm : X.mg "list" = none) (hm2 : X.mg "range" = none) (ha : JE X G W a ta) (hg : Gl X "list" := by rfl) (hg2 : Gl X "range" := by rfl) (na : starEach [a] X.env = (false, eval a X.env) :: starEach [] X.env := by rfl) (nb : starEach [.Call (.Name "range" p2) [a] [] p3] X.env = (false, eval (.Call (.Name "range" p2) [a] [] p3) X.env) :: starEach [] X.env := by rfl) :
    JE X G W (.Call (.Name "list" p) [.Call (.Name "range" p2) [a] [] p3] [] pos) (dAs fListR (dCons ta dNil)) := by
  obtain ⟨T', q, l⟩ := ha
  exact ⟨_, pe_listRg C.calm hg hm (prg_1 hg2 hm2 q na) nb, le_listR l⟩
theorem j_isLT {kk : Nat} (C : Cxt X G W k) (hm : X.mg "isinstance" = none) (hl : X.mg "list" = none) (ht : X.mg "tuple" = none) (ha : JE X G W a ta) (hg : Gl X "isinstance" := by rfl) (hgl : Gl X "list" := by rfl) (hgt : Gl X "tuple" := by rfl)
    (h1 : starEach (a :: [.Tuple [.Name "list" p, .Name "tuple" p2] kk p3]) X.env = (false, eval a X.env) :: starEach [.Tuple [.Name "list" p, .Name "tuple" p2] kk p3] X.env := by rfl) (h2 : starEach [.Tuple [.Name "list" p, .Name "tuple" p2] kk p3] X.env = (false, eval (.Tuple [.Name "list" p, .Name "tuple" p2] kk p3) X.env) :: starEach [] X.env := by rfl) (hpl : (backTo pos (starEach [.Tuple [.Name "list" p, .Name "tuple" p2] kk p3] X.env)).any (·.1) = false := by rfl)
    (h3 : starEach [.Name "list" p, .Name "tuple" p2] X.env = (false, eval (.Name "list" p) X.env) :: starEach [.Name "tuple" p2] X.env := by rfl) (h4 : starEach [.Name "tuple" p2] X.env = (false, eval (.Name "tuple" p2) X.env) :: starEach [] X.env := by rfl) {pc : Pos} :
    JE X G W (.Call (.Name "isinstance" pc) [a, .Tuple [.Name "list" p, .Name "tuple" p2] kk p3] [] pos) (dUn oIsLT ta) := by
  obtain ⟨T', q, l⟩ := ha
  refine ⟨_, pe_callB call_isiT hg hm boot_isinstance (pa_cons q (pa_cons (pe_tup (pa_cons (pe_bltn (v := .ty "list") hgl hl bt_list rfl (by decide) (by decide)) (pa_cons (pe_bltn (v := .ty "tuple") hgt ht bt_tuple rfl (by decide) (by decide)) pa_nil h4) h3)) pa_nil h2) h1) (he := h1) (hpl := hpl), ?_⟩
  rw [C.K]
  exact le_isLT l
/-- a walked range with a step -/
theorem s_forR3 (C : Cxt X G W k) (hm : X.mg "range" = none) (ha : JA X G W n [a, b, c] ts) (hb : JSs X G W sts t) (hg : Gl X "range" := by rfl) (hi : X.N[i]? = some x := by rfl) (hx : Loc X.env.scope x := by first | exact Or.inl rfl | exact Or.inr rfl)
    (hs : ∀ x, foldedSetIterable (.Call (.Name "range" p2) [a, b, c] [] p3) X.env x = pure x := by intro _; rfl) (hf : X.fn x = true ∨ X.env.scope.names.lookup x = some .local := by first | exact .inl rfl | exact .inr rfl)
    (h1 : starEach [a, b, c] X.env = (false, eval a X.env) :: starEach [b, c] X.env := by rfl) (h2 : (backTo p3 (starEach [b, c] X.env)).any (·.1) = false := by rfl) :
    JS X G W (.For (.Name x p) (.Call (.Name "range" p2) [a, b, c] [] p3) sts [] pos) (dFor i (dAs fRange3 ts) t) := by
  obtain ⟨_, q, l⟩ := ha
  obtain ⟨_, r, m⟩ := hb
  exact ⟨_, ps_for C.own C.calm (pi_range3 hg hm q h1 h2) (pg_name C.nd hi hx hf) r hs, ls_forR3 l m⟩
/-- for x in the def's own list: if c: return e -/
theorem s_forO {ce re : Expr} {p4 p5 : Pos} (C : Cxt X G W k) (hc : JT X G W ce tc) (he : JE X G W re te) (hi : X.N[i]? = some x := by rfl) (hx : Loc X.env.scope x := by first | exact Or.inl rfl | exact Or.inr rfl) (hs : ∀ z, foldedSetIterable (.Name y p2) X.env z = pure z := by intro _; rfl) (hf : X.fn x = true ∨ X.env.scope.names.lookup x = some .local := by first | exact .inl rfl | exact .inr rfl)
    (hN : X.N[j]? = some y := by rfl) (hv : Vis X.env.scope y := by first | exact Or.inl rfl | exact Or.inr (Or.inl rfl) | exact Or.inr (Or.inr rfl)) (hd : (y == ("__debug__" : Str)) = false := by decide) (hcd : (y == ("__classdict__" : Str)) = false := by decide) :
    JS X G W (.For (.Name x p) (.Name y p2) [.If ce [.Return (some re) p5] [] p4] [] pos) (dForO i j tc te) := by
  obtain ⟨_, q, l⟩ := hc
  obtain ⟨_, r, m⟩ := he
  refine ⟨_, ps_for C.own C.calm (pi_seq (pe_var hN hv hd hcd)) (pg_name C.nd hi hx hf) (pss_one (ps_if q (pss_one (ps_ret r)) pss_nil)) hs, ?_⟩
  rw [C.K]
  exact ls_forO l m
end
end DL

/- DLg -/
set_option maxHeartbeats 2000000
namespace DL
open PySem PySem.Spec PyProof.Rows L2 LamX NdefX
theorem clo_none (cells : List (Str × Addr)) : ∀ {names : List (Str × NameKind)}, (∀ y ∈ names, y.2 ≠ .free) → cloFrom cells names [] = []
  | [], _ => rfl
  | (x, k) :: r, h => by
    have hk : (k == NameKind.free) = false := beq_eq_false_iff_ne.mpr (h (x, k) List.mem_cons_self)
    unfold cloFrom
    rw [hk, if_neg Bool.false_ne_true]
    exact clo_none cells fun y hy => h y (List.mem_cons_of_mem _ hy)
theorem lamO_at {P : Program} {w : World} {H : Hp} {h : Heap} {f c : Addr} {L : LamW} (hok : HOk P w H h) (e : H f = some (LamO f c L)) : ∃ (od : Option Addr) (sl : Array (Option Value)) (pm ctv : Value), h.get? f = some (⟨.type "function", od, .func (PySem.W.kla_fn "<lambda>" L.qual L.params L.body L.scope L.cl pm (.ref c) ctv), sl⟩ : Obj) := (hok f _ e).1
theorem lamO_tbl {f c : Addr} {L : LamW} (ps : Array Value) : LamO f c L ≠ .tbl ps := fun z => by unfold LamO at z; cases z
section
variable {X : Cx} {pins : List (Addr × Obj)} {σ : Sg} {H : Hp} {s : Shared}
theorem inv_lam {L : LamW} {c : Addr} {pm ctv : Value} {t' : Nat} (I : Inv X pins σ H s) :
    Inv X pins σ (upd H s.heap.objs.size (LamO s.heap.objs.size c L)) { s with heap := s.heap.push { cls := .type "function", data := .func (PySem.W.kla_fn "<lambda>" L.qual L.params L.body L.scope L.cl pm (.ref c) ctv) }, toks := t' } := by
  refine I.laid (a := s.heap.objs.size) (fun b u e => Heap.get?_push_of_some _ e) (Nat.le_refl _) ?_
  have e : (s.heap.push ({ cls := .type "function", data := .func (PySem.W.kla_fn "<lambda>" L.qual L.params L.body L.scope L.cl pm (.ref c) ctv) } : Obj)).get? s.heap.objs.size = some ({ cls := .type "function", data := .func (PySem.W.kla_fn "<lambda>" L.qual L.params L.body L.scope L.cl pm (.ref c) ctv) } : Obj) := Heap.get?_push_size _ rfl
  exact ⟨⟨_, _, pm, ctv, e⟩, ⟨_, e⟩, fun h1 h2 ⟨od, sl, p, t, z⟩ st => ⟨od, sl, p, t, st _ z⟩⟩
/-- a lambda's function object: its code object is new, or the table tells it -/
theorem lam_new {c P : Addr} {params : Arguments} {body : Expr} {scope : Scope} {pos : Pos} {cl : List (Str × Addr)} {E : Value → Shared → Prop} {Q : Value → Shared → Prop} (I : Inv X pins σ H s) (TB : TabB X.base X.mg c P) (hcode : X.env.code = .ref c) (hT : TabW H P) (hn : lamNm pos.line pos.col = X.env.qual ++ "<lambda>") (hdef : defaultsOf params X.env = ([], [])) (hcl : closureFor scope X.env = pure cl)
    (h : ∀ (f c' : Addr) (H' : Hp) (s' : Shared), Inv X pins σ H' s' → Keep H H' → (∀ b o, b ≠ P → H b = some o → H' b = some o) → H f = none → f ≠ c' → (H c' = none ∨ H c' = some (CodeO c' (X.env.qual ++ "<lambda>"))) → H' f = some (LamO f c' ⟨X.env.qual ++ "<lambda>", params, body, scope, cl⟩) → H' c' = some (CodeO c' (X.env.qual ++ "<lambda>")) → Q (.ref f) s') :
    wpAny (model X.prog X.w) X.A (eval (.Lambda params body scope pos) X.env) Q E s := by
  obtain ⟨ps, hP, ht, ha⟩ := id hT
  refine PySem.W.kla_eval hdef ?_
  have bP : s.heap.BuiltinsAt X.mg P := TB.bm.keeps I.bk
  have hP' : s.heap.get? P = some { cls := .none, data := .fields ps } := I.hok P _ hP
  cases hc : codeAmong pos ps.toList with
  | none =>
    refine PySem.W.kla_makeFunction (mg := X.mg) (c := c) (P := P) (ps := ps) hcl I.ok.glob (I.mod.glob.keeps I.bk) hcode (TB.code.keeps I.bk) hP' ht hc TB.gP bP fun c' ctv h' tk hx hge hlt hrec htb => ?_
    obtain ⟨c2, oc, vs, t, e2, hoc, hd, hv⟩ := hrec
    cases e2
    have nC : H c' = none := I.hok.fresh hge
    have nPc : P ≠ c' := ne_of_none hP nC
    have I1 := inv_table (t' := tk) (more := #[rawInt pos.line, rawInt pos.col, .ref c']) (h' := h') I hP (fun b o hb e => hx b o hb e) htb hge ⟨oc, vs, t, hoc, hd, hv⟩
    generalize hH1 : upd (upd H P (.tbl (ps ++ #[rawInt pos.line, rawInt pos.col, .ref c']))) c' (CodeO c' (X.env.qual ++ "<lambda>")) = H1 at I1
    have at_ : ∀ b, b ≠ P → b ≠ c' → H1 b = H b := fun b h1 h2 => by rw [← hH1, upd_ne h2, upd_ne h1]
    have atP : H1 P = some (.tbl (ps ++ #[rawInt pos.line, rawInt pos.col, .ref c'])) := by rw [← hH1, upd_ne nPc, upd_same]
    have atC : H1 c' = some (CodeO c' (X.env.qual ++ "<lambda>")) := by rw [← hH1]; exact upd_same
    have hE : ∀ b o, b ≠ P → H b = some o → H1 b = some o := fun b o hb e => (at_ b hb (ne_of_none e nC)).trans e
    have nF : H1 h'.objs.size = none := I1.hok.fresh (Nat.le_refl _)
    have nF0 : H h'.objs.size = none := by
      have h1 : h'.objs.size ≠ P := fun z => by rw [z, atP] at nF; cases nF
      have h2 : h'.objs.size ≠ c' := fun z => by rw [z, atC] at nF; cases nF
      rw [← at_ _ h1 h2]; exact nF
    have I2 := inv_lam (L := ⟨X.env.qual ++ "<lambda>", params, body, scope, cl⟩) (c := c') (pm := (X.mg "__name__").getD .none) (ctv := ctv) (t' := tk) I1
    have hE2 : ∀ b o, b ≠ P → H b = some o → upd H1 h'.objs.size (LamO h'.objs.size c' ⟨X.env.qual ++ "<lambda>", params, body, scope, cl⟩) b = some o := fun b o hb e => (upd_ne (ne_of_none e nF0)).trans (hE b o hb e)
    have eL : (ps ++ #[rawInt pos.line, rawInt pos.col, .ref c']).toList = ps.toList ++ [rawInt pos.line, rawInt pos.col, .ref c'] := by simp
    have ncf : c' ≠ h'.objs.size := Nat.ne_of_lt hlt
    have atP2 : upd H1 h'.objs.size (LamO h'.objs.size c' ⟨X.env.qual ++ "<lambda>", params, body, scope, cl⟩) P = some (.tbl (ps ++ #[rawInt pos.line, rawInt pos.col, .ref c'])) := (upd_ne (fun z => by rw [← z, atP] at nF; cases nF)).trans atP
    have atC2 := (upd_ne (H := H1) (o := LamO h'.objs.size c' ⟨X.env.qual ++ "<lambda>", params, body, scope, cl⟩) ncf).trans atC
    refine h h'.objs.size c' _ _ I2 ⟨fun b o e n => ?_, fun {b} z => ?_, fun P0 t0 => ?_⟩ hE2 nF0 ncf.symm (.inl nC) upd_same atC2
    · exact hE2 b o (fun z => n ps (Option.some.inj (e.symm.trans (by rw [z]; exact hP)))) e
    · have z1 : H1 b = none := upd_none z
      rw [← hH1] at z1
      exact upd_none (upd_none z1)
    · by_cases hb : P0 = P
      · subst hb
        refine ⟨_, atP2, by rw [eL]; exact PySem.TriplesOk_snoc _ _ _ _ ht, fun p' cv hcv => ?_⟩
        rw [eL] at hcv
        rcases among_app2 _ ht hcv with z | ⟨z, z1, z2⟩
        · obtain ⟨c0, e1, e2⟩ := ha p' cv z
          exact ⟨c0, e1, hE2 _ _ (fun z => by rw [z, hP] at e2; exact codeO_tbl ps (Option.some.inj e2).symm) e2⟩
        · refine ⟨c', z, ?_⟩
          rw [← z1, ← z2, hn]
          exact atC2
      · obtain ⟨ps', a1, a2, a3⟩ := t0
        refine ⟨ps', hE2 _ _ hb a1, a2, fun p' cv hcv => ?_⟩
        obtain ⟨c0, e1, e2⟩ := a3 p' cv hcv
        exact ⟨c0, e1, hE2 _ _ (fun z => by rw [z, hP] at e2; exact codeO_tbl ps (Option.some.inj e2).symm) e2⟩
  | some cv =>
    obtain ⟨c', e, hco⟩ := ha pos cv hc
    subst e
    rw [hn] at hco
    refine PySem.W.kla_makeFunctionHit (mg := X.mg) (c := c) (P := P) (ps := ps) hcl I.ok.glob (I.mod.glob.keeps I.bk) hcode (TB.code.keeps I.bk) hP' ht hc bP fun ctv h' tk hx hsz => ?_
    have I1 : Inv X pins σ H { s with heap := h', toks := tk } := I.kept hx
    have nF : H h'.objs.size = none := I1.hok.fresh (Nat.le_refl _)
    have I2 := inv_lam (L := ⟨X.env.qual ++ "<lambda>", params, body, scope, cl⟩) (c := c') (pm := (X.mg "__name__").getD .none) (ctv := ctv) (t' := tk) I1
    have hs : Same H (upd H h'.objs.size (LamO h'.objs.size c' ⟨X.env.qual ++ "<lambda>", params, body, scope, cl⟩)) := same_upd nF
    exact h h'.objs.size c' _ _ I2 (.of hs) (fun b o _ e => hs b o e) nF (fun z => by rw [← z, nF] at hco; cases hco) (.inr hco) upd_same (hs _ _ hco)
end
/-- what the making tells -/
def tLamW (P : Addr) (L : LamW) : TE := fun σ H Q => TabW H P ∧ ∀ (f c : Addr) (H' : Hp), Keep H H' → (∀ b o, b ≠ P → H b = some o → H' b = some o) → H f = none → f ≠ c → (H c = none ∨ H c = some (CodeO c L.qual)) → H' f = some (LamO f c L) → H' c = some (CodeO c L.qual) → Q (.ref f) H'
section
variable {X : Cx} {G : Gx} {W : WX} {k : Nat} {params : Arguments} {body : Expr} {scope : Scope} {pos : Pos}
theorem pe_lamW {c P : Addr} (TB : TabB X.base X.mg c P) (hcode : X.env.code = .ref c) (hn : lamNm pos.line pos.col = X.env.qual ++ "<lambda>") (hdef : defaultsOf params X.env = ([], [])) (hfree : ∀ y ∈ scope.names, y.2 ≠ .free) :
    PE X (.Lambda params body scope pos) (tLamW P ⟨X.env.qual ++ "<lambda>", params, body, scope, []⟩) := by
  refine ⟨fun pins s σ H Q I h => ?_⟩
  obtain ⟨hT, h⟩ := h
  have hcl := closure_ok (scope := scope) (env := X.env) fun y hy e => absurd e (hfree y hy)
  rw [clo_none _ hfree] at hcl
  exact lam_new I TB hcode hT hn hdef hcl fun f c' H' s' I' K hE nf fc hc h1 h2 => ⟨.ref f, H', I', rfl, h f c' H' K hE nf fc hc h1 h2⟩
theorem le_lamW {P : Addr} {j : Nat} {L : LamW} (hP : P ∈ G.tabs) (hL : G.lam j = L) (hj : 100 ≤ j) : LE G W (dC (.fn j)) (tLamW P L) := fun F0 H0 ρ F σ H Q QX QV S q hq _ => by
  have tb := S.tabs
  refine ⟨(tb P hP).1, fun f c H' K hE nf fc hc h1 h2 => ?_⟩
  have fh := S.same
  have nF : F f = none := fh.free nf
  classical
  let F' : Hp := fun a => if a = f then some (LamO f c L) else if a = c then some (CodeO c L.qual) else F a
  have a1 : F' f = some (LamO f c L) := if_pos rfl
  have a2 : F' c = some (CodeO c L.qual) := by
    show (if c = f then _ else if c = c then _ else _) = _
    rw [if_neg fc.symm, if_pos rfl]
  have a3 : ∀ a, a ≠ f → a ≠ c → F' a = F a := fun a n1 n2 => by
    show (if a = f then _ else if a = c then _ else _) = _
    rw [if_neg n1, if_neg n2]
  have sF : Same F F' := fun a o z => by
    by_cases e1 : a = f
    · rw [e1, nF] at z; cases z
    · by_cases e2 : a = c
      · subst e2
        rcases hc with y | y
        · rw [fh.free y] at z; cases z
        · have := fh _ _ z
          rw [y] at this; cases this; exact a2
      · rw [a3 a e1 e2]; exact z
  have e : Ext F H F' H' := by
    refine ⟨sF, fun a o z => ?_, K, fun a o z => ?_⟩
    · by_cases e1 : a = f
      · subst e1; rw [a1] at z; cases z; exact h1
      · by_cases e2 : a = c
        · subst e2; rw [a2] at z; cases z; exact h2
        · rw [a3 a e1 e2] at z
          refine hE a o (fun y => ?_) (fh _ _ z)
          subst y
          rw [(tb _ hP).2] at z; cases z
    · by_cases e1 : a = f
      · subst e1; exact .inr (.inl nf)
      · by_cases e2 : a = c
        · subst e2; rw [a2] at z; cases z; exact .inr (.inr (.inr ⟨_, rfl⟩))
        · rw [a3 a e1 e2] at z; exact .inl z
  exact hq (.val (.fn j)) (.ref f) F' H' (.val e (show FnR G F' j (.ref f) from .inr ⟨hj, f, c, rfl, by rw [hL]; exact a1, by rw [hL]; exact a2⟩)) q
theorem j_lam {c P : Addr} {j : Nat} (TB : TabB X.base X.mg c P) (hcode : X.env.code = .ref c) (hP : P ∈ G.tabs) (hL : G.lam j = ⟨X.env.qual ++ "<lambda>", params, body, scope, []⟩) (hj : 100 ≤ j := by decide) (hn : lamNm pos.line pos.col = X.env.qual ++ "<lambda>" := by rfl) (hdef : defaultsOf params X.env = ([], []) := by rfl) (hfree : ∀ y ∈ scope.names, y.2 ≠ .free := by decide) :
    JE X G W (.Lambda params body scope pos) (dC (.fn j)) := ⟨_, pe_lamW TB hcode hn hdef hfree, le_lamW hP hL hj⟩
end
abbrev lamNF (L : LamW) (c : Addr) : NF := ⟨"<lambda>", L.qual, L.params, [], L.scope, L.cl, c⟩
structure LamOk (P : Program) (w : World) (K : PySem.W.Frag) (mg : Str → Option Value) (base : Heap) (CX : CXT) (k : Nat) (L : LamW) (ps : List Str) (sp : Sp) : Prop where
  len : ∀ vs H Q E, sp vs H Q E → vs.length = ps.length
  run : ∀ (A : Around) (outer : List PySem.Env) (s : Shared) (H : Hp) (f c : Addr) (us : List Value) (vs : List V) (Q : VK) (E : XK), Room k A → Env0 P w K mg base A outer s H → H f = some (LamO f c L) → H c = some (CodeO c L.qual) → Vals vs us → sp vs H Q E →
    codeAny (model P w) A (.call (.ref f) ⟨us, []⟩) (CR CX outer P w H s Q E) s
section
variable {P : Program} {w : World} {K : PySem.W.Frag} {mg : Str → Option Value} {base : Heap} {CX : CXT} {j k : Nat} {L : LamW} {N ps : List Str} {sp : Sp}
theorem LamOk.mono (o : LamOk P w K mg base CX j L ps sp) (h : j ≤ k) : LamOk P w K mg base CX k L ps sp := ⟨o.len, fun A outer s H f c us vs Q E hr => o.run A outer s H f c us vs Q E (hr.mono h)⟩
theorem start_none (N : List Str) (vs : List V) : startF N vs [] = L2.start N vs := by
  unfold startF L2.start
  rw [List.nil_append]; rfl
/-- .. of a lambda that captures the names fr, whose cells hold ws -/
structure LamOkC (P : Program) (w : World) (K : PySem.W.Frag) (mg : Str → Option Value) (base : Heap) (CX : CXT) (k : Nat) (L : LamW) (ps fr : List Str) (ws : List (Option V)) (sp : Sp) : Prop where
  len : ∀ vs H Q E, sp vs H Q E → vs.length = ps.length
  run : ∀ (A : Around) (outer : List PySem.Env) (s : Shared) (H : Hp) (f c : Addr) (us : List Value) (vs : List V) (Q : VK) (E : XK), Room k A → Env0 P w K mg base A outer s H → H f = some (LamO f c L) → H c = some (CodeO c L.qual) → CellsAt L.cl fr ws s.heap H → Vals vs us → sp vs H Q E →
    codeAny (model P w) A (.call (.ref f) ⟨us, []⟩) (CR CX outer P w H s Q E) s
theorem lamOkC_of {fr : List Str} {ws : List (Option V)} (S : NScope N ps fr L.scope) (hb : ∀ (pm ctv : Value) (c : Addr) (us : List Value), us.length = ps.length → bindArgs (PySem.W.kla_fn "<lambda>" L.qual L.params L.body L.scope L.cl pm (.ref c) ctv) ⟨us, []⟩ = pure (ps.zip us)) (len : ∀ vs H Q E, sp vs H Q E → vs.length = ps.length)
    (hbody : ∀ (A : Around) (outer : List PySem.Env) (s : Shared) (H : Hp) (f c : Addr) (vs : List V) (Q : VK) (E : XK), Room k (A.deeper (envF (lamNF L c) f s.heap.objs.size)) → sp vs H Q E → ∃ T, PE (ncx CX P w K mg base N (lamNF L c) f A outer s H E) L.body T ∧ T (startF N vs ws) H Q) :
    LamOkC P w K mg base CX (k + 1) L ps fr ws sp := by
  refine ⟨len, fun A outer s H f c us vs Q E hr e0 hf hc C r hsp => ?_⟩
  have hl := len _ _ _ _ hsp
  have lim : s.heap.NoLimit := e0.mod.nolimit.keeps fun b o e => (e0.bs b o e).1
  obtain ⟨od, sl, pm, ctv, ho⟩ := lamO_at e0.hok hf
  refine PySem.W.kla_callFunE hr.depth ho rfl S.co S.gen rfl (codeO_at e0.hok hc) ?_
  rw [hb pm ctv c us (by rw [← r.length]; exact hl)]
  refine wpAny_pure (wpAny_newFunctionEnv S.nocell (fun ⟨n, _⟩ hy => S.par n (List.of_mem_zip hy).1) (fun h₁ hns hsb => ⟨lim.fresh _ hsb, ?_⟩) S.kind)
  show codeAny _ _ (.expr L.body (envF (lamNF L c) f s.heap.objs.size)) _ _
  have kp : ∀ b o, s.heap.get? b = some o → h₁.get? b = some o := fun b o e => hsb.extBut b o (Nat.ne_of_lt (Heap.lt_size e)) (Heap.get?_push_of_some _ e)
  obtain ⟨T, hT, hq⟩ := hbody A outer s H f c vs Q E (hr.deeper _) hsp
  have C0 : CellsAt (lamNF L c).cl fr ws s.heap H := C
  have I : Inv (ncx CX P w K mg base N (lamNF L c) f A outer s H E) [] (startF N vs ws) H { s with heap := h₁, toks := s.toks + (ps.zip us).length } := inv_startN S hr.hd e0 hl r C0 hns kp
  refine PySem.W.kla_codeExpr (wpAny_mono (hT.run [] _ _ H Q I hq) (fun v s' hv => ?_) fun e s' hs => hs)
  obtain ⟨v', H', J, rv, q⟩ := hv
  exact ⟨v', H', J.os, J.bare, J.base, J.hok, rv, q⟩
theorem lamOk_of (hcl : L.cl = []) (S : NScope N ps [] L.scope) (hb : ∀ (pm ctv : Value) (c : Addr) (us : List Value), us.length = ps.length → bindArgs (PySem.W.kla_fn "<lambda>" L.qual L.params L.body L.scope L.cl pm (.ref c) ctv) ⟨us, []⟩ = pure (ps.zip us)) (len : ∀ vs H Q E, sp vs H Q E → vs.length = ps.length)
    (hbody : ∀ (A : Around) (outer : List PySem.Env) (s : Shared) (H : Hp) (f c : Addr) (vs : List V) (Q : VK) (E : XK), Room k (A.deeper (envF (lamNF L c) f s.heap.objs.size)) → sp vs H Q E → ∃ T, PE (ncx CX P w K mg base N (lamNF L c) f A outer s H E) L.body T ∧ T (L2.start N vs) H Q) :
    LamOk P w K mg base CX (k + 1) L ps sp := by
  have F := lamOkC_of (ws := []) S hb len fun A outer s H f c vs Q E hr h => by rw [start_none]; exact hbody A outer s H f c vs Q E hr h
  exact ⟨len, fun A outer s H f c us vs Q E hr e0 hf hc r hsp => F.run A outer s H f c us vs Q E hr e0 hf hc (by rw [hcl]; exact ⟨rfl, (fun y c z => nomatch z), (fun x y c z => nomatch z), fun i y (z : ([] : List Str)[i]? = some y) => by simp at z⟩) r hsp⟩
end
section
variable {P : Program} {w : World} {G : Gx} {mg : Str → Option Value} {base : Heap} {k np n : Nat} {L : LamW} {N ps : List Str} {t : DE}
theorem cxt_lam {f c : Addr} {A : Around} {outer : List PySem.Env} {s : Shared} {H : Hp} {E : XK} (hN : N.Nodup) (hr : Room k (A.deeper (envF (lamNF L c) f s.heap.objs.size))) : Cxt (ncx (L2.CX P w) P w G.K mg base N (lamNF L c) f A outer s H E) G (fun cls d _ H => E cls d H) k := by
  have tk : Takes (ncx (L2.CX P w) P w G.K mg base N (lamNF L c) f A outer s H E) (fun cls d _ H => E cls d H) := takes_of rfl rfl rfl rfl
  exact ⟨rfl, rfl, hN, hr, fun σ => passAt tk σ, passes_of rfl, tk⟩
/-- THE RULE for a lambda -/
theorem lam_mk (hcl : L.cl = []) (S : NScope N ps [] L.scope) (hN : N.length = n) (hp : ps.length = np) (hnp : np ≤ n) (hb : ∀ (pm ctv : Value) (c : Addr) (us : List Value), us.length = ps.length → bindArgs (PySem.W.kla_fn "<lambda>" L.qual L.params L.body L.scope L.cl pm (.ref c) ctv) ⟨us, []⟩ = pure (ps.zip us))
    (hbody : ∀ (f c : Addr) (A : Around) (outer : List PySem.Env) (s : Shared) (H : Hp) (E : XK), Room k (A.deeper (envF (lamNF L c) f s.heap.objs.size)) → JE (ncx (L2.CX P w) P w G.K mg base N (lamNF L c) f A outer s H E) G (fun cls d _ H => E cls d H) L.body t) :
    LamOk P w G.K mg base (L2.CX P w) (k + 1) L ps (spD G (dFun np n (dRet t))) := by
  refine lamOk_of hcl S hb (fun vs H Q E h => ?_) fun A outer s H f c vs Q E hr h => ?_
  · obtain ⟨F', ds, QD, QX, _, _, r, ⟨hl, _⟩, _⟩ := h
    rw [r.length, hl, hp]
  · obtain ⟨F', ds, QD, QX, e, tb, r, ⟨hl, q⟩, hQ, hX⟩ := h
    obtain ⟨T, hT, hL⟩ := hbody f c A outer s H E hr
    refine ⟨T, hT, hL F' H _ F' _ H _ _ _ (sRep_start e tb r hN hl hnp) q (fun s v F1 H1 p q1 => hQ s v F1 H1 p q1) fun x q1 cls d F1 H1 e1 r1 => hX x q1 cls d F1 H1 e1 r1⟩
end
def tCallLm (i : Nat) (L : LamW) (sp : Sp) (E : Sg → XK) (t : TA) : TE := fun σ H Q => ∃ f c, σ[i]? = some (some (.ref f)) ∧ H f = some (LamO f c L) ∧ H c = some (CodeO c L.qual) ∧ t σ H fun vs H1 => H1 f = some (LamO f c L) ∧ H1 c = some (CodeO c L.qual) ∧ sp vs H1 Q (E σ)
section
variable {X : Cx} {CX : CXT} {L : LamW} {ps : List Str} {i j k : Nat} {x : Str} {sp : Sp} {E : Sg → XK} {t : TA} {e : Expr} {es : List Expr} {p pos : Pos}
theorem lam_fnAt {pins : List (Addr × Obj)} {σ : Sg} {H : Hp} {s : Shared} {f c : Addr} (I : Inv X pins σ H s) (e : H f = some (LamO f c L)) : PySem.W.FnAt f s.heap := by
  obtain ⟨od, sl, pm, ctv, ho⟩ := lamO_at I.hok e
  exact ⟨_, od, _, sl, ho⟩
theorem pe_callLm (Fn : LamOk X.prog X.w X.K X.mg X.base CX k L ps sp) (hr : Room j X.A) (hk : k ≤ j) (hx : ∀ σ, PassesAt CX X σ (E σ)) (hN : X.N[i]? = some x) (hv : Vis X.env.scope x) (ha : PA X (e :: es) t)
    (hd : (x == ("__debug__" : Str)) = false := by decide) (hcd : (x == ("__classdict__" : Str)) = false := by decide)
    (he : starEach (e :: es) X.env = (false, eval e X.env) :: starEach es X.env := by rfl) (hpl : (backTo pos (starEach es X.env)).any (·.1) = false := by rfl) :
    PE X (.Call (.Name x p) (e :: es) [] pos) (tCallLm i L sp E t) := by
  refine ⟨fun pins s σ H Q I h => ?_⟩
  obtain ⟨f, c, hs, hf, hc, ht⟩ := h
  refine wpAny_Call_Name_kw (thn ((pe_var (pos := p) hN hv hd hcd).run pins s σ H (fun v H1 => v = .ref f ∧ H1 = H) I ⟨.ref f, hs, rfl, rfl⟩) fun u s1 ⟨v, H1, I1, r1, q1⟩ => ?_)
  obtain ⟨ev, eH⟩ := q1
  subst ev
  rw [eH] at I1
  obtain rfl : u = Value.ref f := r1
  refine PySem.W.callWith_F (first := []) (lam_fnAt I1 hf) (thn (ha.run pos pins s1 σ H _ I1 ht) fun us s2 ⟨vs, H2, I2, r, h1, h2, q⟩ => ⟨lam_fnAt I2 h1, ?_⟩) he hpl
  show wpAny _ _ (call (.ref f) us) _ _ _
  refine wpAny_call (codeAny_mono (Fn.run X.A X.stack s2 H2 f c us vs _ (E σ) (hr.mono hk) I2.env0 h1 h2 r q) fun r s' hq => ?_)
  cases r with
  | error e => exact hx σ pins H2 s2 e s' I2 hq
  | ok fl =>
    cases fl with
    | ret u => exact I2.after hq
    | next => exact False.elim hq
    | brk => exact False.elim hq
    | cont => exact False.elim hq
end
section
variable {X : Cx} {G : Gx} {W : WX} {i j k l n : Nat} {x : Str} {f : DF} {ts : DA} {Ts : TA} {e : Expr} {es : List Expr} {p pos : Pos} {ps : List Str}
theorem le_callLm (hj : 100 ≤ j) (ha : LA G W n ts Ts) : LE G W (dCallV i j f ts) (tCallLm i (G.lam j) (spD G f) (WE W) Ts) := fun F0 H0 ρ F σ H Q QX QV S q hq hx => by
  obtain ⟨q0, q⟩ := q
  have hs : ρ[i]? = some (.val (.fn j)) := by
    cases h : ρ[i]? with
    | none => rw [h] at q0; cases q0
    | some s => rw [h] at q0; exact congrArg some q0
  obtain ⟨v, h1, h2⟩ := S.sl i _ hs
  rcases h2 with ⟨h2, _⟩ | ⟨_, a, c, rfl, h3, h4⟩
  · omega
  have fh := S.same
  refine ⟨a, c, h1, fh _ _ h3, fh _ _ h4, ha F0 H0 ρ F σ H _ _ _ S q (fun ds vs F1 H1 e1 r1 l1 q1 => ⟨e1.h.x _ _ (fh _ _ h3) lamO_tbl, e1.h.x _ _ (fh _ _ h4) codeO_tbl, F1, ds, Q, QX, e1.fh, (S.ext e1).tabs, r1, q1, fun s v F2 H2 p q2 => hq s v F2 H2 (p.after e1) q2, hx.ext e1⟩) hx⟩
theorem j_callLm (C : Cxt X G W k) (h : LamOk X.prog X.w G.K X.mg X.base (L2.CX X.prog X.w) l (G.lam j) ps (spD G f)) (ha : JA X G W n (e :: es) ts) (hj : l ≤ k := by decide) (hj2 : 100 ≤ j := by decide) (hN : X.N[i]? = some x := by rfl) (hv : Vis X.env.scope x := by first | exact Or.inl rfl | exact Or.inr (Or.inl rfl))
    (hdb : (x == ("__debug__" : Str)) = false := by decide) (hcd : (x == ("__classdict__" : Str)) = false := by decide)
    (he : starEach (e :: es) X.env = (false, eval e X.env) :: starEach es X.env := by rfl) (hpl : (backTo pos (starEach es X.env)).any (·.1) = false := by rfl) : JE X G W (.Call (.Name x p) (e :: es) [] pos) (dCallV i j f ts) := by
  obtain ⟨T, q, l⟩ := ha
  exact ⟨_, pe_callLm (by rw [C.K]; exact h) C.room hj C.hx hN hv q hdb hcd he hpl, le_callLm hj2 l⟩
end
end DL

/- DLla -/
namespace DL
/-- a reading with captured numbers -/
def dCap (np n : Nat) (cs : List Int) (t : DE) : DF := fun ds Q X => ds.length = np ∧ t (ds.map Sl.val ++ (cs.map (fun i => Sl.val (.int i)) ++ List.replicate (n - np - cs.length) .un)) Q X
/-- f(x, n, lambda .., k): a lambda that captures the number in slot i -/
def dPowC (i : Nat) (ta tb : DE) (f : Int → DF) (k : Int) : DE := fun r Q Y => ta r (fun s => s.use fun d1 => ∃ x, d1 = .int x ∧ tb r (fun s => s.use fun d2 => ∃ n, d2 = .int n ∧ ∃ m, r[i]? = some (.val (.int m)) ∧ f m [.int x, .int n, .fn 100, .int k] (fun s => ∃ z, s = .val (.int z) ∧ Q s) fun _ => False) Y) Y
/-- z = f(x, n, lambda .., 0): the lambda appends a 1 to the own list in slot j at each call -/
def dPowB (i j : Nat) (ta tb : DE) : DS := fun nn _ _ _ xx r => ta r (fun s => s.use fun d1 => ∃ x, d1 = .int x ∧ tb r (fun s => s.use fun d2 => ∃ n : Nat, d2 = .int n ∧ (slotAt r j).owned fun l => l.length + 2 * bits n ≤ 16777216 ∧ ∀ m, m ≤ 2 * bits n → nn ((r.set j (.own (l ++ List.replicate m (.int 1)))).set i (.val (.int (x * n))))) fun e => xx e r) fun e => xx e r
def oRepS : D → D → DK → Prop
  | .str a, .int k, Q => (a ≠ [] ∧ 0 ≤ k ∧ k ≤ 1000 ∧ a.length ≤ 1000) ∧ Q (.val (.str (List.replicate k.toNat a).flatten))
  | _, _, _ => False
end DL

/- DLl -/
set_option maxHeartbeats 2000000
namespace DL
open PySem PySem.Spec PyProof.Rows L2 LamX NdefX
/-- like FnOk, of calls where the cells cl hold ws -/
structure FnOkC (P : Program) (w : World) (K : PySem.W.Frag) (mg : Str → Option Value) (base : Heap) (CX : CXT) (k : Nat) (f : Addr) (fd : FuncData) (ps : List Str) (cl : List (Str × Addr)) (fr : List Str) (ws : List (Option V)) (sp : Sp) : Prop where
  len : ∀ vs H Q E, sp vs H Q E → vs.length = ps.length
  run : ∀ (A : Around) (outer : List PySem.Env) (s : Shared) (H : Hp) (args : Args) (us : List Value) (vs : List V) (Q : VK) (E : XK), Room k A → Env0 P w K mg base A outer s H → CellsAt cl fr ws s.heap H → (∀ y c, cl.lookup y = some c → c ∉ frs outer) → BindsTo s fd args (ps.zip us) → Vals vs us → sp vs H Q E →
    codeAny (model P w) A (.call (.ref f) args) (CR CX outer P w H s Q E) s
theorem FnOkC.mono {P : Program} {w : World} {K : PySem.W.Frag} {mg : Str → Option Value} {base : Heap} {CX : CXT} {j k : Nat} {f : Addr} {fd : FuncData} {ps : List Str} {cl : List (Str × Addr)} {fr : List Str} {ws : List (Option V)} {sp : Sp} (F : FnOkC P w K mg base CX j f fd ps cl fr ws sp) (h : j ≤ k) :
    FnOkC P w K mg base CX k f fd ps cl fr ws sp := ⟨F.len, fun A outer s H args us vs Q E hr => F.run A outer s H args us vs Q E (hr.mono h)⟩
theorem fn_ofC {CX : CXT} {P : Program} {w : World} {K : PySem.W.Frag} {mg : Str → Option Value} {base : Heap} {k : Nat} {f : Addr} {name qual : Str} {params : Arguments} {body : List Stmt} {scope : Scope} {dV kV doc pm cdv ct oc : Value} {an od : Option Addr}
    {osl : Array (Option Value)} {N ps : List Str} {sp : Sp} {cl : List (Str × Addr)} {fr : List Str} {ws : List (Option V)} (lk : K.lookup f = some ⟨oc, od, .func (PySem.W.fnOf name qual params body scope dV kV doc pm an cdv ct), osl⟩) (hcd : PySem.W.codeIn K cdv qual = true) (S : FnScope N ps scope)
    (len : ∀ vs H Q E, sp vs H Q E → vs.length = ps.length)
    (hbody : ∀ (A : Around) (outer : List PySem.Env) (s : Shared) (H : Hp) (vs : List V) (Q : VK) (E : XK), Room k (A.deeper (envOfC qual scope s.heap.objs.size f cdv)) → CellsAt cl fr ws s.heap H → (∀ y c, cl.lookup y = some c → c ∉ frs outer) → sp vs H Q E →
      ∃ t, PSs (cxOf CX P w K mg base N qual scope f cdv A outer s H E) body t ∧ t { nx := fun _ H' => Q .non H', rt := Q } (L2.start N vs) H) :
    FnOkC P w K mg base CX (k + 1) f (PySem.W.fnOf name qual params body scope dV kV doc pm an cdv ct) ps cl fr ws sp := by
  refine ⟨len, fun A outer s H args us vs Q E hr e0 hC hnf hb r hsp => ?_⟩
  have hl := len _ _ _ _ hsp
  have KX : K.In s.heap := e0.mod.kin.keeps fun b o e => (e0.bs b o e).1
  have lim : s.heap.NoLimit := e0.mod.nolimit.keeps fun b o e => (e0.bs b o e).1
  have hkind : ∀ y ∈ ps.zip us, scope.names.lookup y.1 = some .local ∨ (scope.names.lookup y.1 = some .cell ∧ ((cellsFrom (s.heap.objs.size + 1) scope.names []).lookup y.1).isSome = true) := fun ⟨n, v⟩ hy => by
    rcases S.par n (List.of_mem_zip hy).1 with q | q
    · exact .inl q
    · exact .inr ⟨q, PySem.W.cellsFrom_some _ _ _ (.inl q)⟩
  refine codeAny_call_function hr.depth (KX _ _ lk) rfl S.co S.gen rfl (PySem.W.codeRec_of KX hcd) (hb _ _ _ _ ?_)
  refine wpAny_newFunctionEnv_cells S.kind hkind fun env he s1 x => ?_
  subst he
  refine ⟨lim.keeps x.toInCall.keep, codeAny_func ?_⟩
  obtain ⟨t, ht, hq⟩ := hbody A outer s H vs Q E (hr.deeper _) hC hnf hsp
  have I : Inv (cxOf CX P w K mg base N qual scope f cdv A outer s H E) [] (L2.start N vs) H s1 := inv_start S hr.hd e0 hl r x
  refine wpAny_mono (ht.run [] s1 (L2.start N vs) H _ I hq) (fun fl s' hs => ?_) fun e s' hs => hs
  have fin : ∀ {σ' : L2.St} {H' : Hp} {v : V} {u : Value}, Inv (cxOf CX P w K mg base N qual scope f cdv A outer s H E) [] σ' H' s' → RelV v u → Q v H' → CE outer P w H s Q u s' :=
    fun {σ' H' v u} J rv q => ⟨v, H', J.os, J.bare, J.base, J.hok, rv, q⟩
  cases fl with
  | ret u =>
    obtain ⟨v, σ', H', J, rv, q⟩ := hs
    exact fin J rv q
  | next =>
    obtain ⟨σ', H', J, q⟩ := hs
    exact fin (v := V.non) (u := Value.none) J rfl q
  | brk =>
    obtain ⟨_, _, _, q⟩ := hs
    exact False.elim q
  | cont =>
    obtain ⟨_, _, _, q⟩ := hs
    exact False.elim q
/-- a running def's own cells are no frames -/
theorem own_nf {X : Cx} {pins : List (Addr × Obj)} {σ : Sg} {H : Hp} {s : Shared} (I : Inv X pins σ H s) (hf : ∀ y, X.fn y = true) {y : Str} {c : Addr} (e : X.env.cells.lookup y = some c) : c ∉ frs X.stack := fun hb => by
  rcases List.mem_cons.mp (I.stkSub c hb) with z | z
  · exact I.cne y c e z
  · obtain ⟨_, o, ho, _⟩ := I.ok.funs.mem z
    exact absurd (Nat.lt_of_lt_of_le (Heap.lt_size ho) (I.ok.cab y c (hf y) e)) (Nat.lt_irrefl _)
section
variable {X : Cx} {CX : CXT} {L : LamW} {ps fr : List Str} {ws : List (Option V)} {i j k : Nat} {x : Str} {sp : Sp} {E : Sg → XK} {t : TA} {e : Expr} {es : List Expr} {p pos : Pos}
theorem pe_callLc (Fn : LamOkC X.prog X.w X.K X.mg X.base CX k L ps fr ws sp) (C : CellsAt L.cl fr ws X.s_0.heap X.H_0) (nf : ∀ y c, L.cl.lookup y = some c → c ∉ X.fs) (nx : ∀ y c, L.cl.lookup y = some c → c ∉ X.ex) (hr : Room j X.A) (hk : k ≤ j) (hx : ∀ σ, PassesAt CX X σ (E σ)) (hN : X.N[i]? = some x) (hv : Vis X.env.scope x) (ha : PA X (e :: es) t)
    (hd : (x == ("__debug__" : Str)) = false := by decide) (hcd : (x == ("__classdict__" : Str)) = false := by decide)
    (he : starEach (e :: es) X.env = (false, eval e X.env) :: starEach es X.env := by rfl) (hpl : (backTo pos (starEach es X.env)).any (·.1) = false := by rfl) :
    PE X (.Call (.Name x p) (e :: es) [] pos) (tCallLm i L sp E t) := by
  refine ⟨fun pins s σ H Q I h => ?_⟩
  obtain ⟨f, c, hs, hf, hc, ht⟩ := h
  refine wpAny_Call_Name_kw (thn ((pe_var (pos := p) hN hv hd hcd).run pins s σ H (fun v H1 => v = .ref f ∧ H1 = H) I ⟨.ref f, hs, rfl, rfl⟩) fun u s1 ⟨v, H1, I1, r1, q1⟩ => ?_)
  obtain ⟨ev, eH⟩ := q1
  subst ev
  rw [eH] at I1
  obtain rfl : u = Value.ref f := r1
  refine PySem.W.callWith_F (first := []) (lam_fnAt I1 hf) (thn (ha.run pos pins s1 σ H _ I1 ht) fun us s2 ⟨vs, H2, I2, r, h1, h2, q⟩ => ⟨lam_fnAt I2 h1, ?_⟩) he hpl
  show wpAny _ _ (call (.ref f) us) _ _ _
  refine wpAny_call (codeAny_mono (Fn.run X.A X.stack s2 H2 f c us vs _ (E σ) (hr.mono hk) I2.env0 h1 h2 (C.later nf nx I2) r q) fun r s' hq => ?_)
  cases r with
  | error e => exact hx σ pins H2 s2 e s' I2 hq
  | ok fl =>
    cases fl with
    | ret u => exact I2.after hq
    | next => exact False.elim hq
    | brk => exact False.elim hq
    | cont => exact False.elim hq
end
section
variable {X : Cx} {G : Gx} {W : WX} {i j k l n : Nat} {x : Str} {f : DF} {ts : DA} {e : Expr} {es : List Expr} {p pos : Pos} {ps fr : List Str} {ws : List (Option V)}
theorem j_callLc (C : Cxt X G W k) (h : LamOkC X.prog X.w G.K X.mg X.base (L2.CX X.prog X.w) l (G.lam j) ps fr ws (spD G f)) (hC : CellsAt (G.lam j).cl fr ws X.s_0.heap X.H_0) (nf : ∀ y c, (G.lam j).cl.lookup y = some c → c ∉ X.fs) (nx : ∀ y c, (G.lam j).cl.lookup y = some c → c ∉ X.ex) (ha : JA X G W n (e :: es) ts) (hj : l ≤ k := by decide) (hj2 : 100 ≤ j := by decide) (hN : X.N[i]? = some x := by rfl) (hv : Vis X.env.scope x := by first | exact Or.inl rfl | exact Or.inr (Or.inl rfl))
    (hdb : (x == ("__debug__" : Str)) = false := by decide) (hcd : (x == ("__classdict__" : Str)) = false := by decide)
    (he : starEach (e :: es) X.env = (false, eval e X.env) :: starEach es X.env := by rfl) (hpl : (backTo pos (starEach es X.env)).any (·.1) = false := by rfl) : JE X G W (.Call (.Name x p) (e :: es) [] pos) (dCallV i j f ts) := by
  obtain ⟨T, q, l⟩ := ha
  exact ⟨_, pe_callLc (by rw [C.K]; exact h) hC nf nx C.room hj C.hx hN hv q hdb hcd he hpl, le_callLm hj2 l⟩
end
theorem sRep_cap {G : Gx} {F H : Hp} {N : List Str} {np n : Nat} {ds : List D} {vs : List V} {cs : List Int} (e : Same F H) (tb : TabsF G.tabs F H) (r : RepL G F ds vs) (hN : N.length = n) (hp : ds.length = np) (hnp : np + cs.length ≤ n) : SRep G F H F H (startF N vs (cs.map fun i => some (V.int i))) (ds.map Sl.val ++ (cs.map (fun i => Sl.val (.int i)) ++ List.replicate (n - np - cs.length) .un)) := by
  have rl := r.length
  unfold startF
  refine ⟨?_, tb, .refl e, fun i s q => ?_, fun i j s t p h1 h2 w1 w2 _ _ => ?_⟩
  · simp only [List.length_append, List.length_map, List.length_replicate]
    omega
  · by_cases hi : i < (ds.map Sl.val).length
    · rw [List.getElem?_append_left hi, List.getElem?_map] at q
      cases hd : ds[i]? with
      | none => rw [hd] at q; cases q
      | some d =>
        rw [hd] at q
        cases q
        obtain ⟨v, hv, rv⟩ := r.get hd
        refine ⟨v, ?_, rv⟩
        rw [List.getElem?_append_left (by rw [List.length_map]; exact (List.getElem?_eq_some_iff.mp hv).1), List.getElem?_map, hv]; rfl
    · rw [List.getElem?_append_right (by omega)] at q
      rw [List.length_map] at q hi
      rw [List.getElem?_append_right (by rw [List.length_map]; omega)]
      simp only [List.length_map, rl]
      by_cases h2 : i - ds.length < cs.length
      · rw [List.getElem?_append_left (by rw [List.length_map]; exact h2), List.getElem?_map, List.getElem?_eq_getElem h2] at q
        cases q
        refine ⟨V.int (cs[i - ds.length]), ?_, rfl⟩
        rw [List.getElem?_append_left (by rw [List.length_map]; exact h2), List.getElem?_map, List.getElem?_eq_getElem h2]; rfl
      · rw [List.getElem?_append_right (by rw [List.length_map]; omega), List.getElem?_replicate] at q
        split at q
        · cases q; trivial
        · cases q
  · exfalso
    have : ∀ (i : Nat) s, (ds.map Sl.val ++ (cs.map (fun i => Sl.val (.int i)) ++ List.replicate (n - np - cs.length) Sl.un))[i]? = some s → s.owns = false := fun i s q => by
      have hm := List.mem_of_getElem? q
      simp only [List.mem_append, List.mem_map, List.mem_replicate] at hm
      rcases hm with ⟨d, _, rfl⟩ | ⟨d, _, rfl⟩ | ⟨_, rfl⟩ <;> rfl
    rw [this i s h1] at w1; cases w1
section
variable {P : Program} {w : World} {G : Gx} {mg : Str → Option Value} {base : Heap} {k np n : Nat} {L : LamW} {N ps fr : List Str} {cs : List Int} {t : DE}
theorem lamC_mk (S : NScope N ps fr L.scope) (hN : N.length = n) (hp : ps.length = np) (hnp : np + cs.length ≤ n) (hb : ∀ (pm ctv : Value) (c : Addr) (us : List Value), us.length = ps.length → bindArgs (PySem.W.kla_fn "<lambda>" L.qual L.params L.body L.scope L.cl pm (.ref c) ctv) ⟨us, []⟩ = pure (ps.zip us))
    (hbody : ∀ (f c : Addr) (A : Around) (outer : List PySem.Env) (s : Shared) (H : Hp) (E : XK), Room k (A.deeper (envF (lamNF L c) f s.heap.objs.size)) → JE (ncx (L2.CX P w) P w G.K mg base N (lamNF L c) f A outer s H E) G (fun cls d _ H => E cls d H) L.body t) :
    LamOkC P w G.K mg base (L2.CX P w) (k + 1) L ps fr (cs.map fun i => some (V.int i)) (spD G (dCap np n cs t)) := by
  refine lamOkC_of S hb (fun vs H Q E h => ?_) fun A outer s H f c vs Q E hr h => ?_
  · obtain ⟨F', ds, QD, QX, _, _, r, ⟨hl, _⟩, _⟩ := h
    rw [r.length, hl, hp]
  · obtain ⟨F', ds, QD, QX, e, tb, r, ⟨hl, q⟩, hQ, hX⟩ := h
    obtain ⟨T, hT, hL⟩ := hbody f c A outer s H E hr
    exact ⟨T, hT, hL F' H _ F' _ H _ _ _ (sRep_cap e tb r hN hl hnp) q (fun s v F1 H1 p q1 => hQ s v F1 H1 p q1) fun x q1 cls d F1 H1 e1 r1 => hX x q1 cls d F1 H1 e1 r1⟩
end
/-- a def by its global name -/
structure FnA (K : PySem.W.Frag) (mg : Str → Option Value) (x : Str) (Φ : Addr → FuncData → List Str → Prop) : Prop where
  ex : ∃ (a : Addr) (fd : FuncData) (ps : List Str), mg x = some (.ref a) ∧ PySem.W.keepIn K (.ref a) = true ∧ Binds K fd ps [] ∧ Φ a fd ps
theorem fnC_mk {P : Program} {w : World} {G : Gx} {mg : Str → Option Value} {base : Heap} {k np n : Nat} {x : Str} {st : Stmt} {N ps : List Str} {t : DS} {cl : List (Str × Addr)} {fr : List Str} {ws : List (Option V)} {a : Addr} {fd : FuncData} (F : FunD G.K x x (defArgs st) (defBody st) (defScope st) [] [] a fd) (S : FnScope N ps (defScope st)) (hN : N.length = n) (hp : ps.length = np) (hnp : np ≤ n)
    (hb : ∀ (cdv : Value) (A : Around) (outer : List PySem.Env) (s : Shared) (H : Hp) (E : XK), Room k (A.deeper (envOfC x (defScope st) s.heap.objs.size a cdv)) → CellsAt cl fr ws s.heap H → (∀ y c, cl.lookup y = some c → c ∉ frs outer) →
      JSs (cxOf (L2.CX P w) P w G.K mg base N x (defScope st) a cdv A outer s H E) G (fun cls d _ H => E cls d H) (defBody st) t) : FnOkC P w G.K mg base (L2.CX P w) (k + 1) a fd ps cl fr ws (spD G (dFun np n t)) := by
  obtain ⟨oc, od, dV, kV, doc, pm, an, cdv, ct, osl, rfl, lk, hcd, _, _⟩ := F.ex
  refine fn_ofC lk hcd S (fun vs H Q E h => ?_) fun A outer s H vs Q E hr hC hnf h => ?_
  · obtain ⟨F', ds, QD, QX, _, _, r, ⟨hl, _⟩, _⟩ := h
    rw [r.length, hl, hp]
  · obtain ⟨F', ds, QD, QX, e, tb, r, ⟨hl, q⟩, hQ, hX⟩ := h
    obtain ⟨T, hT, hL⟩ := hb cdv A outer s H E hr hC hnf
    refine ⟨T, hT, hL F' H _ F' _ H ⟨_, _, _, _, _⟩ _ (sRep_start e tb r hN hl hnp) (ERel.mk (fun ρ F1 σ H1 S1 q1 => ?_) (fun ρ F1 σ H1 S1 q1 => ?_) (fun ρ F1 σ H1 S1 q1 => ?_) (fun s v F1 H1 p q1 => ?_) (fun x ρ F1 σ H1 cls d S1 q1 r1 => ?_)) q⟩
    · exact hQ (.val .non) .non F1 H1 (.val S1.e rfl) q1
    · exact q1.elim
    · exact q1.elim
    · exact hQ s v F1 H1 p q1
    · exact hX x q1 cls d F1 H1 S1.e r1
section
variable {X : Cx} {CX : CXT} {k : Nat} {a : Addr} {fd : FuncData} {ps fr : List Str} {cl : List (Str × Addr)} {js : List Nat} {sp : List (Option V) → Sp} {E : Sg → XK} {x : Str} {p pos : Pos} {e : Expr} {es : List Expr} {t : TA}
def tCallC (js : List Nat) (sp : List (Option V) → Sp) (E : Sg → XK) (t : TA) : TE := fun σ H Q => t σ H fun vs H1 => sp (js.map (NdefX.slotAt σ)) vs H1 Q (E σ)
theorem pe_callC (F : ∀ ws, FnOkC X.prog X.w X.K X.mg X.base CX k a fd ps cl fr ws (sp ws)) (cp : X.Ok → Caps X cl fr js) (hfn : ∀ y, X.fn y = true) (hr : Room k X.A) (hg : Gl X x) (hm : X.mg x = some (.ref a)) (hk : PySem.W.keepIn X.K (.ref a) = true) (hb : Binds X.K fd ps []) (hx : ∀ σ, PassesAt CX X σ (E σ))
    (ha : PA X (e :: es) t) (hdb : (x == ("__debug__" : Str)) = false := by decide) (he : starEach (e :: es) X.env = (false, eval e X.env) :: starEach es X.env := by rfl) (hpl : (backTo pos (starEach es X.env)).any (·.1) = false := by rfl) :
    PE X (.Call (.Name x p) (e :: es) [] pos) (tCallC js sp E t) := by
  refine ⟨fun pins s σ H Q I h => ?_⟩
  refine wpAny_Call_Name_kw (ld_glob I hg hm ?_ hdb)
  refine PySem.W.callWith_K (h₀ := X.base) I.ok.mod.kin hk (thn (ha.run pos pins s σ H _ I h) fun us s1 ⟨vs, H1, I1, r, q⟩ => ⟨I1.kIn, ?_⟩) he hpl
  have c := cp I1.ok
  have C := cells_of I1 c
  have hl : us.length = ps.length := by rw [← r.length]; exact (F _).len _ _ _ _ q
  have hbs := hb s1 us I1.kIn (by rw [List.append_nil]; exact hl)
  rw [List.append_nil] at hbs
  show wpAny _ _ (call (.ref a) us) _ _ _
  refine wpAny_call (codeAny_mono ((F _).run X.A X.stack s1 H1 ⟨us, []⟩ us vs Q (E σ) hr I1.env0 C (fun y b e => own_nf I1 hfn (c.sub y b e)) hbs r q) fun r s' hq => ?_)
  cases r with
  | error e => exact hx σ pins H1 s1 e s' I1 hq
  | ok fl =>
    cases fl with
    | ret u => exact I1.after hq
    | next => exact False.elim hq
    | brk => exact False.elim hq
    | cont => exact False.elim hq
theorem pe_lamC {params : Arguments} {body : Expr} {scope : Scope} {c P : Addr} (TB : TabB X.base X.mg c P) (hcode : X.env.code = .ref c) (hn : lamNm pos.line pos.col = X.env.qual ++ "<lambda>") (hdef : defaultsOf params X.env = ([], [])) (hfree : ∀ y ∈ scope.names, y.2 = .free → X.env.scope.names.lookup y.1 = some .cell ∨ X.env.scope.names.lookup y.1 = some .free) :
    PE X (.Lambda params body scope pos) (tLamW P ⟨X.env.qual ++ "<lambda>", params, body, scope, cloFrom X.env.cells scope.names []⟩) := by
  refine ⟨fun pins s σ H Q I h => ?_⟩
  obtain ⟨hT, h⟩ := h
  have hcl := closure_ok (scope := scope) (env := X.env) fun y hy e => (hfree y hy e).elim (fun z => I.ok.has _ (.inl z)) fun z => I.ok.has _ (.inr z)
  exact lam_new I TB hcode hT hn hdef hcl fun f c' H' s' I' K hE nf fc hc h1 h2 => ⟨.ref f, H', I', rfl, h f c' H' K hE nf fc hc h1 h2⟩
end
theorem lam_ext {G : Gx} {P f c : Addr} {L : LamW} {F0 H0 F H H' : Hp} {σ : Sg} {ρ : Env} (S : SRep G F0 H0 F H σ ρ) (hP : P ∈ G.tabs) (K : Keep H H') (hE : ∀ b o, b ≠ P → H b = some o → H' b = some o) (nf : H f = none) (fc : f ≠ c) (hc : H c = none ∨ H c = some (CodeO c L.qual)) (h1 : H' f = some (LamO f c L)) (h2 : H' c = some (CodeO c L.qual)) :
    ∃ F', Ext F H F' H' ∧ F' f = some (LamO f c L) ∧ F' c = some (CodeO c L.qual) := by
  have tb := S.tabs
  have fh := S.same
  have nF : F f = none := fh.free nf
  classical
  let F' : Hp := fun a => if a = f then some (LamO f c L) else if a = c then some (CodeO c L.qual) else F a
  have a1 : F' f = some (LamO f c L) := if_pos rfl
  have a2 : F' c = some (CodeO c L.qual) := by
    show (if c = f then _ else if c = c then _ else _) = _
    rw [if_neg fc.symm, if_pos rfl]
  have a3 : ∀ a, a ≠ f → a ≠ c → F' a = F a := fun a n1 n2 => by
    show (if a = f then _ else if a = c then _ else _) = _
    rw [if_neg n1, if_neg n2]
  have sF : Same F F' := fun a o z => by
    by_cases e1 : a = f
    · rw [e1, nF] at z; cases z
    · by_cases e2 : a = c
      · subst e2
        rcases hc with y | y
        · rw [fh.free y] at z; cases z
        · have := fh _ _ z
          rw [y] at this; cases this; exact a2
      · rw [a3 a e1 e2]; exact z
  refine ⟨F', ⟨sF, fun a o z => ?_, K, fun a o z => ?_⟩, a1, a2⟩
  · by_cases e1 : a = f
    · subst e1; rw [a1] at z; cases z; exact h1
    · by_cases e2 : a = c
      · subst e2; rw [a2] at z; cases z; exact h2
      · rw [a3 a e1 e2] at z
        refine hE a o (fun y => ?_) (fh _ _ z)
        subst y
        rw [(tb _ hP).2] at z; cases z
  · by_cases e1 : a = f
    · subst e1; exact .inr (.inl nf)
    · by_cases e2 : a = c
      · subst e2; rw [a2] at z; cases z; exact .inr (.inr (.inr ⟨_, rfl⟩))
      · rw [a3 a e1 e2] at z; exact .inl z
/-- the ground of a def that is handed the lambda L -/
def GL (G : Gx) (L : LamW) : Gx := ⟨G.K, G.cm, G.fnm, fun _ => L, []⟩
/-- what is asked of it where a captured number is m -/
def spC (G : Gx) (L : LamW) (f : Int → DF) (ws : List (Option V)) : Sp := fun vs H Q E => ∃ m, ws = [some (.int m)] ∧ spD (GL G L) (f m) vs H Q E
theorem slot_of {G : Gx} {F0 H0 F H : Hp} {σ : Sg} {ρ : Env} (S : SRep G F0 H0 F H σ ρ) {i : Nat} {m : Int} (h : ρ[i]? = some (.val (.int m))) : NdefX.slotAt σ i = some (.int m) := by
  obtain ⟨v, h1, h2⟩ := S.sl i _ h
  have e : v = .int m := h2
  subst e
  exact NdefX.slotAt_of h1
section
variable {X : Cx} {G : Gx} {W : WX} {i k l : Nat} {x : Str} {f : Int → DF} {ta tb : DE} {e1 e2 : Expr} {params : Arguments} {body : Expr} {scope : Scope} {kk : Int} {jj : Nat} {lpos cpos p pos : Pos} {y : Str} {c P : Addr}
theorem j_powC (C : Cxt X G W k) (Fp : FnA G.K X.mg x fun a fd ps => ∀ (m : Int) (cl : List (Str × Addr)), FnOkC X.prog X.w G.K X.mg X.base (L2.CX X.prog X.w) l a fd ps cl [y] [some (.int m)] (spD (GL G ⟨X.env.qual ++ "<lambda>", params, body, scope, cl⟩) (f m))) (ha : JE X G W e1 ta) (hb : JE X G W e2 tb)
    (TB : TabB X.base X.mg c P) (hcode : X.env.code = .ref c) (hP : P ∈ G.tabs) (hi : X.N[i]? = some y) (hfr : (y, NameKind.free) ∈ scope.names) (hfree : ∀ z ∈ scope.names, z.2 = .free → X.env.scope.names.lookup z.1 = some .cell ∨ X.env.scope.names.lookup z.1 = some .free) (hfn : ∀ y, X.fn y = true := by exact fun _ => rfl)
    (hn : lamNm lpos.line lpos.col = X.env.qual ++ "<lambda>" := by rfl) (hdef : defaultsOf params X.env = ([], []) := by rfl) (hj : l ≤ k := by decide) (hg : Gl X x := by rfl) (hdb : (x == ("__debug__" : Str)) = false := by decide)
    (s1 : starEach [e1, e2, .Lambda params body scope lpos, .Constant (.int kk) jj cpos] X.env = (false, eval e1 X.env) :: starEach [e2, .Lambda params body scope lpos, .Constant (.int kk) jj cpos] X.env := by rfl)
    (s2 : starEach [e2, .Lambda params body scope lpos, .Constant (.int kk) jj cpos] X.env = (false, eval e2 X.env) :: starEach [.Lambda params body scope lpos, .Constant (.int kk) jj cpos] X.env := by rfl)
    (s3 : starEach [.Lambda params body scope lpos, .Constant (.int kk) jj cpos] X.env = (false, eval (.Lambda params body scope lpos) X.env) :: starEach [.Constant (.int kk) jj cpos] X.env := by rfl)
    (s4 : starEach [.Constant (.int kk) jj cpos] X.env = (false, eval (.Constant (.int kk) jj cpos) X.env) :: starEach [] X.env := by rfl)
    (hpl : (backTo pos (starEach [e2, .Lambda params body scope lpos, .Constant (.int kk) jj cpos] X.env)).any (·.1) = false := by rfl) :
    JE X G W (.Call (.Name x p) [e1, e2, .Lambda params body scope lpos, .Constant (.int kk) jj cpos] [] pos) (dPowC i ta tb f kk) := by
  obtain ⟨T1, q1, l1⟩ := ha
  obtain ⟨T2, q2, l2⟩ := hb
  let L : LamW := ⟨X.env.qual ++ "<lambda>", params, body, scope, cloFrom X.env.cells scope.names []⟩
  obtain ⟨a, fd, ps, hm, kp, hbd, Fm⟩ := Fp.ex
  have eK := C.K
  have FA : ∀ ws, FnOkC X.prog X.w X.K X.mg X.base (L2.CX X.prog X.w) l a fd ps L.cl [y] ws (spC G L f ws) := fun ws => by
    refine ⟨fun vs H Q E h => ?_, fun A outer s H args us vs Q E hr e0 hC hnf hb r h => ?_⟩
    · obtain ⟨m, rfl, h⟩ := h
      exact (Fm m L.cl).len vs H Q E h
    · obtain ⟨m, rfl, h⟩ := h
      rw [eK] at e0
      exact (Fm m L.cl).run A outer s H args us vs Q E hr e0 hC hnf hb r h
  refine ⟨_, pe_callC (js := [i]) FA (fun ok => Caps.made ok hfree (fun z hz => ?_) ?_) hfn (C.room.mono hj) hg hm (by rw [eK]; exact kp) (by rw [eK]; exact hbd) C.hx (pa_cons q1 (pa_cons q2 (pa_cons (pe_lamC TB hcode hn hdef hfree) (pa_cons pe_int pa_nil s4) s3) s2) s1) hdb s1 hpl, fun F0 H0 ρ F σ H Q QX QV S q hq hx => ?_⟩
  · rw [List.mem_singleton] at hz; subst hz; exact hfr
  · show [X.N[i]?] = [some y]
    rw [hi]
  · refine l1.v S q (fun d1 v1 F1 H1 e1 r1 k1 => ?_) hx
    obtain ⟨x0, rfl, k1⟩ := k1
    refine l2.v (S.ext e1) k1 (fun d2 v2 F2 H2 e2 r2 k2 => ?_) (hx.ext e1)
    obtain ⟨n0, rfl, m, hm0, k2⟩ := k2
    have S2 := (S.ext e1).ext e2
    refine ⟨(S2.tabs P hP).1, fun f c H3 K hE nf fc hc h1 h2 => ?_⟩
    obtain ⟨F3, e3, g1, g2⟩ := lam_ext S2 hP K hE nf fc hc h1 h2
    refine ⟨m, ?_, F3, [.int x0, .int n0, .fn 100, .int kk], _, _, e3.fh, (fun P h => absurd h List.not_mem_nil), ⟨v1, _, rfl, r1, v2, _, rfl, r2, .ref f, _, rfl, .inr ⟨by decide, f, c, rfl, g1, g2⟩, .int kk, _, rfl, rfl, rfl⟩, k2, fun s v F4 H4 p q4 => ?_, fun x z => z.elim⟩
    · show [NdefX.slotAt σ i] = _
      rw [slot_of S hm0]
    · obtain ⟨z, rfl, q4⟩ := q4
      have hv : v = .int z := p.v
      exact hq (.val (.int z)) v F4 H4 (.val (e1.trans (e2.trans (e3.trans p.e))) (show Rep G F4 (.int z) v from hv)) q4
end
/-- [ys.append(1), x + y][1], ys captured -/
def spB (a : Addr) : Sp := fun vs H Q _ => ∃ (x y : Int) (zs : List V), vs = [.int x, .int y] ∧ H a = some (.lst zs) ∧ zs.length < 16777216 ∧ ∀ p, H p = none → Q (.int (x + y)) (upd (upd H a (.lst (zs ++ [.int 1]))) p (.lst [.non, .int (x + y)]))
theorem PE.weak {X : Cx} {e : Expr} {T T' : TE} (h : PE X e T) (k : ∀ σ H Q, T' σ H Q → T σ H Q) : PE X e T' := ⟨fun pins s σ H Q I q => h.run pins s σ H Q I (k σ H Q q)⟩
section
variable {X : Cx} {x0 x1 y : Str} {j0 j1 : Nat} {p1 pa p2 p3 p4 p5 p6 p7 p8 p9 : Pos}
theorem pe_bodyB (h0 : X.N[0]? = some x0) (h1 : X.N[1]? = some x1) (h2 : X.N[2]? = some y) (v0 : Vis X.env.scope x0) (v1 : Vis X.env.scope x1) (v2 : Vis X.env.scope y)
    (d0 : (x0 == ("__debug__" : Str)) = false) (d1 : (x1 == ("__debug__" : Str)) = false) (d2 : (y == ("__debug__" : Str)) = false) (c0 : (x0 == ("__classdict__" : Str)) = false) (c1 : (x1 == ("__classdict__" : Str)) = false) (c2 : (y == ("__classdict__" : Str)) = false)
    (hbase : attributeBase (.Name y p1) "append" X.env (eval (.Name y p1) X.env) = eval (.Name y p1) X.env)
    (hfew : ((backTo p3 (starEach [.Constant (.int 1) j0 p2] X.env)).all (fun x => !x.1) && (backToKw p3 (keywordEach [] X.env)).all (fun x => x.1.isSome)
      && decide ([(.Constant (.int 1) j0 p2 : Expr)].length + ([] : List Keyword).length + (if ([] : List Keyword).isEmpty then 0 else 1) < 30)) = true)
    (hline : (pa.endLine == p3.line) = true) (hst : starEach [.Constant (.int 1) j0 p2] X.env = [(false, eval (.Constant (.int 1) j0 p2) X.env)])
    (hs1 : starEach [.Call (.Attribute (.Name y p1) "append" pa) [.Constant (.int 1) j0 p2] [] p3, .BinOp (.Name x0 p4) .Add (.Name x1 p5) p6] X.env = (false, eval (.Call (.Attribute (.Name y p1) "append" pa) [.Constant (.int 1) j0 p2] [] p3) X.env) :: starEach [.BinOp (.Name x0 p4) .Add (.Name x1 p5) p6] X.env)
    (hs2 : starEach [.BinOp (.Name x0 p4) .Add (.Name x1 p5) p6] X.env = [(false, eval (.BinOp (.Name x0 p4) .Add (.Name x1 p5) p6) X.env)]) :
    PE X (.Subscript (.List [.Call (.Attribute (.Name y p1) "append" pa) [.Constant (.int 1) j0 p2] [] p3, .BinOp (.Name x0 p4) .Add (.Name x1 p5) p6] p7) (.Constant (.int 1) j1 p8) p9)
      (fun σ H Q => ∃ (a : Addr) (x y : Int) (zs : List V), σ[0]? = some (some (.int x)) ∧ σ[1]? = some (some (.int y)) ∧ σ[2]? = some (some (.ref a)) ∧ H a = some (.lst zs) ∧ zs.length < 16777216 ∧ ∀ p, H p = none → Q (.int (x + y)) (upd (upd H a (.lst (zs ++ [.int 1]))) p (.lst [.non, .int (x + y)]))) := by
  refine PE.weak (pe_ix ix_seq (pe_lst (pa_cons (pe_bm PySem.F.plainAttrs_list PySem.F.slot_list_append PySem.F.type_list_append mt_append (pe_var h2 v2 d2 c2) (pa_cons pe_int pa_nil hst) hbase hfew hline hst rfl) (pa_cons (pe_op op_addD (pe_var h0 v0 d0 c0) (pe_var h1 v1 d1 c1)) pa_nil hs2) hs1)) pe_int (fun _ _ => rfl)) fun σ H Q h => ?_
  obtain ⟨a, x, y, zs, e0, e1, e2, hH, hl, hq⟩ := h
  refine ⟨.ref a, e2, .inl ⟨rfl, _, SqL.of hH⟩, a, zs, .int 1, rfl, rfl, hH, by rw [sizeLine_eq]; exact hl, ?_⟩
  refine ⟨.int x, e0, .int y, e1, .inl ⟨x, y, rfl, rfl, ?_⟩⟩
  refine ⟨by rw [sizeLine_eq]; exact (by decide : 2 ≤ 16777216), fun p hp => ?_⟩
  have hpa : H p = none := by
    by_cases z : p = a
    · subst z; rw [upd_same] at hp; cases hp
    · rw [upd_ne z] at hp; exact hp
  exact .inl ⟨p, _, 1, .int (x + y), rfl, rfl, SqL.of upd_same, rfl, hq p hpa⟩
end
def tB : TE := fun σ H Q => ∃ (a : Addr) (x y : Int) (zs : List V), σ[0]? = some (some (.int x)) ∧ σ[1]? = some (some (.int y)) ∧ σ[2]? = some (some (.ref a)) ∧ H a = some (.lst zs) ∧ zs.length < 16777216 ∧ ∀ p, H p = none → Q (.int (x + y)) (upd (upd H a (.lst (zs ++ [.int 1]))) p (.lst [.non, .int (x + y)]))
theorem lamB_mk {P : Program} {w : World} {K : PySem.W.Frag} {mg : Str → Option Value} {base : Heap} {k : Nat} {L : LamW} {N ps fr : List Str} {a : Addr} (S : NScope N ps fr L.scope) (hp : ps.length = 2) (hb : ∀ (pm ctv : Value) (c : Addr) (us : List Value), us.length = ps.length → bindArgs (PySem.W.kla_fn "<lambda>" L.qual L.params L.body L.scope L.cl pm (.ref c) ctv) ⟨us, []⟩ = pure (ps.zip us))
    (hbody : ∀ (f c : Addr) (A : Around) (outer : List PySem.Env) (s : Shared) (H : Hp) (E : XK), Room k (A.deeper (envF (lamNF L c) f s.heap.objs.size)) → PE (ncx (L2.CX P w) P w K mg base N (lamNF L c) f A outer s H E) L.body tB) :
    LamOkC P w K mg base (L2.CX P w) (k + 1) L ps fr [some (.ref a)] (spB a) := by
  refine lamOkC_of S hb (fun vs H Q E h => ?_) fun A outer s H f c vs Q E hr h => ?_
  · obtain ⟨x, y, zs, rfl, _⟩ := h
    exact hp.symm
  · obtain ⟨x, y, zs, rfl, hH, hl, hq⟩ := h
    exact ⟨tB, hbody f c A outer s H E hr, a, x, y, zs, rfl, rfl, rfl, hH, hl, hq⟩
theorem same_both {H Ha : Hp} {a : Addr} {z1 z2 : List V} (k : Same (upd H a (.lst z1)) Ha) : Same (upd H a (.lst z2)) (upd Ha a (.lst z2)) := fun b o e => by
  by_cases hb : b = a
  · subst hb; rw [upd_same] at e ⊢; exact e
  · rw [upd_ne hb] at e ⊢
    exact k b o (by rw [upd_ne hb]; exact e)
theorem same_more {H Ha Hb : Hp} {a : Addr} {z1 z2 : List V} (k : Same (upd H a (.lst z1)) Ha) (k2 : Same (upd Ha a (.lst z2)) Hb) : Same (upd H a (.lst z2)) Hb := (same_both k).trans k2
theorem same_none {H : Hp} {a : Addr} {zs : List V} (h : H a = some (.lst zs)) : Same (upd H a (.lst (zs ++ List.replicate 0 (V.int 1)))) H := by
  have e : upd H a (.lst (zs ++ List.replicate 0 (V.int 1))) = H := funext fun b => by
    by_cases hb : b = a
    · subst hb; rw [upd_same, h, List.replicate_zero, List.append_nil]
    · exact upd_ne hb
  rw [e]; exact .refl H
/-- what is asked of the def: x, n, the lambda, nought -/
def spPB (L : LamW) (ws : List (Option V)) : Sp := fun vs H Q _ => ∃ (a : Addr) (x : Int) (n : Nat) (f c : Addr) (zs : List V), ws = [some (.ref a)] ∧ vs = [.int x, .int n, .ref f, .int 0] ∧ H f = some (LamO f c L) ∧ H c = some (CodeO c L.qual) ∧ H a = some (.lst zs) ∧ zs.length + 2 * bits n ≤ 16777216 ∧
  ∀ (m : Nat) (H' : Hp), m ≤ 2 * bits n → Same (upd H a (.lst (zs ++ List.replicate m (V.int 1)))) H' → Q (.int (x * n)) H'
theorem repL_ones {G : Gx} {F : Hp} : ∀ m : Nat, RepL G F (List.replicate m (.int 1)) (List.replicate m (V.int 1))
  | 0 => rfl
  | m + 1 => ⟨V.int 1, List.replicate m (V.int 1), rfl, rfl, repL_ones m⟩
section
variable {X : Cx} {G : Gx} {W : WX} {i j k l : Nat} {x : Str} {ta tb : DE} {e1 e2 : Expr} {params : Arguments} {body : Expr} {scope : Scope} {jj : Nat} {lpos cpos p pos pz apos : Pos} {y z : Str} {c P : Addr}
theorem s_powB (C : Cxt X G W k) (Fp : FnA G.K X.mg x fun a fd ps => ∀ (ws : List (Option V)) (cl : List (Str × Addr)), FnOkC X.prog X.w G.K X.mg X.base (L2.CX X.prog X.w) l a fd ps cl [y] ws (spPB ⟨X.env.qual ++ "<lambda>", params, body, scope, cl⟩ ws)) (ha : JE X G W e1 ta) (hb : JE X G W e2 tb)
    (TB : TabB X.base X.mg c P) (hcode : X.env.code = .ref c) (hP : P ∈ G.tabs) (hi : X.N[j]? = some y) (hfr : (y, NameKind.free) ∈ scope.names) (hfree : ∀ z ∈ scope.names, z.2 = .free → X.env.scope.names.lookup z.1 = some .cell ∨ X.env.scope.names.lookup z.1 = some .free) (hij : i ≠ j := by decide) (hfn : ∀ y, X.fn y = true := by exact fun _ => rfl)
    (hz : X.N[i]? = some z := by rfl) (hx : Loc X.env.scope z := by first | exact Or.inl rfl | exact Or.inr rfl) (hf : X.fn z = true ∨ X.env.scope.names.lookup z = some .local := by first | exact .inl rfl | exact .inr rfl)
    (hs : swapsWith (.Call (.Name x p) [e1, e2, .Lambda params body scope lpos, .Constant (.int 0) jj cpos] [] pos) (some (.Name z pz)) apos.line X.env = pure false := by rfl)
    (hn : lamNm lpos.line lpos.col = X.env.qual ++ "<lambda>" := by rfl) (hdef : defaultsOf params X.env = ([], []) := by rfl) (hj : l ≤ k := by decide) (hg : Gl X x := by rfl) (hdb : (x == ("__debug__" : Str)) = false := by decide)
    (s1 : starEach [e1, e2, .Lambda params body scope lpos, .Constant (.int 0) jj cpos] X.env = (false, eval e1 X.env) :: starEach [e2, .Lambda params body scope lpos, .Constant (.int 0) jj cpos] X.env := by rfl)
    (s2 : starEach [e2, .Lambda params body scope lpos, .Constant (.int 0) jj cpos] X.env = (false, eval e2 X.env) :: starEach [.Lambda params body scope lpos, .Constant (.int 0) jj cpos] X.env := by rfl)
    (s3 : starEach [.Lambda params body scope lpos, .Constant (.int 0) jj cpos] X.env = (false, eval (.Lambda params body scope lpos) X.env) :: starEach [.Constant (.int 0) jj cpos] X.env := by rfl)
    (s4 : starEach [.Constant (.int 0) jj cpos] X.env = (false, eval (.Constant (.int 0) jj cpos) X.env) :: starEach [] X.env := by rfl)
    (hpl : (backTo pos (starEach [e2, .Lambda params body scope lpos, .Constant (.int 0) jj cpos] X.env)).any (·.1) = false := by rfl) :
    JS X G W (.Assign [.Name z pz] (.Call (.Name x p) [e1, e2, .Lambda params body scope lpos, .Constant (.int 0) jj cpos] [] pos) apos) (dPowB i j ta tb) := by
  obtain ⟨T1, q1, l1⟩ := ha
  obtain ⟨T2, q2, l2⟩ := hb
  let L : LamW := ⟨X.env.qual ++ "<lambda>", params, body, scope, cloFrom X.env.cells scope.names []⟩
  obtain ⟨a, fd, ps, hm, kp, hbd, Fm⟩ := Fp.ex
  have eK := C.K
  have FA : ∀ ws, FnOkC X.prog X.w X.K X.mg X.base (L2.CX X.prog X.w) l a fd ps L.cl [y] ws (spPB L ws) := fun ws => by
    rw [eK]; exact Fm ws L.cl
  refine ⟨_, ps_set C.nd hz hx (pe_callC (js := [j]) FA (fun ok => Caps.made ok hfree (fun z hz => ?_) ?_) hfn (C.room.mono hj) hg hm (by rw [eK]; exact kp) (by rw [eK]; exact hbd) C.hx (pa_cons q1 (pa_cons q2 (pa_cons (pe_lamC TB hcode hn hdef hfree) (pa_cons pe_int pa_nil s4) s3) s2) s1) hdb s1 hpl) hs hf, fun F0 H0 ρ F σ H N D' S E q => ?_⟩
  · rw [List.mem_singleton] at hz; subst hz; exact hfr
  · show [X.N[j]?] = [some y]
    rw [hi]
  · refine l1.v S q (fun d1 v1 F1 H1 e1 r1 k1 => ?_) (E.xw S)
    obtain ⟨x0, rfl, k1⟩ := k1
    have S1 := S.ext e1
    refine l2.v S1 k1 (fun d2 v2 F2 H2 e2 r2 k2 => ?_) (E.xw S1)
    obtain ⟨n0, rfl, k2⟩ := k2
    have S2 := S1.ext e2
    have e12 := e1.trans e2
    refine ⟨(S2.tabs P hP).1, fun f c H3 K hE nf fc hc h1 h2 => ?_⟩
    obtain ⟨F3, e3, g1, g2⟩ := lam_ext S2 hP K hE nf fc hc h1 h2
    have S3 := S2.ext e3
    unfold slotAt at k2
    cases hs : ρ[j]? with
    | none => rw [hs] at k2; exact k2.elim
    | some s =>
      rw [hs] at k2
      cases s with
      | un => exact k2.elim
      | val d => exact k2.elim
      | ownd _ _ => exact k2.elim
      | own zs =>
        obtain ⟨hlen, kq⟩ := (show zs.length + 2 * bits n0 ≤ 16777216 ∧ _ from k2)
        obtain ⟨p, vs, w1, w2, w3, w4, w5⟩ := S3.sl j _ hs
        refine ⟨p, x0, n0, f, c, vs, ?_, ?_, S3.same _ _ g1, S3.same _ _ g2, w2, by rw [w5.length]; exact hlen, fun m H' hm hk => ?_⟩
        · show [NdefX.slotAt σ j] = _
          rw [NdefX.slotAt_of w1]
        · rw [show v1 = V.int x0 from r1, show v2 = V.int n0 from r2]
        · have S4 := S3.write hs w1 (w5.append (repL_ones (G := G) (F := F3) m))
          have e5 : Ext F3 (upd H3 p (.lst (vs ++ List.replicate m (V.int 1)))) F3 H' := ⟨Same.refl _, S4.same.trans hk, .of hk, fun b o z => .inl z⟩
          have S5 := S4.ext e5
          have p5 : Post G F3 H' (.val (.int (x0 * n0))) (V.int (x0 * n0)) F3 H' := .val (.refl e5.fh) rfl
          exact E.nx _ _ _ _ (S5.set i p5) (kq m hm)
end
theorem foldl_repN (a : List Nat) : ∀ (k : Nat) (acc : List Nat), List.foldl (fun x1 x2 => x1 ++ x2) acc.toArray (List.replicate k a.toArray) = (acc ++ (List.replicate k a).flatten).toArray
  | 0, acc => by simp
  | k + 1, acc => by
    rw [List.replicate_succ, List.foldl_cons, List.append_toArray, foldl_repN a k (acc ++ a), List.replicate_succ, List.flatten_cons, List.append_assoc]
def rRepS : R2 := fun x y H Q => ∃ (a : List Nat) (k : Int), x = .str ⟨a.toArray⟩ ∧ y = .int k ∧ a ≠ [] ∧ 0 ≤ k ∧ k ≤ 1000 ∧ a.length ≤ 1000 ∧ Q (.str ⟨((List.replicate k.toNat a).flatten).toArray⟩) H
theorem op_repS {X : Cx} : OpR X (binaryOp .Mult) rRepS := by
  intro pins s σ H x y v u Q I rx ry h
  obtain ⟨a, k, rfl, rfl, hne, h0, h1, hl, q⟩ := h
  obtain ⟨t, rfl⟩ := rx
  obtain ⟨t', rfl⟩ := ry
  have hlen : (⟨a.toArray⟩ : Str).length = a.length := by show a.toArray.size = _; simp
  have hm : a.length * k.toNat ≤ 1000 * 1000 := Nat.mul_le_mul hl (by omega)
  have b2 : ((a.length : Nat) : Int) ≤ (2 ^ 63 - 1) / k ∨ k < 1 := by
    rcases Int.lt_or_le k 1 with z | z
    · exact .inr z
    · refine .inl (Int.le_ediv_of_mul_le (by omega) ?_)
      have : ((a.length : Nat) : Int) * k ≤ 1000 * 1000 := Int.mul_le_mul (by omega) (by omega) (by omega) (by decide)
      omega
  refine PySem.P.mul_str (by rw [decide_eq_false (by omega), decide_eq_false (by omega)]; rfl) (fun z _ => by rw [hlen]; rcases b2 with b | b <;> omega) (fun _ _ => by
    rw [hlen]
    exact decide_eq_false (by rw [sizeLine_eq]; omega)) ?_
  by_cases z : k < 1
  · rw [if_pos z]
    have e : k.toNat = 0 := by omega
    rw [e] at q
    exact ⟨by rw [sizeLine_eq]; decide, V.str _, H, I.tok _, ⟨_, rfl⟩, q⟩
  · rw [if_neg z]
    by_cases o : (k == 1 || (⟨a.toArray⟩ : Str).length == 0) = true
    · rw [if_pos o]
      have e1 : k = 1 := by
        rw [Bool.or_eq_true, beq_iff_eq, beq_iff_eq, hlen] at o
        rcases o with o | o
        · exact o
        · exact absurd (List.eq_nil_of_length_eq_zero o) hne
      subst e1
      have e : (List.replicate (1 : Int).toNat a).flatten = a := by simp
      rw [e] at q
      exact ⟨V.str _, H, I, ⟨_, rfl⟩, q⟩
    · rw [if_neg o]
      have e := foldl_repN a k.toNat []
      rw [List.nil_append] at e
      have q2 : Q (.str ⟨(List.replicate k.toNat a.toArray).foldl (· ++ ·) #[]⟩) H := by rw [e]; exact q
      refine ⟨?_, V.str _, H, I.tok _, ⟨_, rfl⟩, q2⟩
      show ((List.replicate k.toNat a.toArray).foldl (· ++ ·) #[]).size ≤ sizeLine
      rw [e, List.size_toArray, PyProof.Rows.lm_len_rep_flat, sizeLine_eq, Nat.mul_comm]
      omega
theorem lr_repS {G : Gx} : LR2 G oRepS rRepS := fun F H x y u v Q QV e rx ry q hq => by
  cases x <;> cases y <;> first | exact q.elim | skip
  rename_i a k
  obtain ⟨⟨h1, h2, h3, h4⟩, q⟩ := q
  exact ⟨a, k, rx, ry, h1, h2, h3, h4, hq _ _ F H (.val (.refl e) (show Rep G F (.str _) (.str ⟨((List.replicate k.toNat a).flatten).toArray⟩) from rfl)) q⟩
theorem j_repS {X : Cx} {G : Gx} {W : WX} {a b : Expr} {pos : Pos} {ta tb : DE} (ha : JE X G W a ta) (hb : JE X G W b tb) : JE X G W (.BinOp a .Mult b pos) (dOp oRepS ta tb) := j_op op_repS lr_repS ha hb
theorem log_half {n : Nat} (h : 2 ≤ n) : n.log2 = (n / 2).log2 + 1 := by
  rw [Nat.log2_def n, if_pos h]
theorem bits_half {n : Nat} (h : 0 < n) : bits n = bits ((n / 2 : Nat) : Int) + 1 := by
  unfold bits
  rw [if_neg (by omega)]
  rcases Nat.lt_or_ge n 2 with z | z
  · have : n = 1 := by omega
    subst this; rfl
  · rw [if_neg (by omega), Int.natAbs_natCast, Int.natAbs_natCast, log_half z]
section
variable {G : Gx} {H : Hp}
/-- what six names hold -/
def sg6 (x n : Int) (f : Addr) (d : Int) (o : Option V) : Sg := [some (.int x), some (.int n), some (.ref f), some (.int 0), some (.int d), o]
def en6 (x n d : Int) (o : Sl) : Env := [.val (.int x), .val (.int n), .val (.fn 0), .val (.int 0), .val (.int d), o]
theorem sr6 {x n d : Int} {f : Addr} {o : Option V} (ht : G.tabs = []) (hc : G.cm 0 = f) : SRep G H H H H (sg6 x n f d o) (en6 x n d .un) := by
  refine ⟨rfl, fun P hP => ?_, .refl (Same.refl _), fun i s q => ?_, fun i j s t p h1 h2 w1 w2 _ _ => ?_⟩
  · rw [ht] at hP; exact absurd hP List.not_mem_nil
  · match i, q with
    | 0, q => cases q; exact ⟨_, rfl, rfl⟩
    | 1, q => cases q; exact ⟨_, rfl, rfl⟩
    | 2, q => cases q; exact ⟨_, rfl, .inl ⟨by decide, by rw [hc]⟩⟩
    | 3, q => cases q; exact ⟨_, rfl, rfl⟩
    | 4, q => cases q; exact ⟨_, rfl, rfl⟩
    | 5, q => cases q; trivial
    | i + 6, q => exact absurd q (by simp [en6])
  · match i, h1 with
    | 0, q => cases q; cases w1
    | 1, q => cases q; cases w1
    | 2, q => cases q; cases w1
    | 3, q => cases q; cases w1
    | 4, q => cases q; cases w1
    | 5, q => cases q; cases w1
    | i + 6, q => exact absurd q (by simp [en6])
theorem sr6v {x n d r : Int} {f : Addr} (ht : G.tabs = []) (hc : G.cm 0 = f) : SRep G H H H H (sg6 x n f d (some (.int r))) (en6 x n d (.val (.int r))) := by
  refine ⟨rfl, fun P hP => ?_, .refl (Same.refl _), fun i s q => ?_, fun i j s t p h1 h2 w1 w2 _ _ => ?_⟩
  · rw [ht] at hP; exact absurd hP List.not_mem_nil
  · match i, q with
    | 0, q => cases q; exact ⟨_, rfl, rfl⟩
    | 1, q => cases q; exact ⟨_, rfl, rfl⟩
    | 2, q => cases q; exact ⟨_, rfl, .inl ⟨by decide, by rw [hc]⟩⟩
    | 3, q => cases q; exact ⟨_, rfl, rfl⟩
    | 4, q => cases q; exact ⟨_, rfl, rfl⟩
    | 5, q => cases q; exact ⟨_, rfl, rfl⟩
    | i + 6, q => exact absurd q (by simp [en6])
  · match i, h1 with
    | 0, q => cases q; cases w1
    | 1, q => cases q; cases w1
    | 2, q => cases q; cases w1
    | 3, q => cases q; cases w1
    | 4, q => cases q; cases w1
    | 5, q => cases q; cases w1
    | i + 6, q => exact absurd q (by simp [en6])
theorem sg_of {F0 H0 F H' : Hp} {x n d r : Int} {f : Addr} {σ : Sg} (hc : G.cm 0 = f) (S : SRep G F0 H0 F H' σ (en6 x n d (.val (.int r)))) : σ = sg6 x n f d (some (.int r)) := by
  have hl : σ.length = 6 := S.len
  obtain ⟨v0, a0, b0⟩ := S.sl 0 _ rfl
  obtain ⟨v1, a1, b1⟩ := S.sl 1 _ rfl
  obtain ⟨v2, a2, b2⟩ := S.sl 2 _ rfl
  obtain ⟨v3, a3, b3⟩ := S.sl 3 _ rfl
  obtain ⟨v4, a4, b4⟩ := S.sl 4 _ rfl
  obtain ⟨v5, a5, b5⟩ := S.sl 5 _ rfl
  have b0 : v0 = .int x := b0
  have b1 : v1 = .int n := b1
  have b3 : v3 = .int 0 := b3
  have b4 : v4 = .int d := b4
  have b5 : v5 = .int r := b5
  have b2 : v2 = .ref f := by
    rcases b2 with ⟨_, z⟩ | ⟨z, _⟩
    · rw [z, hc]
    · omega
  subst b0 b1 b2 b3 b4 b5
  match σ, hl with
  | [s0, s1, s2, s3, s4, s5], _ =>
    have c0 : s0 = _ := Option.some.inj a0
    have c1 : s1 = _ := Option.some.inj a1
    have c2 : s2 = _ := Option.some.inj a2
    have c3 : s3 = _ := Option.some.inj a3
    have c4 : s4 = _ := Option.some.inj a4
    have c5 : s5 = _ := Option.some.inj a5
    rw [c0, c1, c2, c3, c4, c5]
    rfl
end
section
variable {X : Cx} {G : Gx} {W : WX} {L : LamW} {E : Sg → XK} {f c a : Addr} {sd s0 s1 s2 sr : Stmt} {ew eo eg : Expr} {p1 p2 p3 : Pos}
theorem pow_T (ht : G.tabs = []) (hcm : G.cm 0 = f) (own : PassesOwn (model X.prog X.w) X.A X.env X.xe)
    (Jd : JS X G W sd (dUnp [1, 5] (dAs fDivmod (dCons (dVar 1) (dCons (dC (.int 2)) dNil))))) (Jw : JT X G W ew (dOp (cB bGt) (dVar 1) (dC (.int 0)))) (Jo : JT X G W eo (dOp (cB bEq) (dVar 5) (dC (.int 1)))) (Jg : JT X G W eg (dOp (cB bGt) (dVar 1) (dC (.int 0))))
    (P1 : PS X s1 (tAsg (tCallLm 2 L (spB a) E (tCons (tVar 4) (tCons (tVar 0) tNil))) (gName 4))) (P2 : PS X s2 (tAsg (tCallLm 2 L (spB a) E (tCons (tVar 0) (tCons (tVar 0) tNil))) (gName 0))) (P0 : PS X s0 (tAsg (tVar 3) (gName 4))) (PR : PS X sr (tRet (tVar 4))) :
    ∃ T, PSs X [s0, .While ew [sd, .If eo [s1] [] p1, .If eg [s2] [] p2] [] p3, sr] T ∧ ∀ (D : Ends) (H : Hp) (x : Int) (n : Nat) (zs : List V) (o4 o5 : Option V), H f = some (LamO f c L) → H c = some (CodeO c L.qual) → H a = some (.lst zs) → zs.length + 2 * bits n ≤ 16777216 →
      (∀ (m : Nat) (H' : Hp), m ≤ 2 * bits n → Same (upd H a (.lst (zs ++ List.replicate m (V.int 1)))) H' → D.rt (.int (x * n)) H') → T D [some (.int x), some (.int n), some (.ref f), some (.int 0), o4, o5] H := by
  obtain ⟨Td, pd, ld⟩ := Jd
  obtain ⟨Tw, pw, lw⟩ := Jw
  obtain ⟨To, po, lo⟩ := Jo
  obtain ⟨Tg, pg, lg⟩ := Jg
  refine ⟨_, pss_cons P0 (pss_cons (ps_while own pw (pss_cons pd (pss_cons (ps_if po (pss_one P1) pss_nil) (pss_one (ps_if pg (pss_one P2) pss_nil))))) (pss_one PR)), ?_⟩
  intro D H x n zs o4 o5 hf hc ha hl hq
  have fa : f ≠ a := fun z => by subst z; rw [ha] at hf; unfold LamO at hf; cases hf
  have ca : c ≠ a := fun z => by subst z; rw [ha] at hc; unfold CodeO at hc; cases hc
  refine ⟨.int 0, rfl, ?_⟩
  show tSeq (tWhile Tw _) _ D (sg6 x n f 0 o5) H
  -- what holds at the loop's head
  let Iv : Nat → Sg → Hp → Prop := fun m σ H1 => ∃ (t d : Int) (o : Option V) (k : Nat), σ = sg6 t m f d o ∧ d + t * m = x * n ∧ k + 2 * bits m ≤ 2 * bits n ∧ Same (upd H a (.lst (zs ++ List.replicate k (V.int 1)))) H1
  have step : ∀ {k : Nat} {H1 : Hp}, Same (upd H a (.lst (zs ++ List.replicate k (V.int 1)))) H1 → H1 f = some (LamO f c L) ∧ H1 c = some (CodeO c L.qual) ∧ H1 a = some (.lst (zs ++ List.replicate k (V.int 1))) := fun {k H1} s => ⟨s _ _ (by rw [upd_ne fa]; exact hf), s _ _ (by rw [upd_ne ca]; exact hc), s _ _ upd_same⟩
  have call : ∀ {k : Nat} {H1 : Hp} (u v : Int) (Q : VK), Same (upd H a (.lst (zs ++ List.replicate k (V.int 1)))) H1 → k + 1 ≤ 2 * bits n → (∀ H2, Same (upd H a (.lst (zs ++ List.replicate (k + 1) (V.int 1)))) H2 → Q (.int (u + v)) H2) → ∀ E, spB a [.int u, .int v] H1 Q E := fun {k H1} u v Q s hk q E => by
    obtain ⟨_, _, h3⟩ := step s
    refine ⟨u, v, _, rfl, h3, by rw [List.length_append, List.length_replicate]; omega, fun p hp => q _ ?_⟩
    have e : zs ++ List.replicate k (V.int 1) ++ [V.int 1] = zs ++ List.replicate (k + 1) (V.int 1) := by rw [List.append_assoc, ← List.replicate_succ']
    rw [e]
    refine same_more s (same_upd ?_)
    rw [upd_ne (fun z => by subst z; rw [h3] at hp; cases hp)]
    exact hp
  refine ⟨Iv, ⟨n, x, 0, o5, 0, rfl, by omega, by omega, same_none ha⟩, fun m σ H1 ⟨t, d, o, k, hσ, hi, hk, hs⟩ => ?_⟩
  subst hσ
  refine lw H1 H1 _ H1 _ H1 (fun b => b = decide (0 < (m : Int))) (fun _ => False) _ (sr6 (G := G) ht hcm) (show decide (0 < (m : Int)) = _ from rfl) (fun b F' H2 e hb => ?_) (fun _ z => z.elim)
  subst hb
  have s12 : Same H1 H2 := e.f.trans e.fh
  have hs2 := hs.trans s12
  by_cases hm : 0 < m
  · rw [if_pos (decide_eq_true (by omega))]
    have b1 := bits_half hm
    refine ⟨fun σ' H' => ∃ m', m' < m ∧ Iv m' σ' H', fun σ' H' z => z, ?_⟩
    have md := Int.mul_fdiv_add_fmod (m : Int) 2
    have hq2 : (m : Int).fdiv 2 = ((m / 2 : Nat) : Int) := by rw [Int.fdiv_eq_ediv_of_nonneg _ (by decide)]; omega
    have hr2 : (m : Int).fmod 2 = ((m % 2 : Nat) : Int) := by rw [Int.fmod_eq_emod_of_nonneg _ (by decide)]; omega
    refine ld H2 H2 _ H2 _ H2 ⟨fun ρ => ρ = en6 t ((m / 2 : Nat) : Int) d (.val (.int ((m % 2 : Nat) : Int))), fun _ => False, fun _ => False, fun _ => False, fun _ _ => False⟩ _ (sr6 (G := G) ht hcm) ⟨fun ρ F σ' H3 S z => ?_, fun _ _ _ _ _ z => z.elim, fun _ _ _ _ _ z => z.elim, fun _ _ _ _ _ z => z.elim, fun _ _ _ _ _ _ _ _ z _ => z.elim⟩ ?_
    · subst z
      have hσ := sg_of hcm S
      subst hσ
      have s23 : Same H2 H3 := S.e.f.trans S.e.fh
      have hs3 := hs2.trans s23
      -- behind the first test
      have fin : ∀ (d' : Int) (k' : Nat) (H5 : Hp), Same (upd H a (.lst (zs ++ List.replicate k' (V.int 1)))) H5 → d' + (t + t) * ((m / 2 : Nat) : Int) = x * n → k' + 1 + 2 * bits ((m / 2 : Nat) : Int) ≤ 2 * bits n →
          tIfS Tg (tAsg (tCallLm 2 L (spB a) E (tCons (tVar 0) (tCons (tVar 0) tNil))) (gName 0)) tNext { D with nx := fun σ' H' => ∃ m', m' < m ∧ Iv m' σ' H', ct := fun σ' H' => ∃ m', m' < m ∧ Iv m' σ' H', bk := fun σ H => tRet (tVar 4) D σ H } (sg6 t ((m / 2 : Nat) : Int) f d' (some (.int ((m % 2 : Nat) : Int)))) H5 := fun d' k' H5 s5 hi' hk' => by
        refine lg H5 H5 _ H5 _ H5 (fun b => b = decide (0 < ((m / 2 : Nat) : Int))) (fun _ => False) _ (sr6v (G := G) ht hcm) (show decide (0 < ((m / 2 : Nat) : Int)) = _ from rfl) (fun b F' H6 e hb => ?_) (fun _ z => z.elim)
        subst hb
        have s6 := s5.trans (e.f.trans e.fh)
        obtain ⟨g1, g2, _⟩ := step s6
        by_cases h2 : 0 < m / 2
        · rw [if_pos (decide_eq_true (by omega))]
          refine ⟨f, c, rfl, g1, g2, .int t, rfl, .int t, rfl, g1, g2, call t t _ s6 (by omega) (fun H7 s7 => ?_) _⟩
          exact ⟨m / 2, by omega, t + t, d', _, k' + 1, rfl, hi', by omega, s7⟩
        · rw [if_neg (by rw [decide_eq_false (by omega)]; decide)]
          refine ⟨m / 2, by omega, t, d', _, k', rfl, ?_, by omega, s6⟩
          have z : m / 2 = 0 := by omega
          rw [z] at hi' ⊢
          omega
      refine lo H3 H3 _ H3 _ H3 (fun b => b = decide (((m % 2 : Nat) : Int) = 1)) (fun _ => False) _ (sr6v (G := G) ht hcm) (show decide (((m % 2 : Nat) : Int) = 1) = _ from rfl) (fun b F' H4 e hb => ?_) (fun _ z => z.elim)
      subst hb
      have s4 := hs3.trans (e.f.trans e.fh)
      obtain ⟨g1, g2, _⟩ := step s4
      have key : t * (m : Int) = (t + t) * ((m / 2 : Nat) : Int) + t * ((m % 2 : Nat) : Int) := by
        have e1 : (m : Int) = 2 * ((m / 2 : Nat) : Int) + ((m % 2 : Nat) : Int) := by omega
        calc t * (m : Int) = t * (2 * ((m / 2 : Nat) : Int) + ((m % 2 : Nat) : Int)) := by rw [← e1]
          _ = _ := by rw [Int.mul_add, ← Int.mul_assoc, Int.mul_comm t 2, Int.two_mul]
      by_cases ho : m % 2 = 1
      · rw [if_pos (decide_eq_true (by omega))]
        refine ⟨f, c, rfl, g1, g2, .int d, rfl, .int t, rfl, g1, g2, call d t _ s4 (by omega) (fun H5 s5 => ?_) _⟩
        refine fin (d + t) (k + 1) H5 s5 ?_ (by omega)
        rw [ho] at key
        omega
      · rw [if_neg (by rw [decide_eq_false (by omega)]; decide)]
        refine fin d k H4 s4 ?_ (by omega)
        have z : m % 2 = 0 := by omega
        rw [z] at key
        omega
    · refine ⟨⟨by decide, .inl (by decide)⟩, rfl, ?_⟩
      show [Sl.val (.int t), .val (.int ((m : Int).fdiv 2)), .val (.fn 0), .val (.int 0), .val (.int d), .val (.int ((m : Int).fmod 2))] = _
      rw [hq2, hr2]; rfl
  · rw [if_neg (by rw [decide_eq_false (by omega)]; decide)]
    have z : m = 0 := by omega
    subst z
    have ed : d = x * n := by omega
    rw [← ed] at hq
    exact ⟨.int d, rfl, hq k H2 (by omega) hs2⟩
end
end DL

/- R_k03 -/
set_option synthInstance.maxHeartbeats 400000
set_option synthInstance.maxSize 4000
namespace DL
def Pg.t_lamA : DE := dOp oMod (dOp oMul (dVar 0) (dVar 1)) (dVar 2)
def Pg.t_powered_A (m : Int) : DS := dSeq (dSetV 4 (dVar 3))
  (dSeq (dWhile (dOp (cB bGt) (dVar 1) (dC (.int 0)))
    (dSeq (dUnp [1, 5] (dAs fDivmod (dCons (dVar 1) (dCons (dC (.int 2)) (dNil)))))
  (dSeq (dIf (dOp (cB bEq) (dVar 5) (dC (.int 1)))
    (dSetV 4 (dCallV 2 100 (dCap 2 3 [m] DL.Pg.t_lamA) (dCons (dVar 4) (dCons (dVar 0) (dNil)))))
    (dNext))
  (dIf (dOp (cB bGt) (dVar 1) (dC (.int 0)))
    (dSetV 0 (dCallV 2 100 (dCap 2 3 [m] DL.Pg.t_lamA) (dCons (dVar 0) (dCons (dVar 0) (dNil)))))
    (dNext)))))
  (dRet (dVar 4)))
def Pg.w_powered_A (m : Int) : DF := dFun 4 6 (Pg.t_powered_A m)
/-- law_lam(_law_left, _law_right); slots 0 _law_left, 1 _law_right -/
def Pg.t_law_lam : DS := dRet (dOp oAdd (dVar 0) (dVar 1))
def Pg.w_law_lam : DF := dFun 2 2 DL.Pg.t_law_lam
instance : DetF DL.Pg.w_law_lam := by unfold DL.Pg.w_law_lam DL.Pg.t_law_lam; infer_instance
/-- powered(thing, count, put, first); slots 0 thing, 1 count, 2 put, 3 first, 4 done, 5 odd -/
def Pg.t_powered : DS := dSeq (dSetV 4 (dVar 3))
  (dSeq (dWhile (dOp (cB bGt) (dVar 1) (dC (.int 0)))
    (dSeq (dUnp [1, 5] (dAs fDivmod (dCons (dVar 1) (dCons (dC (.int 2)) (dNil)))))
  (dSeq (dIf (dOp (cB bEq) (dVar 5) (dC (.int 1)))
    (dSetV 4 (dCallV 2 100 DL.Pg.w_law_lam (dCons (dVar 4) (dCons (dVar 0) (dNil)))))
    (dNext))
  (dIf (dOp (cB bGt) (dVar 1) (dC (.int 0)))
    (dSetV 0 (dCallV 2 100 DL.Pg.w_law_lam (dCons (dVar 0) (dCons (dVar 0) (dNil)))))
    (dNext)))))
  (dRet (dVar 4)))
def Pg.w_powered : DF := dFun 4 6 DL.Pg.t_powered
instance : DetF DL.Pg.w_powered := by unfold DL.Pg.w_powered DL.Pg.t_powered; infer_instance
/-- _law_cell(_law_script, _law_k); slots 0 _law_script, 1 _law_k -/
def Lw.t_law_cell : DS := dSeq (dIf (dOp (cB bLt) (dVar 1) (dAs fLen (dCons (dVar 0) (dNil))))
    (dRet (dOp oIx (dVar 0) (dVar 1)))
    (dNext))
  (dRet (dC (.int 0)))
def Lw.w_law_cell : DF := dFun 2 2 DL.Lw.t_law_cell
/-- _law_whole(_law_found); slots 0 _law_found -/
def Lw.t_law_whole : DS := dRet (dAnd (dUn (oIsi D.isInt) (dVar 0)) (dNot (dUn (oIsi D.isBool) (dVar 0))))
def Lw.w_law_whole : DF := dFun 1 1 DL.Lw.t_law_whole
/-- _law_count(_law_script); slots 0 _law_script, 1 _law_count_here, 2 _law_cell_here -/
def Lw.t_law_count : DS := dSeq (dSetV 1 (dC (.int 0)))
  (dSeq (dFor 2 (dSl (dVar 0) (dNoPart) (dPart (dC (.int 63))))
    (dSetV 1 (dOp oMod (dOp oAdd (dOp oMul (dVar 1) (dC (.int 48271))) (dVar 2)) (dC (.int 10000000000000000000000000000000000000000)))))
  (dSeq (dIf (dOp (cB bEq) (dOp oMod (dCall DL.Lw.w_law_cell (dCons (dVar 0) (dCons (dC (.int 1)) (dNil)))) (dC (.int 3))) (dC (.int 1)))
    (dRet (dOp oMod (dVar 1) (dC (.int 71))))
    (dNext))
  (dRet (dVar 1))))
def Lw.w_law_count : DF := dFun 1 3 DL.Lw.t_law_count
/-- _law_rests(_law_script, _law_count_here); slots 0 _law_script, 1 _law_count_here, 2 _law_many, 3 _law_thing, 4 _law_due, 5 _law_k, 6 _law_found -/
structure Lw.t_law_rests_5 (n : Env → Prop) (q : DK) (b c : Env → Prop) (x : Exn → Env → Prop) (r : Env) : Prop where
  go : (dSeq (dSetV 4 (dC (.int 1)))
  (dSeq (dFor 5 (dAs fRange (dCons (dVar 1) (dNil)))
    (dSetV 4 (dOp oMod (dOp oMul (dVar 4) (dVar 3)) (dVar 2))))
  (dSeq (dSetV 6 (dPowC 2 (dVar 3) (dVar 1) DL.Pg.w_powered_A 1))
  (dRet (dAnd (dCall DL.Lw.w_law_whole (dCons (dVar 6) (dNil))) (dOp (cB bEq) (dVar 6) (dVar 4)))))) : DS) n q b c x r
def Lw.t_law_rests : DS := dSeq (dSetV 2 (dOp oAdd (dC (.int 2)) (dOp oMod (dCall DL.Lw.w_law_cell (dCons (dVar 0) (dCons (dC (.int 4)) (dNil)))) (dC (.int 1000000000000000000000000000000000000000000000000000000000000)))))
  (dSeq (dSetV 3 (dOp oMod (dCall DL.Lw.w_law_cell (dCons (dVar 0) (dCons (dC (.int 5)) (dNil)))) (dVar 2)))
  (dSeq (dIf (dOp (cB bEq) (dOp oMod (dCall DL.Lw.w_law_cell (dCons (dVar 0) (dCons (dC (.int 6)) (dNil)))) (dC (.int 4))) (dC (.int 1)))
    (dSetV 3 (dC (.int 0)))
    (dNext))
  (DL.Lw.t_law_rests_5)))
def Lw.w_law_rests : DF := dFun 2 7 DL.Lw.t_law_rests
/-- law(_law_script); slots 0 _law_script, 1 _law_count_here, 2 _law_number, 3 _law_calls, 4 _law_found, 5 _law_some, 6 _law_told -/
def Lw.t_law : DS := dSeq (dSetV 1 (dCall DL.Lw.w_law_count (dCons (dVar 0) (dNil))))
  (dSeq (dSetV 2 (dOp oSub (dOp oMod (dCall DL.Lw.w_law_cell (dCons (dVar 0) (dCons (dC (.int 2)) (dNil)))) (dC (.int 2000000000000000000000000000000000000000000000000000000000001))) (dC (.int 1000000000000000000000000000000000000000000000000000000000000))))
  (dSeq (dSet 3 (dLst (dNil)))
  (dSeq (dPowB 4 3 (dVar 2) (dVar 1))
  (dSeq (dIf (dViewT (dOr (dNot (dCall DL.Lw.w_law_whole (dCons (dVar 4) (dNil)))) (dOr (dOp (cB bNe) (dVar 4) (dOp oMul (dVar 2) (dVar 1))) (dOp (cB bGt) (dAs fLen (dCons (dVar 3) (dNil))) (dOp oMul (dC (.int 2)) (dUn oBits (dVar 1)))))))
    (dRet (dC (.bl false)))
    (dNext))
  (dSeq (dSetV 5 (dOp oIx (dLst (dCons (dC (.str [97])) (dCons (dC (.str [97, 98])) (dCons (dC (.str [98, 99, 97])) (dNil))))) (dOp oMod (dCall DL.Lw.w_law_cell (dCons (dVar 0) (dCons (dC (.int 3)) (dNil)))) (dC (.int 3)))))
  (dSeq (dSetV 6 (dCall DL.Pg.w_powered (dCons (dVar 5) (dCons (dOp oMod (dVar 1) (dC (.int 71))) (dCons (dC (.fn 100)) (dCons (dC (.str [])) (dNil)))))))
  (dSeq (dIf (dOr (dNot (dUn (oIsi D.isStr) (dVar 6))) (dOp (cB bNe) (dVar 6) (dOp oRepS (dVar 5) (dOp oMod (dVar 1) (dC (.int 71))))))
    (dRet (dC (.bl false)))
    (dNext))
  (dRet (dAnd (dCall DL.Lw.w_law_rests (dCons (dVar 0) (dCons (dOp oMod (dVar 1) (dC (.int 71))) (dNil)))) (dAnd (dCall DL.Lw.w_law_rests (dCons (dVar 0) (dCons (dC (.int 0)) (dNil)))) (dCall DL.Lw.w_law_rests (dCons (dVar 0) (dCons (dC (.int 1)) (dNil))))))))))))))
def Lw.w_law : DF := dFun 1 7 DL.Lw.t_law
end DL

/- M_k03 -/
namespace DL
theorem cutTake (ns : List Int) (n : Nat) (hn : n ≤ 1000) : cutD (ns.map D.int) none (some (n : Int)) = (ns.take n).map D.int := by
  unfold cutD sIx
  dsimp only
  rw [if_neg (by omega), List.length_map, List.drop_zero, List.map_take]
  have : (n : Int).toNat = n := by omega
  rw [this]
  by_cases h : n ≤ ns.length
  · rw [Nat.min_eq_left h]
    rfl
  · rw [Nat.min_eq_right (by omega), List.take_of_length_le (by rw [List.length_map]; omega), List.take_of_length_le (by rw [List.length_map]; omega)]
theorem fm (x : Int) {y : Int} (hy : 0 < y) : 0 ≤ x.fmod y ∧ x.fmod y < y := ⟨Int.fmod_nonneg_of_pos x hy, Int.fmod_lt_of_pos x hy⟩
theorem cut_ints (ns : List Int) (lo hi : Option Int) : (∀ d ∈ cutD (ns.map D.int) lo hi, ∃ k : Int, d = .int k) ∧ (cutD (ns.map D.int) lo hi).length ≤ ns.length := by
  unfold cutD
  refine ⟨fun d hd => ?_, ?_⟩
  · have h1 := List.mem_of_mem_drop (List.mem_of_mem_take hd)
    obtain ⟨k, _, rfl⟩ := List.mem_map.mp h1
    exact ⟨k, rfl⟩
  · rw [List.length_take, List.length_drop, List.length_map]
    omega
theorem cut_map (ns : List Int) (lo hi : Option Int) : ∃ ms : List Int, cutD (ns.map D.int) lo hi = ms.map D.int ∧ ms.length ≤ ns.length := by
  unfold cutD
  refine ⟨(ns.drop _).take _, by rw [List.map_take, List.map_drop], ?_⟩
  rw [List.length_take, List.length_drop]
  omega

theorem Lw.cell_ok (ns : List Int) (k : Int) (hk : 0 ≤ k) (Q : DK) (X : DX) (h : Q (.val (.int (ns.getD k.toNat 0)))) : Lw.w_law_cell [.lst (ns.map D.int), .int k] Q X := by
  refine fun_mk ?_
  dsimp only [Lw.t_law_cell, dSeq, dUnpL, lstOf_l, dCut, dSet, dSetV, dUnp, dPar, dDrop, dRet, dRetOwn, dRetN, dIf, dPass, dNext, dNever, dBreak, dCont, dFrz, frz, dTry, dRaise, isx_n, isx_o, dMeth, meth_b, meth_s, fld0b, fld0s, fld1b, fld1s, gr2, ws2, iso_bb, iso_bs, iso_ba, iso_sb, iso_ss, iso_sa, mk_obj, xf0, xf1, plain_o, dApp, dAug, setAll, dC, dVar, dView, dViewT, view, dOp, dUn, dAs, dNil, dCons, dAnd, dOr, dNot, dIte, dTup, dLst, dCall, dChain, two_t, two_f, cB, oIsi, oIsN, oNotN, dYes, dEach, dNoPart, dPart, dSl, use_val, use_own, use_ownd, bool_val, view_val, view_own, view_ownd, view_un, imm_val, imm_own, add_ii, add_ll, sub_ii, mul_ii, div_ii, mod_ii, pow_ii, shl_ii, cmp_ii, neg_i, isB_bb, notB_bb, len_t, len_l, abs_i, max_ii, min_ii, int_i, int_b, divmod_ii, isInt_i, isInt_t, isInt_n, isInt_b, isBool_i, isBool_b, isTuple_t, isTuple_i, isTuple_n, isList_l, isList_t, isStr_s, plain_i, plain_t, plain_l, plain_b, plain_n, plain_s, isNone_i, isNone_t, isNone_n, immI, immB, immN, immS, immT, immL_cons, immL_nil, told_val, getD_some, tupOf_t, given_own, given_ownd, items_l, items_t, owned_own, datum_val, asInt_i, asLst_l, slotAt, bEq_int, bNe_int, ix0, ix1, ix2, ix3, iy0, iy1, iy2, iy3, opt_some, map_c, map_n, vmap_c, vmap_n, app_c, app_n, rep_s, rep_z, get_z, get_s, set_z, set_s, leng_c, leng_n, Nat.reduceSub, Nat.reduceAdd, not_t, not_f, Int.reduceToNat, Int.reducePow, ixL]
  rw [List.length_map]
  refine ⟨rfl, two_d (fun h0 => opt_at (ixInt hk h0) ?_) fun h0 => ?_⟩
  · have e : ns[k.toNat]'(by omega) = ns.getD k.toNat 0 := by
      rw [List.getD_eq_getElem?_getD, List.getElem?_eq_getElem (by omega)]
      rfl
    rw [e]; exact h
  · have e : ns.getD k.toNat 0 = 0 := by
      rw [List.getD_eq_getElem?_getD, List.getElem?_eq_none (by omega)]
      rfl
    rw [e] at h; exact h

theorem Lw.whole_ok (i : Int) (Q : DK) (X : DX) (h : Q (.val (.bl true))) : Lw.w_law_whole [.int i] Q X := fun_mk ⟨rfl, rfl, rfl, h⟩

theorem rgD_cons {lo hi : Int} (h : lo < hi) : rangeD lo hi = .int lo :: rangeD (lo + 1) hi := by
  unfold rangeD
  have e : (hi - lo).toNat = (hi - (lo + 1)).toNat + 1 := by omega
  rw [e, List.range_succ_eq_map, List.map_cons, List.map_map]
  congr 1
  · show D.int (lo + ((0 : Nat) : Int)) = _
    congr 1; omega
  · refine List.map_congr_left fun k _ => ?_
    show D.int (lo + ((k + 1 : Nat) : Int)) = D.int (lo + 1 + (k : Int))
    congr 1; omega
theorem rgD_none {lo hi : Int} (h : hi ≤ lo) : rangeD lo hi = [] := by
  unfold rangeD
  have e : (hi - lo).toNat = 0 := by omega
  rw [e]; rfl
theorem every_rng {i : Nat} {tb : DS} {n : Env → Prop} {q : DK} {x : Exn → Env → Prop} {hi : Int} (I : Int → Env → Prop) (hn : ∀ j r, hi ≤ j → I j r → n r)
    (hs : ∀ j r (G : Env → Prop), j < hi → I j r → (∀ r', I (j + 1) r' → G r') → tb G q n G x (r.set i (.val (.int j)))) (lo : Int) (r : Env) (h : I lo r) : dEvery i tb n q x (rangeD lo hi) r := by
  refine every_g (fun l r => ∃ j, l = rangeD j hi ∧ I j r) ?_ ?_ _ _ ⟨lo, rfl, h⟩
  · rintro r ⟨j, e, hI⟩
    rcases Int.lt_or_le j hi with g | g
    · rw [rgD_cons g] at e
      cases e
    · exact hn j r g hI
  · rintro d ds r G ⟨j, e, hI⟩ ih
    rcases Int.lt_or_le j hi with g | g
    · rw [rgD_cons g] at e
      injection e with e1 e2
      subst e1 e2
      exact hs j r G g hI fun r' h' => ih r' ⟨j + 1, rfl, h'⟩
    · rw [rgD_none g] at e
      cases e

/-- powers by squares, over what f puts together -/
def powT (f : DF) : DS := dSeq (dSetV 4 (dVar 3))
  (dSeq (dWhile (dOp (cB bGt) (dVar 1) (dC (.int 0)))
    (dSeq (dUnp [1, 5] (dAs fDivmod (dCons (dVar 1) (dCons (dC (.int 2)) (dNil)))))
  (dSeq (dIf (dOp (cB bEq) (dVar 5) (dC (.int 1)))
    (dSetV 4 (dCallV 2 100 f (dCons (dVar 4) (dCons (dVar 0) (dNil)))))
    (dNext))
  (dIf (dOp (cB bGt) (dVar 1) (dC (.int 0)))
    (dSetV 0 (dCallV 2 100 f (dCons (dVar 0) (dCons (dVar 0) (dNil)))))
    (dNext)))))
  (dRet (dVar 4)))
theorem pow_seq {f : DF} {s : Nat → D} {n : Nat} (hf : ∀ i j, i ≤ n → j ≤ n → ∀ {Q : DK} {X : DX}, Q (.val (s (i + j))) → f [s i, s j] Q X) {Q : DK} {X : DX} (h : Q (.val (s n))) : dFun 4 6 (powT f) [s 1, .int n, .fn 100, s 0] Q X := by
  refine fun_mk ?_
  dsimp only [powT, dSeq, dUnpL, lstOf_l, dCut, dSet, dSetV, dUnp, dPar, dDrop, dRet, dRetOwn, dRetN, dIf, dPass, dNext, dNever, dBreak, dCont, dFrz, frz, dTry, dRaise, isx_n, isx_o, dMeth, meth_b, meth_s, fld0b, fld0s, fld1b, fld1s, gr2, ws2, iso_bb, iso_bs, iso_ba, iso_sb, iso_ss, iso_sa, mk_obj, xf0, xf1, plain_o, dApp, dAug, setAll, dC, dVar, dView, dViewT, view, dOp, dUn, dAs, dNil, dCons, dAnd, dOr, dNot, dIte, dTup, dLst, dCall, dChain, two_t, two_f, cB, oIsi, oIsN, oNotN, dYes, dEach, dNoPart, dPart, dSl, use_val, use_own, use_ownd, bool_val, view_val, view_own, view_ownd, view_un, imm_val, imm_own, add_ii, add_ll, sub_ii, mul_ii, div_ii, mod_ii, pow_ii, shl_ii, cmp_ii, neg_i, isB_bb, notB_bb, len_t, len_l, abs_i, max_ii, min_ii, int_i, int_b, divmod_ii, isInt_i, isInt_t, isInt_n, isInt_b, isBool_i, isBool_b, isTuple_t, isTuple_i, isTuple_n, isList_l, isList_t, isStr_s, plain_i, plain_t, plain_l, plain_b, plain_n, plain_s, isNone_i, isNone_t, isNone_n, immI, immB, immN, immS, immT, immL_cons, immL_nil, told_val, getD_some, tupOf_t, given_own, given_ownd, items_l, items_t, owned_own, datum_val, asInt_i, asLst_l, slotAt, bEq_int, bNe_int, ix0, ix1, ix2, ix3, iy0, iy1, iy2, iy3, opt_some, map_c, map_n, vmap_c, vmap_n, app_c, app_n, rep_s, rep_z, get_z, get_s, set_z, set_s, leng_c, leng_n, Nat.reduceSub, Nat.reduceAdd, not_t, not_f, Int.reduceToNat, Int.reducePow]
  refine ⟨rfl, while_g (fun r k => ∃ (i j : Nat) (s5 : Sl), r = [.val (s i), .val (.int (k : Nat)), .val (.fn 100), .val (s 0), .val (s j), s5] ∧ j + i * k = n) n ⟨1, 0, _, rfl, by omega⟩ ?_⟩
  rintro r k H ⟨i, j, s5, rfl, hij⟩ ih
  try dsimp only [dSeq, dUnpL, lstOf_l, dCut, dSet, dSetV, dUnp, dPar, dDrop, dRet, dRetOwn, dRetN, dIf, dPass, dNext, dNever, dBreak, dCont, dFrz, frz, dTry, dRaise, isx_n, isx_o, dMeth, meth_b, meth_s, fld0b, fld0s, fld1b, fld1s, gr2, ws2, iso_bb, iso_bs, iso_ba, iso_sb, iso_ss, iso_sa, mk_obj, xf0, xf1, plain_o, dApp, dAug, setAll, dC, dVar, dView, dViewT, view, dOp, dUn, dAs, dNil, dCons, dAnd, dOr, dNot, dIte, dTup, dLst, dCall, dChain, two_t, two_f, cB, oIsi, oIsN, oNotN, dYes, dEach, dNoPart, dPart, dSl, use_val, use_own, use_ownd, bool_val, view_val, view_own, view_ownd, view_un, imm_val, imm_own, add_ii, add_ll, sub_ii, mul_ii, div_ii, mod_ii, pow_ii, shl_ii, cmp_ii, neg_i, isB_bb, notB_bb, len_t, len_l, abs_i, max_ii, min_ii, int_i, int_b, divmod_ii, isInt_i, isInt_t, isInt_n, isInt_b, isBool_i, isBool_b, isTuple_t, isTuple_i, isTuple_n, isList_l, isList_t, isStr_s, plain_i, plain_t, plain_l, plain_b, plain_n, plain_s, isNone_i, isNone_t, isNone_n, immI, immB, immN, immS, immT, immL_cons, immL_nil, told_val, getD_some, tupOf_t, given_own, given_ownd, items_l, items_t, owned_own, datum_val, asInt_i, asLst_l, slotAt, bEq_int, bNe_int, ix0, ix1, ix2, ix3, iy0, iy1, iy2, iy3, opt_some, map_c, map_n, vmap_c, vmap_n, app_c, app_n, rep_s, rep_z, get_z, get_s, set_z, set_s, leng_c, leng_n, Nat.reduceSub, Nat.reduceAdd, not_t, not_f, Int.reduceToNat, Int.reducePow]
  refine two_d (fun hp => ?_) fun hp => ?_
  · have e1 := Int.mul_fdiv_add_fmod (k : Int) 2
    have e2 := fm (k : Int) (y := 2) (by decide)
    obtain ⟨q, hq⟩ : ∃ q : Nat, (k : Int).fdiv 2 = q := ⟨((k : Int).fdiv 2).toNat, by omega⟩
    refine ⟨divLit (by decide), rfl, ?_⟩
    rw [hq] at e1 ⊢
    dsimp only [dCallV, dSeq, dUnpL, lstOf_l, dCut, dSet, dSetV, dUnp, dPar, dDrop, dRet, dRetOwn, dRetN, dIf, dPass, dNext, dNever, dBreak, dCont, dFrz, frz, dTry, dRaise, isx_n, isx_o, dMeth, meth_b, meth_s, fld0b, fld0s, fld1b, fld1s, gr2, ws2, iso_bb, iso_bs, iso_ba, iso_sb, iso_ss, iso_sa, mk_obj, xf0, xf1, plain_o, dApp, dAug, setAll, dC, dVar, dView, dViewT, view, dOp, dUn, dAs, dNil, dCons, dAnd, dOr, dNot, dIte, dTup, dLst, dCall, dChain, two_t, two_f, cB, oIsi, oIsN, oNotN, dYes, dEach, dNoPart, dPart, dSl, use_val, use_own, use_ownd, bool_val, view_val, view_own, view_ownd, view_un, imm_val, imm_own, add_ii, add_ll, sub_ii, mul_ii, div_ii, mod_ii, pow_ii, shl_ii, cmp_ii, neg_i, isB_bb, notB_bb, len_t, len_l, abs_i, max_ii, min_ii, int_i, int_b, divmod_ii, isInt_i, isInt_t, isInt_n, isInt_b, isBool_i, isBool_b, isTuple_t, isTuple_i, isTuple_n, isList_l, isList_t, isStr_s, plain_i, plain_t, plain_l, plain_b, plain_n, plain_s, isNone_i, isNone_t, isNone_n, immI, immB, immN, immS, immT, immL_cons, immL_nil, told_val, getD_some, tupOf_t, given_own, given_ownd, items_l, items_t, owned_own, datum_val, asInt_i, asLst_l, slotAt, bEq_int, bNe_int, ix0, ix1, ix2, ix3, iy0, iy1, iy2, iy3, opt_some, map_c, map_n, vmap_c, vmap_n, app_c, app_n, rep_s, rep_z, get_z, get_s, set_z, set_s, leng_c, leng_n, Nat.reduceSub, Nat.reduceAdd, not_t, not_f, Int.reduceToNat, Int.reducePow]
    have hk : 1 ≤ k := by omega
    have hik : i * 1 ≤ i * k := Nat.mul_le_mul_left i hk
    have last : ∀ (j' : Nat) (s5 : Sl), j' + (i + i) * q = n → two (decide (0 < (q : Int))) (Sl.val (D.fn 100) = Sl.val (D.fn 100) ∧ f [s i, s i] (fun s' => H [s'.view, .val (.int q), .val (.fn 100), .val (s 0), .val (s j'), s5]) fun e => X e) (H [.val (s i), .val (.int q), .val (.fn 100), .val (s 0), .val (s j'), s5]) := fun j' s5 hi => by
      refine two_d (fun h0 => ?_) fun h0 => ?_
      · refine ⟨rfl, hf i i (by omega) (by omega) ?_⟩
        exact ih _ q (by omega) ⟨i + i, j', s5, rfl, hi⟩
      · have z : q = 0 := by omega
        subst z
        exact ih _ 0 (by omega) ⟨i, j', s5, rfl, by omega⟩
    have ek : i * (2 * q) = (i + i) * q := by rw [← Nat.mul_assoc, Nat.mul_two]
    refine two_d (fun ho => ?_) fun ho => ?_
    · refine ⟨rfl, hf j i (by omega) (by omega) ?_⟩
      try dsimp only [dSeq, dUnpL, lstOf_l, dCut, dSet, dSetV, dUnp, dPar, dDrop, dRet, dRetOwn, dRetN, dIf, dPass, dNext, dNever, dBreak, dCont, dFrz, frz, dTry, dRaise, isx_n, isx_o, dMeth, meth_b, meth_s, fld0b, fld0s, fld1b, fld1s, gr2, ws2, iso_bb, iso_bs, iso_ba, iso_sb, iso_ss, iso_sa, mk_obj, xf0, xf1, plain_o, dApp, dAug, setAll, dC, dVar, dView, dViewT, view, dOp, dUn, dAs, dNil, dCons, dAnd, dOr, dNot, dIte, dTup, dLst, dCall, dChain, two_t, two_f, cB, oIsi, oIsN, oNotN, dYes, dEach, dNoPart, dPart, dSl, use_val, use_own, use_ownd, bool_val, view_val, view_own, view_ownd, view_un, imm_val, imm_own, add_ii, add_ll, sub_ii, mul_ii, div_ii, mod_ii, pow_ii, shl_ii, cmp_ii, neg_i, isB_bb, notB_bb, len_t, len_l, abs_i, max_ii, min_ii, int_i, int_b, divmod_ii, isInt_i, isInt_t, isInt_n, isInt_b, isBool_i, isBool_b, isTuple_t, isTuple_i, isTuple_n, isList_l, isList_t, isStr_s, plain_i, plain_t, plain_l, plain_b, plain_n, plain_s, isNone_i, isNone_t, isNone_n, immI, immB, immN, immS, immT, immL_cons, immL_nil, told_val, getD_some, tupOf_t, given_own, given_ownd, items_l, items_t, owned_own, datum_val, asInt_i, asLst_l, slotAt, bEq_int, bNe_int, ix0, ix1, ix2, ix3, iy0, iy1, iy2, iy3, opt_some, map_c, map_n, vmap_c, vmap_n, app_c, app_n, rep_s, rep_z, get_z, get_s, set_z, set_s, leng_c, leng_n, Nat.reduceSub, Nat.reduceAdd, not_t, not_f, Int.reduceToNat, Int.reducePow]
      refine last (j + i) _ ?_
      have : k = 2 * q + 1 := by omega
      rw [this, Nat.mul_add, ek] at hij
      omega
    · refine last j _ ?_
      have : k = 2 * q := by omega
      rw [this, ek] at hij
      exact hij
  · have z : k = 0 := by omega
    subst z
    have : j = n := by omega
    subst this
    exact h
theorem mul_mod_pow (x m : Int) (hm : 0 < m) (i j : Nat) : ((x ^ i % m) * (x ^ j % m)).fmod m = x ^ (i + j) % m := by
  rw [Int.fmod_eq_emod_of_nonneg _ (by omega), ← Int.mul_emod, ← Int.pow_add]
theorem Pg.powA_ok {x m : Int} (hm : 2 ≤ m) (hm2 : m ≤ 2000000000000000000000000000000000000000000000000000000000000) (hx : 0 ≤ x) (hx2 : x < m) (n : Nat) {Q : DK} {X : DX} (h : Q (.val (.int (x ^ n % m)))) : Pg.w_powered_A m [.int x, .int n, .fn 100, .int 1] Q X := by
  have key := pow_seq (f := dCap 2 3 [m] Pg.t_lamA) (s := fun i => .int (x ^ i % m)) (n := n) (fun i j _ _ {Q X} q => ?_) (Q := Q) (X := X) h
  · have e0 : x ^ 0 % m = 1 := by rw [Int.pow_zero]; exact Int.emod_eq_of_lt (by decide) (by omega)
    have e1 : x ^ 1 % m = x := by rw [Int.pow_succ, Int.pow_zero, Int.one_mul]; exact Int.emod_eq_of_lt hx hx2
    have key2 : dFun 4 6 (powT (dCap 2 3 [m] Pg.t_lamA)) [.int (x ^ 1 % m), .int n, .fn 100, .int (x ^ 0 % m)] Q X := key
    rw [e0, e1] at key2
    exact key2
  · refine ⟨rfl, ?_⟩
    dsimp only [Pg.t_lamA, dSeq, dUnpL, lstOf_l, dCut, dSet, dSetV, dUnp, dPar, dDrop, dRet, dRetOwn, dRetN, dIf, dPass, dNext, dNever, dBreak, dCont, dFrz, frz, dTry, dRaise, isx_n, isx_o, dMeth, meth_b, meth_s, fld0b, fld0s, fld1b, fld1s, gr2, ws2, iso_bb, iso_bs, iso_ba, iso_sb, iso_ss, iso_sa, mk_obj, xf0, xf1, plain_o, dApp, dAug, setAll, dC, dVar, dView, dViewT, view, dOp, dUn, dAs, dNil, dCons, dAnd, dOr, dNot, dIte, dTup, dLst, dCall, dChain, two_t, two_f, cB, oIsi, oIsN, oNotN, dYes, dEach, dNoPart, dPart, dSl, use_val, use_own, use_ownd, bool_val, view_val, view_own, view_ownd, view_un, imm_val, imm_own, add_ii, add_ll, sub_ii, mul_ii, div_ii, mod_ii, pow_ii, shl_ii, cmp_ii, neg_i, isB_bb, notB_bb, len_t, len_l, abs_i, max_ii, min_ii, int_i, int_b, divmod_ii, isInt_i, isInt_t, isInt_n, isInt_b, isBool_i, isBool_b, isTuple_t, isTuple_i, isTuple_n, isList_l, isList_t, isStr_s, plain_i, plain_t, plain_l, plain_b, plain_n, plain_s, isNone_i, isNone_t, isNone_n, immI, immB, immN, immS, immT, immL_cons, immL_nil, told_val, getD_some, tupOf_t, given_own, given_ownd, items_l, items_t, owned_own, datum_val, asInt_i, asLst_l, slotAt, bEq_int, bNe_int, ix0, ix1, ix2, ix3, iy0, iy1, iy2, iy3, opt_some, map_c, map_n, vmap_c, vmap_n, app_c, app_n, rep_s, rep_z, get_z, get_s, set_z, set_s, leng_c, leng_n, Nat.reduceSub, Nat.reduceAdd, not_t, not_f, Int.reduceToNat, Int.reducePow]
    have b1 := Int.emod_nonneg (x ^ i) (b := m) (by omega)
    have b2 := Int.emod_lt_of_pos (x ^ i) (b := m) (by omega)
    have b3 := Int.emod_nonneg (x ^ j) (b := m) (by omega)
    have b4 := Int.emod_lt_of_pos (x ^ j) (b := m) (by omega)
    have B1 : Bd (x ^ i % m) 210 := ⟨by omega⟩
    have B2 : Bd (x ^ j % m) 210 := ⟨by omega⟩
    refine ⟨szB B1 B2 (by decide), by omega, ?_⟩
    rw [mul_mod_pow x m (by omega)]
    exact q
theorem flat_add (a : List Nat) (i j : Nat) : (List.replicate i a).flatten ++ (List.replicate j a).flatten = (List.replicate (i + j) a).flatten := by
  rw [← List.flatten_append, List.replicate_append_replicate]
theorem flat_len (a : List Nat) (i : Nat) : (List.replicate i a).flatten.length = i * a.length := by
  induction i with
  | zero => simp
  | succ i ih => rw [List.replicate_succ, List.flatten_cons, List.length_append, ih, Nat.succ_mul]; omega
theorem Pg.powC_ok {a : List Nat} (ha : a.length ≤ 3) {n : Nat} (hn : n ≤ 1000) {Q : DK} {X : DX} (h : Q (.val (.str (List.replicate n a).flatten))) : Pg.w_powered [.str a, .int n, .fn 100, .str []] Q X := by
  have key := pow_seq (f := Pg.w_law_lam) (s := fun i => .str (List.replicate i a).flatten) (n := n) (fun i j hi hj {Q X} q => ?_) (Q := Q) (X := X) h
  · have e1 : (List.replicate 1 a).flatten = a := by simp
    have key2 : dFun 4 6 (powT Pg.w_law_lam) [.str (List.replicate 1 a).flatten, .int n, .fn 100, .str []] Q X := key
    rw [e1] at key2
    exact key2
  · refine fun_mk ?_
    refine ⟨rfl, ?_⟩
    show _ ∧ _
    refine ⟨?_, ?_⟩
    · rw [flat_len, flat_len]
      have h1 : i * a.length ≤ 1000 * 3 := Nat.mul_le_mul (by omega) ha
      have h2 : j * a.length ≤ 1000 * 3 := Nat.mul_le_mul (by omega) ha
      omega
    · rw [flat_add]
      exact q
theorem Lw.count_ok (ns : List Int) (hl : ns.length ≤ 63) {Q : DK} {X : DX} (h : ∀ n : Nat, n < 10000000000000000000000000000000000000000 → Q (.val (.int n))) : Lw.w_law_count [.lst (ns.map D.int)] Q X := by
  refine fun_mk ?_
  dsimp only [Lw.t_law_count, dFor, dSeq, dUnpL, lstOf_l, dCut, dSet, dSetV, dUnp, dPar, dDrop, dRet, dRetOwn, dRetN, dIf, dPass, dNext, dNever, dBreak, dCont, dFrz, frz, dTry, dRaise, isx_n, isx_o, dMeth, meth_b, meth_s, fld0b, fld0s, fld1b, fld1s, gr2, ws2, iso_bb, iso_bs, iso_ba, iso_sb, iso_ss, iso_sa, mk_obj, xf0, xf1, plain_o, dApp, dAug, setAll, dC, dVar, dView, dViewT, view, dOp, dUn, dAs, dNil, dCons, dAnd, dOr, dNot, dIte, dTup, dLst, dCall, dChain, two_t, two_f, cB, oIsi, oIsN, oNotN, dYes, dEach, dNoPart, dPart, dSl, use_val, use_own, use_ownd, bool_val, view_val, view_own, view_ownd, view_un, imm_val, imm_own, add_ii, add_ll, sub_ii, mul_ii, div_ii, mod_ii, pow_ii, shl_ii, cmp_ii, neg_i, isB_bb, notB_bb, len_t, len_l, abs_i, max_ii, min_ii, int_i, int_b, divmod_ii, isInt_i, isInt_t, isInt_n, isInt_b, isBool_i, isBool_b, isTuple_t, isTuple_i, isTuple_n, isList_l, isList_t, isStr_s, plain_i, plain_t, plain_l, plain_b, plain_n, plain_s, isNone_i, isNone_t, isNone_n, immI, immB, immN, immS, immT, immL_cons, immL_nil, told_val, getD_some, tupOf_t, given_own, given_ownd, items_l, items_t, owned_own, datum_val, asInt_i, asLst_l, slotAt, bEq_int, bNe_int, ix0, ix1, ix2, ix3, iy0, iy1, iy2, iy3, opt_some, map_c, map_n, vmap_c, vmap_n, app_c, app_n, rep_s, rep_z, get_z, get_s, set_z, set_s, leng_c, leng_n, Nat.reduceSub, Nat.reduceAdd, not_t, not_f, Int.reduceToNat, Int.reducePow]
  obtain ⟨c1, c2⟩ := cut_ints ns none (some 63)
  refine ⟨rfl, ?_⟩
  refine every_g (fun ds r => (∀ d ∈ ds, ∃ k : Int, d = .int k) ∧ ∃ (n : Int) (s2 : Sl), r = [.val (.lst (ns.map D.int)), .val (.int n), s2] ∧ 0 ≤ n ∧ n < 10000000000000000000000000000000000000000) ?_ ?_ _ _ ⟨c1, 0, _, rfl, by decide, by decide⟩
  · rintro r ⟨_, n, s2, rfl, h0, h1⟩
    try dsimp only [dSeq, dUnpL, lstOf_l, dCut, dSet, dSetV, dUnp, dPar, dDrop, dRet, dRetOwn, dRetN, dIf, dPass, dNext, dNever, dBreak, dCont, dFrz, frz, dTry, dRaise, isx_n, isx_o, dMeth, meth_b, meth_s, fld0b, fld0s, fld1b, fld1s, gr2, ws2, iso_bb, iso_bs, iso_ba, iso_sb, iso_ss, iso_sa, mk_obj, xf0, xf1, plain_o, dApp, dAug, setAll, dC, dVar, dView, dViewT, view, dOp, dUn, dAs, dNil, dCons, dAnd, dOr, dNot, dIte, dTup, dLst, dCall, dChain, two_t, two_f, cB, oIsi, oIsN, oNotN, dYes, dEach, dNoPart, dPart, dSl, use_val, use_own, use_ownd, bool_val, view_val, view_own, view_ownd, view_un, imm_val, imm_own, add_ii, add_ll, sub_ii, mul_ii, div_ii, mod_ii, pow_ii, shl_ii, cmp_ii, neg_i, isB_bb, notB_bb, len_t, len_l, abs_i, max_ii, min_ii, int_i, int_b, divmod_ii, isInt_i, isInt_t, isInt_n, isInt_b, isBool_i, isBool_b, isTuple_t, isTuple_i, isTuple_n, isList_l, isList_t, isStr_s, plain_i, plain_t, plain_l, plain_b, plain_n, plain_s, isNone_i, isNone_t, isNone_n, immI, immB, immN, immS, immT, immL_cons, immL_nil, told_val, getD_some, tupOf_t, given_own, given_ownd, items_l, items_t, owned_own, datum_val, asInt_i, asLst_l, slotAt, bEq_int, bNe_int, ix0, ix1, ix2, ix3, iy0, iy1, iy2, iy3, opt_some, map_c, map_n, vmap_c, vmap_n, app_c, app_n, rep_s, rep_z, get_z, get_s, set_z, set_s, leng_c, leng_n, Nat.reduceSub, Nat.reduceAdd, not_t, not_f, Int.reduceToNat, Int.reducePow]
    refine Lw.cell_ok ns 1 (by decide) _ _ ?_
    try dsimp only [dSeq, dUnpL, lstOf_l, dCut, dSet, dSetV, dUnp, dPar, dDrop, dRet, dRetOwn, dRetN, dIf, dPass, dNext, dNever, dBreak, dCont, dFrz, frz, dTry, dRaise, isx_n, isx_o, dMeth, meth_b, meth_s, fld0b, fld0s, fld1b, fld1s, gr2, ws2, iso_bb, iso_bs, iso_ba, iso_sb, iso_ss, iso_sa, mk_obj, xf0, xf1, plain_o, dApp, dAug, setAll, dC, dVar, dView, dViewT, view, dOp, dUn, dAs, dNil, dCons, dAnd, dOr, dNot, dIte, dTup, dLst, dCall, dChain, two_t, two_f, cB, oIsi, oIsN, oNotN, dYes, dEach, dNoPart, dPart, dSl, use_val, use_own, use_ownd, bool_val, view_val, view_own, view_ownd, view_un, imm_val, imm_own, add_ii, add_ll, sub_ii, mul_ii, div_ii, mod_ii, pow_ii, shl_ii, cmp_ii, neg_i, isB_bb, notB_bb, len_t, len_l, abs_i, max_ii, min_ii, int_i, int_b, divmod_ii, isInt_i, isInt_t, isInt_n, isInt_b, isBool_i, isBool_b, isTuple_t, isTuple_i, isTuple_n, isList_l, isList_t, isStr_s, plain_i, plain_t, plain_l, plain_b, plain_n, plain_s, isNone_i, isNone_t, isNone_n, immI, immB, immN, immS, immT, immL_cons, immL_nil, told_val, getD_some, tupOf_t, given_own, given_ownd, items_l, items_t, owned_own, datum_val, asInt_i, asLst_l, slotAt, bEq_int, bNe_int, ix0, ix1, ix2, ix3, iy0, iy1, iy2, iy3, opt_some, map_c, map_n, vmap_c, vmap_n, app_c, app_n, rep_s, rep_z, get_z, get_s, set_z, set_s, leng_c, leng_n, Nat.reduceSub, Nat.reduceAdd, not_t, not_f, Int.reduceToNat, Int.reducePow]
    have g := fm n (y := 71) (by decide)
    have e : ∀ z : Int, 0 ≤ z → z < 10000000000000000000000000000000000000000 → Q (.val (.int z)) := fun z a b => by
      obtain ⟨k, rfl⟩ : ∃ k : Nat, z = k := ⟨z.toNat, by omega⟩
      exact h k (by omega)
    refine ⟨by decide, two_d (fun _ => ⟨by decide, e _ g.1 (by omega)⟩) fun _ => e _ h0 h1⟩
  · rintro d ds r G ⟨hd, n, s2, rfl, h0, h1⟩ ih
    obtain ⟨k, rfl⟩ := hd d List.mem_cons_self
    try dsimp only [dSeq, dUnpL, lstOf_l, dCut, dSet, dSetV, dUnp, dPar, dDrop, dRet, dRetOwn, dRetN, dIf, dPass, dNext, dNever, dBreak, dCont, dFrz, frz, dTry, dRaise, isx_n, isx_o, dMeth, meth_b, meth_s, fld0b, fld0s, fld1b, fld1s, gr2, ws2, iso_bb, iso_bs, iso_ba, iso_sb, iso_ss, iso_sa, mk_obj, xf0, xf1, plain_o, dApp, dAug, setAll, dC, dVar, dView, dViewT, view, dOp, dUn, dAs, dNil, dCons, dAnd, dOr, dNot, dIte, dTup, dLst, dCall, dChain, two_t, two_f, cB, oIsi, oIsN, oNotN, dYes, dEach, dNoPart, dPart, dSl, use_val, use_own, use_ownd, bool_val, view_val, view_own, view_ownd, view_un, imm_val, imm_own, add_ii, add_ll, sub_ii, mul_ii, div_ii, mod_ii, pow_ii, shl_ii, cmp_ii, neg_i, isB_bb, notB_bb, len_t, len_l, abs_i, max_ii, min_ii, int_i, int_b, divmod_ii, isInt_i, isInt_t, isInt_n, isInt_b, isBool_i, isBool_b, isTuple_t, isTuple_i, isTuple_n, isList_l, isList_t, isStr_s, plain_i, plain_t, plain_l, plain_b, plain_n, plain_s, isNone_i, isNone_t, isNone_n, immI, immB, immN, immS, immT, immL_cons, immL_nil, told_val, getD_some, tupOf_t, given_own, given_ownd, items_l, items_t, owned_own, datum_val, asInt_i, asLst_l, slotAt, bEq_int, bNe_int, ix0, ix1, ix2, ix3, iy0, iy1, iy2, iy3, opt_some, map_c, map_n, vmap_c, vmap_n, app_c, app_n, rep_s, rep_z, get_z, get_s, set_z, set_s, leng_c, leng_n, Nat.reduceSub, Nat.reduceAdd, not_t, not_f, Int.reduceToNat, Int.reducePow]
    have g := fm (n * 48271 + k) (y := 10000000000000000000000000000000000000000) (by decide)
    exact ⟨szR (by decide), by decide, ih _ ⟨fun d h => hd d (List.mem_cons_of_mem _ h), _, _, rfl, g.1, g.2⟩⟩
theorem Lw.rests_5 {ns : List Int} {x m : Int} (hm : 2 ≤ m) (hm2 : m ≤ 2000000000000000000000000000000000000000000000000000000000000) (hx : 0 ≤ x) (hx2 : x < m) (n : Nat) (hn : n ≤ 71) {s4 s5 s6 : Sl} {N : Env → Prop} {Q : DK} {B C : Env → Prop} {X : Exn → Env → Prop} (h : Q (.val (.bl true))) :
    Lw.t_law_rests_5 N Q B C X [.val (.lst (ns.map D.int)), .val (.int n), .val (.int m), .val (.int x), s4, s5, s6] := by
  refine ⟨?_⟩
  dsimp only [dFor, rng1, dSeq, dUnpL, lstOf_l, dCut, dSet, dSetV, dUnp, dPar, dDrop, dRet, dRetOwn, dRetN, dIf, dPass, dNext, dNever, dBreak, dCont, dFrz, frz, dTry, dRaise, isx_n, isx_o, dMeth, meth_b, meth_s, fld0b, fld0s, fld1b, fld1s, gr2, ws2, iso_bb, iso_bs, iso_ba, iso_sb, iso_ss, iso_sa, mk_obj, xf0, xf1, plain_o, dApp, dAug, setAll, dC, dVar, dView, dViewT, view, dOp, dUn, dAs, dNil, dCons, dAnd, dOr, dNot, dIte, dTup, dLst, dCall, dChain, two_t, two_f, cB, oIsi, oIsN, oNotN, dYes, dEach, dNoPart, dPart, dSl, use_val, use_own, use_ownd, bool_val, view_val, view_own, view_ownd, view_un, imm_val, imm_own, add_ii, add_ll, sub_ii, mul_ii, div_ii, mod_ii, pow_ii, shl_ii, cmp_ii, neg_i, isB_bb, notB_bb, len_t, len_l, abs_i, max_ii, min_ii, int_i, int_b, divmod_ii, isInt_i, isInt_t, isInt_n, isInt_b, isBool_i, isBool_b, isTuple_t, isTuple_i, isTuple_n, isList_l, isList_t, isStr_s, plain_i, plain_t, plain_l, plain_b, plain_n, plain_s, isNone_i, isNone_t, isNone_n, immI, immB, immN, immS, immT, immL_cons, immL_nil, told_val, getD_some, tupOf_t, given_own, given_ownd, items_l, items_t, owned_own, datum_val, asInt_i, asLst_l, slotAt, bEq_int, bNe_int, ix0, ix1, ix2, ix3, iy0, iy1, iy2, iy3, opt_some, map_c, map_n, vmap_c, vmap_n, app_c, app_n, rep_s, rep_z, get_z, get_s, set_z, set_s, leng_c, leng_n, Nat.reduceSub, Nat.reduceAdd, not_t, not_f, Int.reduceToNat, Int.reducePow]
  refine ⟨by omega, ?_⟩
  refine every_rng (fun j r => ∃ (k : Nat) (s5 s6 : Sl), j = (k : Int) ∧ k ≤ n ∧ r = [.val (.lst (ns.map D.int)), .val (.int n), .val (.int m), .val (.int x), .val (.int (x ^ k % m)), s5, s6]) ?_ ?_ _ _ ⟨0, s5, s6, rfl, by omega, ?_⟩
  · rintro j r hj ⟨k, s5, s6, rfl, hk, rfl⟩
    have e : k = n := by omega
    subst e
    try dsimp only [dSeq, dUnpL, lstOf_l, dCut, dSet, dSetV, dUnp, dPar, dDrop, dRet, dRetOwn, dRetN, dIf, dPass, dNext, dNever, dBreak, dCont, dFrz, frz, dTry, dRaise, isx_n, isx_o, dMeth, meth_b, meth_s, fld0b, fld0s, fld1b, fld1s, gr2, ws2, iso_bb, iso_bs, iso_ba, iso_sb, iso_ss, iso_sa, mk_obj, xf0, xf1, plain_o, dApp, dAug, setAll, dC, dVar, dView, dViewT, view, dOp, dUn, dAs, dNil, dCons, dAnd, dOr, dNot, dIte, dTup, dLst, dCall, dChain, two_t, two_f, cB, oIsi, oIsN, oNotN, dYes, dEach, dNoPart, dPart, dSl, use_val, use_own, use_ownd, bool_val, view_val, view_own, view_ownd, view_un, imm_val, imm_own, add_ii, add_ll, sub_ii, mul_ii, div_ii, mod_ii, pow_ii, shl_ii, cmp_ii, neg_i, isB_bb, notB_bb, len_t, len_l, abs_i, max_ii, min_ii, int_i, int_b, divmod_ii, isInt_i, isInt_t, isInt_n, isInt_b, isBool_i, isBool_b, isTuple_t, isTuple_i, isTuple_n, isList_l, isList_t, isStr_s, plain_i, plain_t, plain_l, plain_b, plain_n, plain_s, isNone_i, isNone_t, isNone_n, immI, immB, immN, immS, immT, immL_cons, immL_nil, told_val, getD_some, tupOf_t, given_own, given_ownd, items_l, items_t, owned_own, datum_val, asInt_i, asLst_l, slotAt, bEq_int, bNe_int, ix0, ix1, ix2, ix3, iy0, iy1, iy2, iy3, opt_some, map_c, map_n, vmap_c, vmap_n, app_c, app_n, rep_s, rep_z, get_z, get_s, set_z, set_s, leng_c, leng_n, Nat.reduceSub, Nat.reduceAdd, not_t, not_f, Int.reduceToNat, Int.reducePow]
    dsimp only [dPowC, dSeq, dUnpL, lstOf_l, dCut, dSet, dSetV, dUnp, dPar, dDrop, dRet, dRetOwn, dRetN, dIf, dPass, dNext, dNever, dBreak, dCont, dFrz, frz, dTry, dRaise, isx_n, isx_o, dMeth, meth_b, meth_s, fld0b, fld0s, fld1b, fld1s, gr2, ws2, iso_bb, iso_bs, iso_ba, iso_sb, iso_ss, iso_sa, mk_obj, xf0, xf1, plain_o, dApp, dAug, setAll, dC, dVar, dView, dViewT, view, dOp, dUn, dAs, dNil, dCons, dAnd, dOr, dNot, dIte, dTup, dLst, dCall, dChain, two_t, two_f, cB, oIsi, oIsN, oNotN, dYes, dEach, dNoPart, dPart, dSl, use_val, use_own, use_ownd, bool_val, view_val, view_own, view_ownd, view_un, imm_val, imm_own, add_ii, add_ll, sub_ii, mul_ii, div_ii, mod_ii, pow_ii, shl_ii, cmp_ii, neg_i, isB_bb, notB_bb, len_t, len_l, abs_i, max_ii, min_ii, int_i, int_b, divmod_ii, isInt_i, isInt_t, isInt_n, isInt_b, isBool_i, isBool_b, isTuple_t, isTuple_i, isTuple_n, isList_l, isList_t, isStr_s, plain_i, plain_t, plain_l, plain_b, plain_n, plain_s, isNone_i, isNone_t, isNone_n, immI, immB, immN, immS, immT, immL_cons, immL_nil, told_val, getD_some, tupOf_t, given_own, given_ownd, items_l, items_t, owned_own, datum_val, asInt_i, asLst_l, slotAt, bEq_int, bNe_int, ix0, ix1, ix2, ix3, iy0, iy1, iy2, iy3, opt_some, map_c, map_n, vmap_c, vmap_n, app_c, app_n, rep_s, rep_z, get_z, get_s, set_z, set_s, leng_c, leng_n, Nat.reduceSub, Nat.reduceAdd, not_t, not_f, Int.reduceToNat, Int.reducePow]
    refine ⟨x, rfl, k, rfl, m, rfl, Pg.powA_ok hm hm2 hx hx2 k ⟨_, rfl, ?_⟩⟩
    try dsimp only [dSeq, dUnpL, lstOf_l, dCut, dSet, dSetV, dUnp, dPar, dDrop, dRet, dRetOwn, dRetN, dIf, dPass, dNext, dNever, dBreak, dCont, dFrz, frz, dTry, dRaise, isx_n, isx_o, dMeth, meth_b, meth_s, fld0b, fld0s, fld1b, fld1s, gr2, ws2, iso_bb, iso_bs, iso_ba, iso_sb, iso_ss, iso_sa, mk_obj, xf0, xf1, plain_o, dApp, dAug, setAll, dC, dVar, dView, dViewT, view, dOp, dUn, dAs, dNil, dCons, dAnd, dOr, dNot, dIte, dTup, dLst, dCall, dChain, two_t, two_f, cB, oIsi, oIsN, oNotN, dYes, dEach, dNoPart, dPart, dSl, use_val, use_own, use_ownd, bool_val, view_val, view_own, view_ownd, view_un, imm_val, imm_own, add_ii, add_ll, sub_ii, mul_ii, div_ii, mod_ii, pow_ii, shl_ii, cmp_ii, neg_i, isB_bb, notB_bb, len_t, len_l, abs_i, max_ii, min_ii, int_i, int_b, divmod_ii, isInt_i, isInt_t, isInt_n, isInt_b, isBool_i, isBool_b, isTuple_t, isTuple_i, isTuple_n, isList_l, isList_t, isStr_s, plain_i, plain_t, plain_l, plain_b, plain_n, plain_s, isNone_i, isNone_t, isNone_n, immI, immB, immN, immS, immT, immL_cons, immL_nil, told_val, getD_some, tupOf_t, given_own, given_ownd, items_l, items_t, owned_own, datum_val, asInt_i, asLst_l, slotAt, bEq_int, bNe_int, ix0, ix1, ix2, ix3, iy0, iy1, iy2, iy3, opt_some, map_c, map_n, vmap_c, vmap_n, app_c, app_n, rep_s, rep_z, get_z, get_s, set_z, set_s, leng_c, leng_n, Nat.reduceSub, Nat.reduceAdd, not_t, not_f, Int.reduceToNat, Int.reducePow]
    refine Lw.whole_ok _ _ _ ?_
    try dsimp only [dSeq, dUnpL, lstOf_l, dCut, dSet, dSetV, dUnp, dPar, dDrop, dRet, dRetOwn, dRetN, dIf, dPass, dNext, dNever, dBreak, dCont, dFrz, frz, dTry, dRaise, isx_n, isx_o, dMeth, meth_b, meth_s, fld0b, fld0s, fld1b, fld1s, gr2, ws2, iso_bb, iso_bs, iso_ba, iso_sb, iso_ss, iso_sa, mk_obj, xf0, xf1, plain_o, dApp, dAug, setAll, dC, dVar, dView, dViewT, view, dOp, dUn, dAs, dNil, dCons, dAnd, dOr, dNot, dIte, dTup, dLst, dCall, dChain, two_t, two_f, cB, oIsi, oIsN, oNotN, dYes, dEach, dNoPart, dPart, dSl, use_val, use_own, use_ownd, bool_val, view_val, view_own, view_ownd, view_un, imm_val, imm_own, add_ii, add_ll, sub_ii, mul_ii, div_ii, mod_ii, pow_ii, shl_ii, cmp_ii, neg_i, isB_bb, notB_bb, len_t, len_l, abs_i, max_ii, min_ii, int_i, int_b, divmod_ii, isInt_i, isInt_t, isInt_n, isInt_b, isBool_i, isBool_b, isTuple_t, isTuple_i, isTuple_n, isList_l, isList_t, isStr_s, plain_i, plain_t, plain_l, plain_b, plain_n, plain_s, isNone_i, isNone_t, isNone_n, immI, immB, immN, immS, immT, immL_cons, immL_nil, told_val, getD_some, tupOf_t, given_own, given_ownd, items_l, items_t, owned_own, datum_val, asInt_i, asLst_l, slotAt, bEq_int, bNe_int, ix0, ix1, ix2, ix3, iy0, iy1, iy2, iy3, opt_some, map_c, map_n, vmap_c, vmap_n, app_c, app_n, rep_s, rep_z, get_z, get_s, set_z, set_s, leng_c, leng_n, Nat.reduceSub, Nat.reduceAdd, not_t, not_f, Int.reduceToNat, Int.reducePow]
    rw [decide_eq_true rfl]
    exact h
  · rintro j r G hj ⟨k, s5, s6, rfl, hk, rfl⟩ ih
    try dsimp only [dSeq, dUnpL, lstOf_l, dCut, dSet, dSetV, dUnp, dPar, dDrop, dRet, dRetOwn, dRetN, dIf, dPass, dNext, dNever, dBreak, dCont, dFrz, frz, dTry, dRaise, isx_n, isx_o, dMeth, meth_b, meth_s, fld0b, fld0s, fld1b, fld1s, gr2, ws2, iso_bb, iso_bs, iso_ba, iso_sb, iso_ss, iso_sa, mk_obj, xf0, xf1, plain_o, dApp, dAug, setAll, dC, dVar, dView, dViewT, view, dOp, dUn, dAs, dNil, dCons, dAnd, dOr, dNot, dIte, dTup, dLst, dCall, dChain, two_t, two_f, cB, oIsi, oIsN, oNotN, dYes, dEach, dNoPart, dPart, dSl, use_val, use_own, use_ownd, bool_val, view_val, view_own, view_ownd, view_un, imm_val, imm_own, add_ii, add_ll, sub_ii, mul_ii, div_ii, mod_ii, pow_ii, shl_ii, cmp_ii, neg_i, isB_bb, notB_bb, len_t, len_l, abs_i, max_ii, min_ii, int_i, int_b, divmod_ii, isInt_i, isInt_t, isInt_n, isInt_b, isBool_i, isBool_b, isTuple_t, isTuple_i, isTuple_n, isList_l, isList_t, isStr_s, plain_i, plain_t, plain_l, plain_b, plain_n, plain_s, isNone_i, isNone_t, isNone_n, immI, immB, immN, immS, immT, immL_cons, immL_nil, told_val, getD_some, tupOf_t, given_own, given_ownd, items_l, items_t, owned_own, datum_val, asInt_i, asLst_l, slotAt, bEq_int, bNe_int, ix0, ix1, ix2, ix3, iy0, iy1, iy2, iy3, opt_some, map_c, map_n, vmap_c, vmap_n, app_c, app_n, rep_s, rep_z, get_z, get_s, set_z, set_s, leng_c, leng_n, Nat.reduceSub, Nat.reduceAdd, not_t, not_f, Int.reduceToNat, Int.reducePow]
    have b1 := Int.emod_nonneg (x ^ k) (b := m) (by omega)
    have b2 := Int.emod_lt_of_pos (x ^ k) (b := m) (by omega)
    have B1 : Bd (x ^ k % m) 210 := ⟨by omega⟩
    have B2 : Bd x 210 := ⟨by omega⟩
    have e := mul_mod_pow x m (by omega) k 1
    have e1 : x ^ 1 % m = x := by rw [Int.pow_succ, Int.pow_zero, Int.one_mul]; exact Int.emod_eq_of_lt hx hx2
    rw [e1] at e
    refine ⟨szB B1 B2 (by decide), by omega, ?_⟩
    rw [e]
    exact ih _ ⟨k + 1, _, _, by omega, by omega, rfl⟩
  · have e0 : x ^ 0 % m = 1 := by rw [Int.pow_zero]; exact Int.emod_eq_of_lt (by decide) (by omega)
    rw [e0]
theorem Lw.rests_ok (ns : List Int) (n : Nat) (hn : n ≤ 71) {Q : DK} {X : DX} (h : Q (.val (.bl true))) : Lw.w_law_rests [.lst (ns.map D.int), .int n] Q X := by
  refine fun_mk ?_
  dsimp only [Lw.t_law_rests, dSeq, dUnpL, lstOf_l, dCut, dSet, dSetV, dUnp, dPar, dDrop, dRet, dRetOwn, dRetN, dIf, dPass, dNext, dNever, dBreak, dCont, dFrz, frz, dTry, dRaise, isx_n, isx_o, dMeth, meth_b, meth_s, fld0b, fld0s, fld1b, fld1s, gr2, ws2, iso_bb, iso_bs, iso_ba, iso_sb, iso_ss, iso_sa, mk_obj, xf0, xf1, plain_o, dApp, dAug, setAll, dC, dVar, dView, dViewT, view, dOp, dUn, dAs, dNil, dCons, dAnd, dOr, dNot, dIte, dTup, dLst, dCall, dChain, two_t, two_f, cB, oIsi, oIsN, oNotN, dYes, dEach, dNoPart, dPart, dSl, use_val, use_own, use_ownd, bool_val, view_val, view_own, view_ownd, view_un, imm_val, imm_own, add_ii, add_ll, sub_ii, mul_ii, div_ii, mod_ii, pow_ii, shl_ii, cmp_ii, neg_i, isB_bb, notB_bb, len_t, len_l, abs_i, max_ii, min_ii, int_i, int_b, divmod_ii, isInt_i, isInt_t, isInt_n, isInt_b, isBool_i, isBool_b, isTuple_t, isTuple_i, isTuple_n, isList_l, isList_t, isStr_s, plain_i, plain_t, plain_l, plain_b, plain_n, plain_s, isNone_i, isNone_t, isNone_n, immI, immB, immN, immS, immT, immL_cons, immL_nil, told_val, getD_some, tupOf_t, given_own, given_ownd, items_l, items_t, owned_own, datum_val, asInt_i, asLst_l, slotAt, bEq_int, bNe_int, ix0, ix1, ix2, ix3, iy0, iy1, iy2, iy3, opt_some, map_c, map_n, vmap_c, vmap_n, app_c, app_n, rep_s, rep_z, get_z, get_s, set_z, set_s, leng_c, leng_n, Nat.reduceSub, Nat.reduceAdd, not_t, not_f, Int.reduceToNat, Int.reducePow]
  refine ⟨rfl, Lw.cell_ok ns 4 (by decide) _ _ ?_⟩
  generalize ns.getD (4 : Int).toNat 0 = c4
  try dsimp only [dSeq, dUnpL, lstOf_l, dCut, dSet, dSetV, dUnp, dPar, dDrop, dRet, dRetOwn, dRetN, dIf, dPass, dNext, dNever, dBreak, dCont, dFrz, frz, dTry, dRaise, isx_n, isx_o, dMeth, meth_b, meth_s, fld0b, fld0s, fld1b, fld1s, gr2, ws2, iso_bb, iso_bs, iso_ba, iso_sb, iso_ss, iso_sa, mk_obj, xf0, xf1, plain_o, dApp, dAug, setAll, dC, dVar, dView, dViewT, view, dOp, dUn, dAs, dNil, dCons, dAnd, dOr, dNot, dIte, dTup, dLst, dCall, dChain, two_t, two_f, cB, oIsi, oIsN, oNotN, dYes, dEach, dNoPart, dPart, dSl, use_val, use_own, use_ownd, bool_val, view_val, view_own, view_ownd, view_un, imm_val, imm_own, add_ii, add_ll, sub_ii, mul_ii, div_ii, mod_ii, pow_ii, shl_ii, cmp_ii, neg_i, isB_bb, notB_bb, len_t, len_l, abs_i, max_ii, min_ii, int_i, int_b, divmod_ii, isInt_i, isInt_t, isInt_n, isInt_b, isBool_i, isBool_b, isTuple_t, isTuple_i, isTuple_n, isList_l, isList_t, isStr_s, plain_i, plain_t, plain_l, plain_b, plain_n, plain_s, isNone_i, isNone_t, isNone_n, immI, immB, immN, immS, immT, immL_cons, immL_nil, told_val, getD_some, tupOf_t, given_own, given_ownd, items_l, items_t, owned_own, datum_val, asInt_i, asLst_l, slotAt, bEq_int, bNe_int, ix0, ix1, ix2, ix3, iy0, iy1, iy2, iy3, opt_some, map_c, map_n, vmap_c, vmap_n, app_c, app_n, rep_s, rep_z, get_z, get_s, set_z, set_s, leng_c, leng_n, Nat.reduceSub, Nat.reduceAdd, not_t, not_f, Int.reduceToNat, Int.reducePow]
  have g4 := fm c4 (y := 1000000000000000000000000000000000000000000000000000000000000) (by decide)
  generalize c4.fmod 1000000000000000000000000000000000000000000000000000000000000 = r4 at *
  refine ⟨by decide, Lw.cell_ok ns 5 (by decide) _ _ ?_⟩
  generalize ns.getD (5 : Int).toNat 0 = c5
  try dsimp only [dSeq, dUnpL, lstOf_l, dCut, dSet, dSetV, dUnp, dPar, dDrop, dRet, dRetOwn, dRetN, dIf, dPass, dNext, dNever, dBreak, dCont, dFrz, frz, dTry, dRaise, isx_n, isx_o, dMeth, meth_b, meth_s, fld0b, fld0s, fld1b, fld1s, gr2, ws2, iso_bb, iso_bs, iso_ba, iso_sb, iso_ss, iso_sa, mk_obj, xf0, xf1, plain_o, dApp, dAug, setAll, dC, dVar, dView, dViewT, view, dOp, dUn, dAs, dNil, dCons, dAnd, dOr, dNot, dIte, dTup, dLst, dCall, dChain, two_t, two_f, cB, oIsi, oIsN, oNotN, dYes, dEach, dNoPart, dPart, dSl, use_val, use_own, use_ownd, bool_val, view_val, view_own, view_ownd, view_un, imm_val, imm_own, add_ii, add_ll, sub_ii, mul_ii, div_ii, mod_ii, pow_ii, shl_ii, cmp_ii, neg_i, isB_bb, notB_bb, len_t, len_l, abs_i, max_ii, min_ii, int_i, int_b, divmod_ii, isInt_i, isInt_t, isInt_n, isInt_b, isBool_i, isBool_b, isTuple_t, isTuple_i, isTuple_n, isList_l, isList_t, isStr_s, plain_i, plain_t, plain_l, plain_b, plain_n, plain_s, isNone_i, isNone_t, isNone_n, immI, immB, immN, immS, immT, immL_cons, immL_nil, told_val, getD_some, tupOf_t, given_own, given_ownd, items_l, items_t, owned_own, datum_val, asInt_i, asLst_l, slotAt, bEq_int, bNe_int, ix0, ix1, ix2, ix3, iy0, iy1, iy2, iy3, opt_some, map_c, map_n, vmap_c, vmap_n, app_c, app_n, rep_s, rep_z, get_z, get_s, set_z, set_s, leng_c, leng_n, Nat.reduceSub, Nat.reduceAdd, not_t, not_f, Int.reduceToNat, Int.reducePow]
  have g5 := fm c5 (y := 2 + r4) (by omega)
  generalize c5.fmod (2 + r4) = x5 at *
  refine ⟨by omega, Lw.cell_ok ns 6 (by decide) _ _ ?_⟩
  try dsimp only [dSeq, dUnpL, lstOf_l, dCut, dSet, dSetV, dUnp, dPar, dDrop, dRet, dRetOwn, dRetN, dIf, dPass, dNext, dNever, dBreak, dCont, dFrz, frz, dTry, dRaise, isx_n, isx_o, dMeth, meth_b, meth_s, fld0b, fld0s, fld1b, fld1s, gr2, ws2, iso_bb, iso_bs, iso_ba, iso_sb, iso_ss, iso_sa, mk_obj, xf0, xf1, plain_o, dApp, dAug, setAll, dC, dVar, dView, dViewT, view, dOp, dUn, dAs, dNil, dCons, dAnd, dOr, dNot, dIte, dTup, dLst, dCall, dChain, two_t, two_f, cB, oIsi, oIsN, oNotN, dYes, dEach, dNoPart, dPart, dSl, use_val, use_own, use_ownd, bool_val, view_val, view_own, view_ownd, view_un, imm_val, imm_own, add_ii, add_ll, sub_ii, mul_ii, div_ii, mod_ii, pow_ii, shl_ii, cmp_ii, neg_i, isB_bb, notB_bb, len_t, len_l, abs_i, max_ii, min_ii, int_i, int_b, divmod_ii, isInt_i, isInt_t, isInt_n, isInt_b, isBool_i, isBool_b, isTuple_t, isTuple_i, isTuple_n, isList_l, isList_t, isStr_s, plain_i, plain_t, plain_l, plain_b, plain_n, plain_s, isNone_i, isNone_t, isNone_n, immI, immB, immN, immS, immT, immL_cons, immL_nil, told_val, getD_some, tupOf_t, given_own, given_ownd, items_l, items_t, owned_own, datum_val, asInt_i, asLst_l, slotAt, bEq_int, bNe_int, ix0, ix1, ix2, ix3, iy0, iy1, iy2, iy3, opt_some, map_c, map_n, vmap_c, vmap_n, app_c, app_n, rep_s, rep_z, get_z, get_s, set_z, set_s, leng_c, leng_n, Nat.reduceSub, Nat.reduceAdd, not_t, not_f, Int.reduceToNat, Int.reducePow]
  refine ⟨by decide, two_d (fun _ => Lw.rests_5 (by omega) (by omega) (by decide) (by omega) n hn h) fun _ => Lw.rests_5 (by omega) (by omega) g5.1 g5.2 n hn h⟩
theorem bitsN_le {n k : Nat} (h : n < 2 ^ k) (hk : 0 < k) : bits (n : Int) ≤ k := by
  unfold bits
  split
  · omega
  · rename_i z
    rw [Int.natAbs_natCast]
    have : n.log2 < k := (Nat.log2_lt (by omega)).mpr h
    omega
theorem flat_all (a : List Nat) (p : Nat → Bool) (h : a.all p = true) (k : Nat) : (List.replicate k a).flatten.all p = true := by
  induction k with
  | zero => rfl
  | succ k ih => rw [List.replicate_succ, List.flatten_cons, List.all_append, h, ih]; rfl
theorem Lw.law_true (ns : List Int) (hl : ns.length ≤ 63) : Lw.w_law [.lst (ns.map D.int)] (fun s => s = .val (.bl true)) fun _ => False := by
  refine fun_mk ?_
  dsimp only [Lw.t_law, dSeq, dUnpL, lstOf_l, dCut, dSet, dSetV, dUnp, dPar, dDrop, dRet, dRetOwn, dRetN, dIf, dPass, dNext, dNever, dBreak, dCont, dFrz, frz, dTry, dRaise, isx_n, isx_o, dMeth, meth_b, meth_s, fld0b, fld0s, fld1b, fld1s, gr2, ws2, iso_bb, iso_bs, iso_ba, iso_sb, iso_ss, iso_sa, mk_obj, xf0, xf1, plain_o, dApp, dAug, setAll, dC, dVar, dView, dViewT, view, dOp, dUn, dAs, dNil, dCons, dAnd, dOr, dNot, dIte, dTup, dLst, dCall, dChain, two_t, two_f, cB, oIsi, oIsN, oNotN, dYes, dEach, dNoPart, dPart, dSl, use_val, use_own, use_ownd, bool_val, view_val, view_own, view_ownd, view_un, imm_val, imm_own, add_ii, add_ll, sub_ii, mul_ii, div_ii, mod_ii, pow_ii, shl_ii, cmp_ii, neg_i, isB_bb, notB_bb, len_t, len_l, abs_i, max_ii, min_ii, int_i, int_b, divmod_ii, isInt_i, isInt_t, isInt_n, isInt_b, isBool_i, isBool_b, isTuple_t, isTuple_i, isTuple_n, isList_l, isList_t, isStr_s, plain_i, plain_t, plain_l, plain_b, plain_n, plain_s, isNone_i, isNone_t, isNone_n, immI, immB, immN, immS, immT, immL_cons, immL_nil, told_val, getD_some, tupOf_t, given_own, given_ownd, items_l, items_t, owned_own, datum_val, asInt_i, asLst_l, slotAt, bEq_int, bNe_int, ix0, ix1, ix2, ix3, iy0, iy1, iy2, iy3, opt_some, map_c, map_n, vmap_c, vmap_n, app_c, app_n, rep_s, rep_z, get_z, get_s, set_z, set_s, leng_c, leng_n, Nat.reduceSub, Nat.reduceAdd, not_t, not_f, Int.reduceToNat, Int.reducePow]
  refine ⟨rfl, Lw.count_ok ns hl fun n hn => ?_⟩
  try dsimp only [dSeq, dUnpL, lstOf_l, dCut, dSet, dSetV, dUnp, dPar, dDrop, dRet, dRetOwn, dRetN, dIf, dPass, dNext, dNever, dBreak, dCont, dFrz, frz, dTry, dRaise, isx_n, isx_o, dMeth, meth_b, meth_s, fld0b, fld0s, fld1b, fld1s, gr2, ws2, iso_bb, iso_bs, iso_ba, iso_sb, iso_ss, iso_sa, mk_obj, xf0, xf1, plain_o, dApp, dAug, setAll, dC, dVar, dView, dViewT, view, dOp, dUn, dAs, dNil, dCons, dAnd, dOr, dNot, dIte, dTup, dLst, dCall, dChain, two_t, two_f, cB, oIsi, oIsN, oNotN, dYes, dEach, dNoPart, dPart, dSl, use_val, use_own, use_ownd, bool_val, view_val, view_own, view_ownd, view_un, imm_val, imm_own, add_ii, add_ll, sub_ii, mul_ii, div_ii, mod_ii, pow_ii, shl_ii, cmp_ii, neg_i, isB_bb, notB_bb, len_t, len_l, abs_i, max_ii, min_ii, int_i, int_b, divmod_ii, isInt_i, isInt_t, isInt_n, isInt_b, isBool_i, isBool_b, isTuple_t, isTuple_i, isTuple_n, isList_l, isList_t, isStr_s, plain_i, plain_t, plain_l, plain_b, plain_n, plain_s, isNone_i, isNone_t, isNone_n, immI, immB, immN, immS, immT, immL_cons, immL_nil, told_val, getD_some, tupOf_t, given_own, given_ownd, items_l, items_t, owned_own, datum_val, asInt_i, asLst_l, slotAt, bEq_int, bNe_int, ix0, ix1, ix2, ix3, iy0, iy1, iy2, iy3, opt_some, map_c, map_n, vmap_c, vmap_n, app_c, app_n, rep_s, rep_z, get_z, get_s, set_z, set_s, leng_c, leng_n, Nat.reduceSub, Nat.reduceAdd, not_t, not_f, Int.reduceToNat, Int.reducePow]
  refine Lw.cell_ok ns 2 (by decide) _ _ ?_
  generalize ns.getD (2 : Int).toNat 0 = c2
  try dsimp only [dSeq, dUnpL, lstOf_l, dCut, dSet, dSetV, dUnp, dPar, dDrop, dRet, dRetOwn, dRetN, dIf, dPass, dNext, dNever, dBreak, dCont, dFrz, frz, dTry, dRaise, isx_n, isx_o, dMeth, meth_b, meth_s, fld0b, fld0s, fld1b, fld1s, gr2, ws2, iso_bb, iso_bs, iso_ba, iso_sb, iso_ss, iso_sa, mk_obj, xf0, xf1, plain_o, dApp, dAug, setAll, dC, dVar, dView, dViewT, view, dOp, dUn, dAs, dNil, dCons, dAnd, dOr, dNot, dIte, dTup, dLst, dCall, dChain, two_t, two_f, cB, oIsi, oIsN, oNotN, dYes, dEach, dNoPart, dPart, dSl, use_val, use_own, use_ownd, bool_val, view_val, view_own, view_ownd, view_un, imm_val, imm_own, add_ii, add_ll, sub_ii, mul_ii, div_ii, mod_ii, pow_ii, shl_ii, cmp_ii, neg_i, isB_bb, notB_bb, len_t, len_l, abs_i, max_ii, min_ii, int_i, int_b, divmod_ii, isInt_i, isInt_t, isInt_n, isInt_b, isBool_i, isBool_b, isTuple_t, isTuple_i, isTuple_n, isList_l, isList_t, isStr_s, plain_i, plain_t, plain_l, plain_b, plain_n, plain_s, isNone_i, isNone_t, isNone_n, immI, immB, immN, immS, immT, immL_cons, immL_nil, told_val, getD_some, tupOf_t, given_own, given_ownd, items_l, items_t, owned_own, datum_val, asInt_i, asLst_l, slotAt, bEq_int, bNe_int, ix0, ix1, ix2, ix3, iy0, iy1, iy2, iy3, opt_some, map_c, map_n, vmap_c, vmap_n, app_c, app_n, rep_s, rep_z, get_z, get_s, set_z, set_s, leng_c, leng_n, Nat.reduceSub, Nat.reduceAdd, not_t, not_f, Int.reduceToNat, Int.reducePow]
  have g2 := fm c2 (y := 2000000000000000000000000000000000000000000000000000000000001) (by decide)
  generalize c2.fmod 2000000000000000000000000000000000000000000000000000000000001 = r2 at *
  refine ⟨by decide, ?_⟩
  generalize hx : r2 - 1000000000000000000000000000000000000000000000000000000000000 = x at *
  have hb : bits (n : Int) ≤ 140 := bitsN_le (by omega) (by decide)
  dsimp only [dPowB, dSeq, dUnpL, lstOf_l, dCut, dSet, dSetV, dUnp, dPar, dDrop, dRet, dRetOwn, dRetN, dIf, dPass, dNext, dNever, dBreak, dCont, dFrz, frz, dTry, dRaise, isx_n, isx_o, dMeth, meth_b, meth_s, fld0b, fld0s, fld1b, fld1s, gr2, ws2, iso_bb, iso_bs, iso_ba, iso_sb, iso_ss, iso_sa, mk_obj, xf0, xf1, plain_o, dApp, dAug, setAll, dC, dVar, dView, dViewT, view, dOp, dUn, dAs, dNil, dCons, dAnd, dOr, dNot, dIte, dTup, dLst, dCall, dChain, two_t, two_f, cB, oIsi, oIsN, oNotN, dYes, dEach, dNoPart, dPart, dSl, use_val, use_own, use_ownd, bool_val, view_val, view_own, view_ownd, view_un, imm_val, imm_own, add_ii, add_ll, sub_ii, mul_ii, div_ii, mod_ii, pow_ii, shl_ii, cmp_ii, neg_i, isB_bb, notB_bb, len_t, len_l, abs_i, max_ii, min_ii, int_i, int_b, divmod_ii, isInt_i, isInt_t, isInt_n, isInt_b, isBool_i, isBool_b, isTuple_t, isTuple_i, isTuple_n, isList_l, isList_t, isStr_s, plain_i, plain_t, plain_l, plain_b, plain_n, plain_s, isNone_i, isNone_t, isNone_n, immI, immB, immN, immS, immT, immL_cons, immL_nil, told_val, getD_some, tupOf_t, given_own, given_ownd, items_l, items_t, owned_own, datum_val, asInt_i, asLst_l, slotAt, bEq_int, bNe_int, ix0, ix1, ix2, ix3, iy0, iy1, iy2, iy3, opt_some, map_c, map_n, vmap_c, vmap_n, app_c, app_n, rep_s, rep_z, get_z, get_s, set_z, set_s, leng_c, leng_n, Nat.reduceSub, Nat.reduceAdd, not_t, not_f, Int.reduceToNat, Int.reducePow]
  refine ⟨x, rfl, n, rfl, ?_⟩
  show 0 + 2 * bits (n : Int) ≤ 16777216 ∧ _
  refine ⟨by omega, fun m hm => ?_⟩
  try dsimp only [dSeq, dUnpL, lstOf_l, dCut, dSet, dSetV, dUnp, dPar, dDrop, dRet, dRetOwn, dRetN, dIf, dPass, dNext, dNever, dBreak, dCont, dFrz, frz, dTry, dRaise, isx_n, isx_o, dMeth, meth_b, meth_s, fld0b, fld0s, fld1b, fld1s, gr2, ws2, iso_bb, iso_bs, iso_ba, iso_sb, iso_ss, iso_sa, mk_obj, xf0, xf1, plain_o, dApp, dAug, setAll, dC, dVar, dView, dViewT, view, dOp, dUn, dAs, dNil, dCons, dAnd, dOr, dNot, dIte, dTup, dLst, dCall, dChain, two_t, two_f, cB, oIsi, oIsN, oNotN, dYes, dEach, dNoPart, dPart, dSl, use_val, use_own, use_ownd, bool_val, view_val, view_own, view_ownd, view_un, imm_val, imm_own, add_ii, add_ll, sub_ii, mul_ii, div_ii, mod_ii, pow_ii, shl_ii, cmp_ii, neg_i, isB_bb, notB_bb, len_t, len_l, abs_i, max_ii, min_ii, int_i, int_b, divmod_ii, isInt_i, isInt_t, isInt_n, isInt_b, isBool_i, isBool_b, isTuple_t, isTuple_i, isTuple_n, isList_l, isList_t, isStr_s, plain_i, plain_t, plain_l, plain_b, plain_n, plain_s, isNone_i, isNone_t, isNone_n, immI, immB, immN, immS, immT, immL_cons, immL_nil, told_val, getD_some, tupOf_t, given_own, given_ownd, items_l, items_t, owned_own, datum_val, asInt_i, asLst_l, slotAt, bEq_int, bNe_int, ix0, ix1, ix2, ix3, iy0, iy1, iy2, iy3, opt_some, map_c, map_n, vmap_c, vmap_n, app_c, app_n, rep_s, rep_z, get_z, get_s, set_z, set_s, leng_c, leng_n, Nat.reduceSub, Nat.reduceAdd, not_t, not_f, Int.reduceToNat, Int.reducePow]
  refine Lw.whole_ok _ _ _ ?_
  try dsimp only [dSeq, dUnpL, lstOf_l, dCut, dSet, dSetV, dUnp, dPar, dDrop, dRet, dRetOwn, dRetN, dIf, dPass, dNext, dNever, dBreak, dCont, dFrz, frz, dTry, dRaise, isx_n, isx_o, dMeth, meth_b, meth_s, fld0b, fld0s, fld1b, fld1s, gr2, ws2, iso_bb, iso_bs, iso_ba, iso_sb, iso_ss, iso_sa, mk_obj, xf0, xf1, plain_o, dApp, dAug, setAll, dC, dVar, dView, dViewT, view, dOp, dUn, dAs, dNil, dCons, dAnd, dOr, dNot, dIte, dTup, dLst, dCall, dChain, two_t, two_f, cB, oIsi, oIsN, oNotN, dYes, dEach, dNoPart, dPart, dSl, use_val, use_own, use_ownd, bool_val, view_val, view_own, view_ownd, view_un, imm_val, imm_own, add_ii, add_ll, sub_ii, mul_ii, div_ii, mod_ii, pow_ii, shl_ii, cmp_ii, neg_i, isB_bb, notB_bb, len_t, len_l, abs_i, max_ii, min_ii, int_i, int_b, divmod_ii, isInt_i, isInt_t, isInt_n, isInt_b, isBool_i, isBool_b, isTuple_t, isTuple_i, isTuple_n, isList_l, isList_t, isStr_s, plain_i, plain_t, plain_l, plain_b, plain_n, plain_s, isNone_i, isNone_t, isNone_n, immI, immB, immN, immS, immT, immL_cons, immL_nil, told_val, getD_some, tupOf_t, given_own, given_ownd, items_l, items_t, owned_own, datum_val, asInt_i, asLst_l, slotAt, bEq_int, bNe_int, ix0, ix1, ix2, ix3, iy0, iy1, iy2, iy3, opt_some, map_c, map_n, vmap_c, vmap_n, app_c, app_n, rep_s, rep_z, get_z, get_s, set_z, set_s, leng_c, leng_n, Nat.reduceSub, Nat.reduceAdd, not_t, not_f, Int.reduceToNat, Int.reducePow]
  have Bx : Bd x 210 := ⟨by omega⟩
  have Bn : Bd (n : Int) 210 := ⟨by omega⟩
  refine ⟨szB Bx Bn (by decide), two_nd (fun z => absurd rfl z) fun _ => ?_⟩
  dsimp only [oBits, dSeq, dUnpL, lstOf_l, dCut, dSet, dSetV, dUnp, dPar, dDrop, dRet, dRetOwn, dRetN, dIf, dPass, dNext, dNever, dBreak, dCont, dFrz, frz, dTry, dRaise, isx_n, isx_o, dMeth, meth_b, meth_s, fld0b, fld0s, fld1b, fld1s, gr2, ws2, iso_bb, iso_bs, iso_ba, iso_sb, iso_ss, iso_sa, mk_obj, xf0, xf1, plain_o, dApp, dAug, setAll, dC, dVar, dView, dViewT, view, dOp, dUn, dAs, dNil, dCons, dAnd, dOr, dNot, dIte, dTup, dLst, dCall, dChain, two_t, two_f, cB, oIsi, oIsN, oNotN, dYes, dEach, dNoPart, dPart, dSl, use_val, use_own, use_ownd, bool_val, view_val, view_own, view_ownd, view_un, imm_val, imm_own, add_ii, add_ll, sub_ii, mul_ii, div_ii, mod_ii, pow_ii, shl_ii, cmp_ii, neg_i, isB_bb, notB_bb, len_t, len_l, abs_i, max_ii, min_ii, int_i, int_b, divmod_ii, isInt_i, isInt_t, isInt_n, isInt_b, isBool_i, isBool_b, isTuple_t, isTuple_i, isTuple_n, isList_l, isList_t, isStr_s, plain_i, plain_t, plain_l, plain_b, plain_n, plain_s, isNone_i, isNone_t, isNone_n, immI, immB, immN, immS, immT, immL_cons, immL_nil, told_val, getD_some, tupOf_t, given_own, given_ownd, items_l, items_t, owned_own, datum_val, asInt_i, asLst_l, slotAt, bEq_int, bNe_int, ix0, ix1, ix2, ix3, iy0, iy1, iy2, iy3, opt_some, map_c, map_n, vmap_c, vmap_n, app_c, app_n, rep_s, rep_z, get_z, get_s, set_z, set_s, leng_c, leng_n, Nat.reduceSub, Nat.reduceAdd, not_t, not_f, Int.reduceToNat, Int.reducePow]
  refine ⟨szL (by decide), two_q (fun z => ?_) ?_⟩
  · rw [List.nil_append, List.length_replicate] at z
    omega
  refine Lw.cell_ok ns 3 (by decide) _ _ ?_
  generalize ns.getD (3 : Int).toNat 0 = c3
  try dsimp only [dSeq, dUnpL, lstOf_l, dCut, dSet, dSetV, dUnp, dPar, dDrop, dRet, dRetOwn, dRetN, dIf, dPass, dNext, dNever, dBreak, dCont, dFrz, frz, dTry, dRaise, isx_n, isx_o, dMeth, meth_b, meth_s, fld0b, fld0s, fld1b, fld1s, gr2, ws2, iso_bb, iso_bs, iso_ba, iso_sb, iso_ss, iso_sa, mk_obj, xf0, xf1, plain_o, dApp, dAug, setAll, dC, dVar, dView, dViewT, view, dOp, dUn, dAs, dNil, dCons, dAnd, dOr, dNot, dIte, dTup, dLst, dCall, dChain, two_t, two_f, cB, oIsi, oIsN, oNotN, dYes, dEach, dNoPart, dPart, dSl, use_val, use_own, use_ownd, bool_val, view_val, view_own, view_ownd, view_un, imm_val, imm_own, add_ii, add_ll, sub_ii, mul_ii, div_ii, mod_ii, pow_ii, shl_ii, cmp_ii, neg_i, isB_bb, notB_bb, len_t, len_l, abs_i, max_ii, min_ii, int_i, int_b, divmod_ii, isInt_i, isInt_t, isInt_n, isInt_b, isBool_i, isBool_b, isTuple_t, isTuple_i, isTuple_n, isList_l, isList_t, isStr_s, plain_i, plain_t, plain_l, plain_b, plain_n, plain_s, isNone_i, isNone_t, isNone_n, immI, immB, immN, immS, immT, immL_cons, immL_nil, told_val, getD_some, tupOf_t, given_own, given_ownd, items_l, items_t, owned_own, datum_val, asInt_i, asLst_l, slotAt, bEq_int, bNe_int, ix0, ix1, ix2, ix3, iy0, iy1, iy2, iy3, opt_some, map_c, map_n, vmap_c, vmap_n, app_c, app_n, rep_s, rep_z, get_z, get_s, set_z, set_s, leng_c, leng_n, Nat.reduceSub, Nat.reduceAdd, not_t, not_f, Int.reduceToNat, Int.reducePow]
  have g3 := fm c3 (y := 3) (by decide)
  generalize c3.fmod 3 = i at *
  refine ⟨by decide, ?_⟩
  have g71 := fm (n : Int) (y := 71) (by decide)
  obtain ⟨q, hq⟩ : ∃ q : Nat, (n : Int).fmod 71 = q := ⟨((n : Int).fmod 71).toNat, by omega⟩
  rw [hq] at g71
  have key : ∃ a : List Nat, ixI [D.str [97], D.str [97, 98], D.str [98, 99, 97]] i = some (.str a) ∧ a ≠ [] ∧ a.length ≤ 3 ∧ (a.all fun c => decide (c < 1114112)) = true := by
    rcases (show i = 0 ∨ i = 1 ∨ i = 2 by omega) with rfl | rfl | rfl
    · exact ⟨[97], rfl, by decide, by decide, by decide⟩
    · exact ⟨[97, 98], rfl, by decide, by decide, by decide⟩
    · exact ⟨[98, 99, 97], rfl, by decide, by decide, by decide⟩
  obtain ⟨a, ea, hne, hal, hall⟩ := key
  rw [ixL]
  refine opt_at ea ?_
  rw [hq]
  try dsimp only [dSeq, dUnpL, lstOf_l, dCut, dSet, dSetV, dUnp, dPar, dDrop, dRet, dRetOwn, dRetN, dIf, dPass, dNext, dNever, dBreak, dCont, dFrz, frz, dTry, dRaise, isx_n, isx_o, dMeth, meth_b, meth_s, fld0b, fld0s, fld1b, fld1s, gr2, ws2, iso_bb, iso_bs, iso_ba, iso_sb, iso_ss, iso_sa, mk_obj, xf0, xf1, plain_o, dApp, dAug, setAll, dC, dVar, dView, dViewT, view, dOp, dUn, dAs, dNil, dCons, dAnd, dOr, dNot, dIte, dTup, dLst, dCall, dChain, two_t, two_f, cB, oIsi, oIsN, oNotN, dYes, dEach, dNoPart, dPart, dSl, use_val, use_own, use_ownd, bool_val, view_val, view_own, view_ownd, view_un, imm_val, imm_own, add_ii, add_ll, sub_ii, mul_ii, div_ii, mod_ii, pow_ii, shl_ii, cmp_ii, neg_i, isB_bb, notB_bb, len_t, len_l, abs_i, max_ii, min_ii, int_i, int_b, divmod_ii, isInt_i, isInt_t, isInt_n, isInt_b, isBool_i, isBool_b, isTuple_t, isTuple_i, isTuple_n, isList_l, isList_t, isStr_s, plain_i, plain_t, plain_l, plain_b, plain_n, plain_s, isNone_i, isNone_t, isNone_n, immI, immB, immN, immS, immT, immL_cons, immL_nil, told_val, getD_some, tupOf_t, given_own, given_ownd, items_l, items_t, owned_own, datum_val, asInt_i, asLst_l, slotAt, bEq_int, bNe_int, ix0, ix1, ix2, ix3, iy0, iy1, iy2, iy3, opt_some, map_c, map_n, vmap_c, vmap_n, app_c, app_n, rep_s, rep_z, get_z, get_s, set_z, set_s, leng_c, leng_n, Nat.reduceSub, Nat.reduceAdd, not_t, not_f, Int.reduceToNat, Int.reducePow]
  refine ⟨by decide, Pg.powC_ok hal (by omega) ?_⟩
  try dsimp only [dSeq, dUnpL, lstOf_l, dCut, dSet, dSetV, dUnp, dPar, dDrop, dRet, dRetOwn, dRetN, dIf, dPass, dNext, dNever, dBreak, dCont, dFrz, frz, dTry, dRaise, isx_n, isx_o, dMeth, meth_b, meth_s, fld0b, fld0s, fld1b, fld1s, gr2, ws2, iso_bb, iso_bs, iso_ba, iso_sb, iso_ss, iso_sa, mk_obj, xf0, xf1, plain_o, dApp, dAug, setAll, dC, dVar, dView, dViewT, view, dOp, dUn, dAs, dNil, dCons, dAnd, dOr, dNot, dIte, dTup, dLst, dCall, dChain, two_t, two_f, cB, oIsi, oIsN, oNotN, dYes, dEach, dNoPart, dPart, dSl, use_val, use_own, use_ownd, bool_val, view_val, view_own, view_ownd, view_un, imm_val, imm_own, add_ii, add_ll, sub_ii, mul_ii, div_ii, mod_ii, pow_ii, shl_ii, cmp_ii, neg_i, isB_bb, notB_bb, len_t, len_l, abs_i, max_ii, min_ii, int_i, int_b, divmod_ii, isInt_i, isInt_t, isInt_n, isInt_b, isBool_i, isBool_b, isTuple_t, isTuple_i, isTuple_n, isList_l, isList_t, isStr_s, plain_i, plain_t, plain_l, plain_b, plain_n, plain_s, isNone_i, isNone_t, isNone_n, immI, immB, immN, immS, immT, immL_cons, immL_nil, told_val, getD_some, tupOf_t, given_own, given_ownd, items_l, items_t, owned_own, datum_val, asInt_i, asLst_l, slotAt, bEq_int, bNe_int, ix0, ix1, ix2, ix3, iy0, iy1, iy2, iy3, opt_some, map_c, map_n, vmap_c, vmap_n, app_c, app_n, rep_s, rep_z, get_z, get_s, set_z, set_s, leng_c, leng_n, Nat.reduceSub, Nat.reduceAdd, not_t, not_f, Int.reduceToNat, Int.reducePow]
  refine ⟨by decide, ?_⟩
  have eq : ((q : Int).toNat) = q := by omega
  have rep : ∀ {Q : DK}, Q (.val (.str (List.replicate q a).flatten)) → oRepS (.str a) (.int q) Q := fun {Q} h => ⟨⟨hne, by omega, by omega, by omega⟩, by rw [eq]; exact h⟩
  refine ⟨by decide, rep ?_⟩
  try dsimp only [dSeq, dUnpL, lstOf_l, dCut, dSet, dSetV, dUnp, dPar, dDrop, dRet, dRetOwn, dRetN, dIf, dPass, dNext, dNever, dBreak, dCont, dFrz, frz, dTry, dRaise, isx_n, isx_o, dMeth, meth_b, meth_s, fld0b, fld0s, fld1b, fld1s, gr2, ws2, iso_bb, iso_bs, iso_ba, iso_sb, iso_ss, iso_sa, mk_obj, xf0, xf1, plain_o, dApp, dAug, setAll, dC, dVar, dView, dViewT, view, dOp, dUn, dAs, dNil, dCons, dAnd, dOr, dNot, dIte, dTup, dLst, dCall, dChain, two_t, two_f, cB, oIsi, oIsN, oNotN, dYes, dEach, dNoPart, dPart, dSl, use_val, use_own, use_ownd, bool_val, view_val, view_own, view_ownd, view_un, imm_val, imm_own, add_ii, add_ll, sub_ii, mul_ii, div_ii, mod_ii, pow_ii, shl_ii, cmp_ii, neg_i, isB_bb, notB_bb, len_t, len_l, abs_i, max_ii, min_ii, int_i, int_b, divmod_ii, isInt_i, isInt_t, isInt_n, isInt_b, isBool_i, isBool_b, isTuple_t, isTuple_i, isTuple_n, isList_l, isList_t, isStr_s, plain_i, plain_t, plain_l, plain_b, plain_n, plain_s, isNone_i, isNone_t, isNone_n, immI, immB, immN, immS, immT, immL_cons, immL_nil, told_val, getD_some, tupOf_t, given_own, given_ownd, items_l, items_t, owned_own, datum_val, asInt_i, asLst_l, slotAt, bEq_int, bNe_int, ix0, ix1, ix2, ix3, iy0, iy1, iy2, iy3, opt_some, map_c, map_n, vmap_c, vmap_n, app_c, app_n, rep_s, rep_z, get_z, get_s, set_z, set_s, leng_c, leng_n, Nat.reduceSub, Nat.reduceAdd, not_t, not_f, Int.reduceToNat, Int.reducePow]
  refine bNe_str (flat_all a _ hall q) ?_
  try dsimp only [dSeq, dUnpL, lstOf_l, dCut, dSet, dSetV, dUnp, dPar, dDrop, dRet, dRetOwn, dRetN, dIf, dPass, dNext, dNever, dBreak, dCont, dFrz, frz, dTry, dRaise, isx_n, isx_o, dMeth, meth_b, meth_s, fld0b, fld0s, fld1b, fld1s, gr2, ws2, iso_bb, iso_bs, iso_ba, iso_sb, iso_ss, iso_sa, mk_obj, xf0, xf1, plain_o, dApp, dAug, setAll, dC, dVar, dView, dViewT, view, dOp, dUn, dAs, dNil, dCons, dAnd, dOr, dNot, dIte, dTup, dLst, dCall, dChain, two_t, two_f, cB, oIsi, oIsN, oNotN, dYes, dEach, dNoPart, dPart, dSl, use_val, use_own, use_ownd, bool_val, view_val, view_own, view_ownd, view_un, imm_val, imm_own, add_ii, add_ll, sub_ii, mul_ii, div_ii, mod_ii, pow_ii, shl_ii, cmp_ii, neg_i, isB_bb, notB_bb, len_t, len_l, abs_i, max_ii, min_ii, int_i, int_b, divmod_ii, isInt_i, isInt_t, isInt_n, isInt_b, isBool_i, isBool_b, isTuple_t, isTuple_i, isTuple_n, isList_l, isList_t, isStr_s, plain_i, plain_t, plain_l, plain_b, plain_n, plain_s, isNone_i, isNone_t, isNone_n, immI, immB, immN, immS, immT, immL_cons, immL_nil, told_val, getD_some, tupOf_t, given_own, given_ownd, items_l, items_t, owned_own, datum_val, asInt_i, asLst_l, slotAt, bEq_int, bNe_int, ix0, ix1, ix2, ix3, iy0, iy1, iy2, iy3, opt_some, map_c, map_n, vmap_c, vmap_n, app_c, app_n, rep_s, rep_z, get_z, get_s, set_z, set_s, leng_c, leng_n, Nat.reduceSub, Nat.reduceAdd, not_t, not_f, Int.reduceToNat, Int.reducePow]
  refine ⟨by decide, Lw.rests_ok ns q (by omega) ?_⟩
  try dsimp only [dSeq, dUnpL, lstOf_l, dCut, dSet, dSetV, dUnp, dPar, dDrop, dRet, dRetOwn, dRetN, dIf, dPass, dNext, dNever, dBreak, dCont, dFrz, frz, dTry, dRaise, isx_n, isx_o, dMeth, meth_b, meth_s, fld0b, fld0s, fld1b, fld1s, gr2, ws2, iso_bb, iso_bs, iso_ba, iso_sb, iso_ss, iso_sa, mk_obj, xf0, xf1, plain_o, dApp, dAug, setAll, dC, dVar, dView, dViewT, view, dOp, dUn, dAs, dNil, dCons, dAnd, dOr, dNot, dIte, dTup, dLst, dCall, dChain, two_t, two_f, cB, oIsi, oIsN, oNotN, dYes, dEach, dNoPart, dPart, dSl, use_val, use_own, use_ownd, bool_val, view_val, view_own, view_ownd, view_un, imm_val, imm_own, add_ii, add_ll, sub_ii, mul_ii, div_ii, mod_ii, pow_ii, shl_ii, cmp_ii, neg_i, isB_bb, notB_bb, len_t, len_l, abs_i, max_ii, min_ii, int_i, int_b, divmod_ii, isInt_i, isInt_t, isInt_n, isInt_b, isBool_i, isBool_b, isTuple_t, isTuple_i, isTuple_n, isList_l, isList_t, isStr_s, plain_i, plain_t, plain_l, plain_b, plain_n, plain_s, isNone_i, isNone_t, isNone_n, immI, immB, immN, immS, immT, immL_cons, immL_nil, told_val, getD_some, tupOf_t, given_own, given_ownd, items_l, items_t, owned_own, datum_val, asInt_i, asLst_l, slotAt, bEq_int, bNe_int, ix0, ix1, ix2, ix3, iy0, iy1, iy2, iy3, opt_some, map_c, map_n, vmap_c, vmap_n, app_c, app_n, rep_s, rep_z, get_z, get_s, set_z, set_s, leng_c, leng_n, Nat.reduceSub, Nat.reduceAdd, not_t, not_f, Int.reduceToNat, Int.reducePow]
  refine Lw.rests_ok ns 0 (by decide) ?_
  try dsimp only [dSeq, dUnpL, lstOf_l, dCut, dSet, dSetV, dUnp, dPar, dDrop, dRet, dRetOwn, dRetN, dIf, dPass, dNext, dNever, dBreak, dCont, dFrz, frz, dTry, dRaise, isx_n, isx_o, dMeth, meth_b, meth_s, fld0b, fld0s, fld1b, fld1s, gr2, ws2, iso_bb, iso_bs, iso_ba, iso_sb, iso_ss, iso_sa, mk_obj, xf0, xf1, plain_o, dApp, dAug, setAll, dC, dVar, dView, dViewT, view, dOp, dUn, dAs, dNil, dCons, dAnd, dOr, dNot, dIte, dTup, dLst, dCall, dChain, two_t, two_f, cB, oIsi, oIsN, oNotN, dYes, dEach, dNoPart, dPart, dSl, use_val, use_own, use_ownd, bool_val, view_val, view_own, view_ownd, view_un, imm_val, imm_own, add_ii, add_ll, sub_ii, mul_ii, div_ii, mod_ii, pow_ii, shl_ii, cmp_ii, neg_i, isB_bb, notB_bb, len_t, len_l, abs_i, max_ii, min_ii, int_i, int_b, divmod_ii, isInt_i, isInt_t, isInt_n, isInt_b, isBool_i, isBool_b, isTuple_t, isTuple_i, isTuple_n, isList_l, isList_t, isStr_s, plain_i, plain_t, plain_l, plain_b, plain_n, plain_s, isNone_i, isNone_t, isNone_n, immI, immB, immN, immS, immT, immL_cons, immL_nil, told_val, getD_some, tupOf_t, given_own, given_ownd, items_l, items_t, owned_own, datum_val, asInt_i, asLst_l, slotAt, bEq_int, bNe_int, ix0, ix1, ix2, ix3, iy0, iy1, iy2, iy3, opt_some, map_c, map_n, vmap_c, vmap_n, app_c, app_n, rep_s, rep_z, get_z, get_s, set_z, set_s, leng_c, leng_n, Nat.reduceSub, Nat.reduceAdd, not_t, not_f, Int.reduceToNat, Int.reducePow]
  exact Lw.rests_ok ns 1 (by decide) rfl
end DL

/- W_k03 -/
namespace Wk
open PySem PySem.Spec PyProof.Rows L2 DL
/-- what the walk asks of the module's names -/
structure Mg (G : Gx) (mg : Str → Option Value) : Prop where
  b_bool : mg "bool" = none
  b_divmod : mg "divmod" = none
  b_int : mg "int" = none
  b_isinstance : mg "isinstance" = none
  b_len : mg "len" = none
  b_range : mg "range" = none
  b_str : mg "str" = none
abbrev n_law_lam : List Str := ["_law_left", "_law_right"]
def lamA : LamW := lamStm "_law_rests.<locals>.<lambda>" s__law_rests 5 2
def lamB : LamW := lamStm "law.<locals>.<lambda>" s_law 3 2
def lam_law_lam : LamW := lamStm "law.<locals>.<lambda>" s_law 6 2
theorem nd_A : NdefX.ndefB (defScope s__law_rests) lamA.scope ["_law_many"] = true := by decide +kernel
theorem nd_B : NdefX.ndefB (defScope s_law) lamB.scope ["_law_calls"] = true := by decide +kernel
theorem sc_law_lam : NdefX.NScope n_law_lam n_law_lam [] lam_law_lam.scope := NdefX.nscope_by (by decide +kernel)
abbrev n_powered : List Str := ["thing", "count", "put", "first", "done", "odd"]
theorem sc_powered : FnScope n_powered ["thing", "count", "put", "first"] (defScope s_powered) := ⟨rfl, rfl, rfl, by decide +kernel, rfl, by decide +kernel, by decide +kernel⟩
theorem sc_lamA : NdefX.NScope ["_law_one", "_law_other", "_law_many"] ["_law_one", "_law_other"] ["_law_many"] lamA.scope := NdefX.nscope_by (by decide +kernel)
theorem sc_lamB : NdefX.NScope ["_law_one", "_law_other", "_law_calls"] ["_law_one", "_law_other"] ["_law_calls"] lamB.scope := NdefX.nscope_by (by decide +kernel)
theorem ok_lamA {P : Program} {w : World} {G : Gx} {mg : Str → Option Value} {base : Heap} (m : Int) (cl : List (Str × Addr)) : LamOkC P w (GL G ⟨lamA.qual, lamA.params, lamA.body, lamA.scope, cl⟩).K mg base (L2.CX P w) 1 ⟨lamA.qual, lamA.params, lamA.body, lamA.scope, cl⟩ ["_law_one", "_law_other"] ["_law_many"] [some (.int m)] (spD (GL G ⟨lamA.qual, lamA.params, lamA.body, lamA.scope, cl⟩) (dCap 2 3 [m] DL.Pg.t_lamA)) :=
  lamC_mk (k := 0) (N := ["_law_one", "_law_other", "_law_many"]) (cs := [m]) sc_lamA rfl rfl (show 2 + 1 ≤ 3 by decide) (fun _ _ _ us hl => match us, hl with | [_, _], _ => rfl) fun f c A outer s H E hr => j_mod (j_mul j_v j_v) j_v
theorem ok_lamB {P : Program} {w : World} {K : PySem.W.Frag} {mg : Str → Option Value} {base : Heap} (a : Addr) (cl : List (Str × Addr)) : LamOkC P w K mg base (L2.CX P w) 1 ⟨lamB.qual, lamB.params, lamB.body, lamB.scope, cl⟩ ["_law_one", "_law_other"] ["_law_calls"] [some (.ref a)] (spB a) :=
  lamB_mk (k := 0) (N := ["_law_one", "_law_other", "_law_calls"]) sc_lamB rfl (fun _ _ _ us hl => match us, hl with | [_, _], _ => rfl) fun f c A outer s H E hr => pe_bodyB rfl rfl rfl (.inl rfl) (.inl rfl) (.inr (.inr rfl)) (by decide) (by decide) (by decide) (by decide) (by decide) (by decide) rfl rfl rfl rfl rfl rfl
theorem ok_powered_A {P : Program} {w : World} {G : Gx} {mg : Str → Option Value} {base : Heap} (hdv : mg "divmod" = none) (A : DefAt G mg "powered" s_powered) : FnA G.K mg "powered" fun a fd ps => ∀ (m : Int) (cl : List (Str × Addr)), FnOkC P w G.K mg base (L2.CX P w) 2 a fd ps cl ["_law_many"] [some (.int m)] (spD (GL G ⟨lamA.qual, lamA.params, lamA.body, lamA.scope, cl⟩) (DL.Pg.w_powered_A m)) := by
  obtain ⟨a, fd, hm, F⟩ := A.ex
  refine ⟨a, fd, ["thing", "count", "put", "first"], hm, F.kp, F.bindsN (fun _ _ _ _ _ _ us hl => match us, hl with | [_, _, _, _], _ => rfl), fun m cl => ?_⟩
  refine fnC_mk (G := GL G ⟨lamA.qual, lamA.params, lamA.body, lamA.scope, cl⟩) (k := 1) F sc_powered rfl rfl (by decide) fun cdv A outer s H E hr hC hnf => ?_
  have C := cxt_def (P := P) (w := w) (G := GL G ⟨lamA.qual, lamA.params, lamA.body, lamA.scope, cl⟩) (mg := mg) (base := base) (N := n_powered) (x := "powered") (sc := defScope s_powered) (f := a) (cdv := cdv) (A := A) (outer := outer) (s := s) (H := H) (E := E) sc_powered.nd hr
  have f_lamA := ok_lamA (P := P) (w := w) (G := G) (mg := mg) (base := base) m cl
  unfold DL.Pg.t_powered_A
  exact js_cons (s_setV C (j_v))
      (js_cons (s_while C (jt_gt (j_v) (j_i))
        (js_cons (s_unp C (j_divmod hdv (ja_cons (j_v) (ja_cons (j_i) (ja_nil)))) (jg_cons C (jg_cons C (jg_nil))))
      (js_cons (s_if (jt_eq C (j_v) (j_i))
        (js_one (s_setV C (j_callLc C f_lamA hC hnf (fun _ _ _ => List.not_mem_nil) (ja_cons (j_v) (ja_cons (j_v) (ja_nil))))))
        (js_nil))
      (js_one (s_if (jt_gt (j_v) (j_i))
        (js_one (s_setV C (j_callLc C f_lamA hC hnf (fun _ _ _ => List.not_mem_nil) (ja_cons (j_v) (ja_cons (j_v) (ja_nil))))))
        (js_nil))))))
      (js_one (s_ret (j_v))))
theorem ok_powered_B {P : Program} {w : World} {G : Gx} {mg : Str → Option Value} {base : Heap} (hdv : mg "divmod" = none) (A : DefAt G mg "powered" s_powered) : FnA G.K mg "powered" fun a fd ps => ∀ (ws : List (Option V)) (cl : List (Str × Addr)), FnOkC P w G.K mg base (L2.CX P w) 2 a fd ps cl ["_law_calls"] ws (spPB ⟨lamB.qual, lamB.params, lamB.body, lamB.scope, cl⟩ ws) := by
  obtain ⟨a, fd, hm, F⟩ := A.ex
  refine ⟨a, fd, ["thing", "count", "put", "first"], hm, F.kp, F.bindsN (fun _ _ _ _ _ _ us hl => match us, hl with | [_, _, _, _], _ => rfl), fun ws cl => ?_⟩
  obtain ⟨oc, od, dV, kV, doc, pm, an, cdv, ct, osl, rfl, lk, hcd, _, _⟩ := F.ex
  refine fn_ofC (k := 1) lk hcd sc_powered (fun vs H Q E h => ?_) fun A outer s H vs Q E hr hC hnf h => ?_
  · obtain ⟨_, _, _, _, _, _, _, rfl, _⟩ := h
    rfl
  · obtain ⟨a', x, n, f, c, zs, rfl, rfl, hf, hc, ha, hl, hq⟩ := h
    have C := cxt_def (P := P) (w := w) (G := ⟨G.K, fun _ => f, fun _ => [], fun _ => lamB, []⟩) (mg := mg) (base := base) (N := n_powered) (x := "powered") (sc := defScope s_powered) (f := a) (cdv := cdv) (A := A) (outer := outer) (s := s) (H := H) (E := E) sc_powered.nd hr
    have fL := ok_lamB (P := P) (w := w) (K := G.K) (mg := mg) (base := base) a' cl
    have key : ∃ T, PSs (cxOf (L2.CX P w) P w G.K mg base n_powered "powered" (defScope s_powered) a cdv A outer s H E) (defBody s_powered) T ∧ _ := pow_T (L := ⟨lamB.qual, lamB.params, lamB.body, lamB.scope, cl⟩) (a := a') (f := f) (c := c) rfl rfl C.own (s_unp C (j_divmod hdv (ja_cons (j_v) (ja_cons (j_i) (ja_nil)))) (jg_cons C (jg_cons C (jg_nil)))) (jt_gt (j_v) (j_i)) (jt_eq C (j_v) (j_i)) (jt_gt (j_v) (j_i))
      (ps_set C.nd rfl (.inl rfl) (pe_callLc fL hC hnf (fun _ _ _ => List.not_mem_nil) C.room (by decide) C.hx rfl (.inl rfl) (pa_cons (pe_var rfl (.inl rfl)) (pa_cons (pe_var rfl (.inl rfl)) pa_nil))))
      (ps_set C.nd rfl (.inl rfl) (pe_callLc fL hC hnf (fun _ _ _ => List.not_mem_nil) C.room (by decide) C.hx rfl (.inl rfl) (pa_cons (pe_var rfl (.inl rfl)) (pa_cons (pe_var rfl (.inl rfl)) pa_nil))))
      (ps_set C.nd rfl (.inl rfl) (pe_var rfl (.inl rfl))) (ps_ret (pe_var rfl (.inl rfl)))
    obtain ⟨T, h1, h2⟩ := key
    exact ⟨T, h1, h2 _ H x n zs none none hf hc ha hl fun m H' hm hs => hq m H' hm hs⟩
theorem ok_powered {P : Program} {w : World} {G : Gx} {mg : Str → Option Value} {base : Heap} (M : Mg G mg) (f_law_lam : LamOk P w G.K mg base (L2.CX P w) 1 (G.lam 100) n_law_lam (spD G DL.Pg.w_law_lam)) (A : DefAt G mg "powered" s_powered) : Fn1 P w G mg base 2 "powered" DL.Pg.w_powered :=
  fn1_mk (k := 1) A sc_powered rfl rfl (by decide) (fun _ _ _ _ _ _ us hl => match us, hl with | [_, _, _, _], _ => rfl) (fun f cdv A outer s H E hr => by
  have C := cxt_def (P := P) (w := w) (G := G) (mg := mg) (base := base) (N := n_powered) (x := "powered") (sc := defScope s_powered) (f := f) (cdv := cdv) (A := A) (outer := outer) (s := s) (H := H) (E := E) sc_powered.nd hr
  unfold DL.Pg.t_powered
  exact js_cons (s_setV C (j_v))
      (js_cons (s_while C (jt_gt (j_v) (j_i))
        (js_cons (s_unp C (j_divmod M.b_divmod (ja_cons (j_v) (ja_cons (j_i) (ja_nil)))) (jg_cons C (jg_cons C (jg_nil))))
      (js_cons (s_if (jt_eq C (j_v) (j_i))
        (js_one (s_setV C (j_callLm C f_law_lam (ja_cons (j_v) (ja_cons (j_v) (ja_nil))))))
        (js_nil))
      (js_one (s_if (jt_gt (j_v) (j_i))
        (js_one (s_setV C (j_callLm C f_law_lam (ja_cons (j_v) (ja_cons (j_v) (ja_nil))))))
        (js_nil))))))
      (js_one (s_ret (j_v)))))
abbrev n__law_cell : List Str := ["_law_script", "_law_k"]
theorem sc__law_cell : FnScope n__law_cell ["_law_script", "_law_k"] (defScope s__law_cell) := ⟨rfl, rfl, rfl, by decide +kernel, rfl, by decide +kernel, by decide +kernel⟩
theorem ok__law_cell {P : Program} {w : World} {G : Gx} {mg : Str → Option Value} {base : Heap} (M : Mg G mg) (A : DefAt G mg "_law_cell" s__law_cell) : Fn1 P w G mg base 1 "_law_cell" DL.Lw.w_law_cell :=
  fn1_mk (k := 0) A sc__law_cell rfl rfl (by decide) (fun _ _ _ _ _ _ us hl => match us, hl with | [_, _], _ => rfl) (fun f cdv A outer s H E hr => by
  have C := cxt_def (P := P) (w := w) (G := G) (mg := mg) (base := base) (N := n__law_cell) (x := "_law_cell") (sc := defScope s__law_cell) (f := f) (cdv := cdv) (A := A) (outer := outer) (s := s) (H := H) (E := E) sc__law_cell.nd hr
  unfold DL.Lw.t_law_cell
  exact js_cons (s_if (jt_lt (j_v) (j_len C M.b_len (ja_cons (j_v) (ja_nil))))
        (js_one (s_ret (j_ix C (j_v) (j_v))))
        (js_nil))
      (js_one (s_ret (j_i))))
abbrev n__law_whole : List Str := ["_law_found"]
theorem sc__law_whole : FnScope n__law_whole ["_law_found"] (defScope s__law_whole) := ⟨rfl, rfl, rfl, by decide +kernel, rfl, by decide +kernel, by decide +kernel⟩
theorem ok__law_whole {P : Program} {w : World} {G : Gx} {mg : Str → Option Value} {base : Heap} (M : Mg G mg) (A : DefAt G mg "_law_whole" s__law_whole) : Fn1 P w G mg base 1 "_law_whole" DL.Lw.w_law_whole :=
  fn1_mk (k := 0) A sc__law_whole rfl rfl (by decide) (fun _ _ _ _ _ _ us hl => match us, hl with | [_], _ => rfl) (fun f cdv A outer s H E hr => by
  have C := cxt_def (P := P) (w := w) (G := G) (mg := mg) (base := base) (N := n__law_whole) (x := "_law_whole") (sc := defScope s__law_whole) (f := f) (cdv := cdv) (A := A) (outer := outer) (s := s) (H := H) (E := E) sc__law_whole.nd hr
  unfold DL.Lw.t_law_whole
  exact js_one (s_ret (j_and (j_isi C isi_int M.b_isinstance M.b_int bt_int (j_v)) (j_one (j_not (j_isi C isi_bool M.b_isinstance M.b_bool bt_bool (j_v)))))))
abbrev n__law_count : List Str := ["_law_script", "_law_count_here", "_law_cell_here"]
theorem sc__law_count : FnScope n__law_count ["_law_script"] (defScope s__law_count) := ⟨rfl, rfl, rfl, by decide +kernel, rfl, by decide +kernel, by decide +kernel⟩
theorem ok__law_count {P : Program} {w : World} {G : Gx} {mg : Str → Option Value} {base : Heap} (M : Mg G mg) (f__law_cell : Fn1 P w G mg base 1 "_law_cell" DL.Lw.w_law_cell) (A : DefAt G mg "_law_count" s__law_count) : Fn1 P w G mg base 2 "_law_count" DL.Lw.w_law_count :=
  fn1_mk (k := 1) A sc__law_count rfl rfl (by decide) (fun _ _ _ _ _ _ us hl => match us, hl with | [_], _ => rfl) (fun f cdv A outer s H E hr => by
  have C := cxt_def (P := P) (w := w) (G := G) (mg := mg) (base := base) (N := n__law_count) (x := "_law_count") (sc := defScope s__law_count) (f := f) (cdv := cdv) (A := A) (outer := outer) (s := s) (H := H) (E := E) sc__law_count.nd hr
  unfold DL.Lw.t_law_count
  exact js_cons (s_setV C (j_i))
      (js_cons (s_for C (j_sl C (j_v) (jo_none) (jo_some (j_i)))
        (js_one (s_setV C (j_mod (j_add C (j_mul (j_v) (j_i)) (j_v)) (jc_pow (i := 10) (j := 40) (v := 10000000000000000000000000000000000000000) (j_i) (j_i) (by decide +kernel))))))
      (js_cons (s_if (jt_eq C (j_mod (j_call C f__law_cell (ja_cons (j_v) (ja_cons (j_i) (ja_nil)))) (j_i)) (j_i))
        (js_one (s_ret (j_mod (j_v) (j_i))))
        (js_nil))
      (js_one (s_ret (j_v))))))
abbrev n__law_rests : List Str := ["_law_script", "_law_count_here", "_law_many", "_law_thing", "_law_due", "_law_k", "_law_found"]
theorem sc__law_rests : FnScope n__law_rests ["_law_script", "_law_count_here"] (defScope s__law_rests) := ⟨rfl, rfl, rfl, by decide +kernel, rfl, by decide +kernel, by decide +kernel⟩
theorem ok__law_rests {P : Program} {w : World} {G : Gx} {mg : Str → Option Value} {base : Heap} (M : Mg G mg) (f_pA : FnA G.K mg "powered" fun a fd ps => ∀ (m : Int) (cl : List (Str × Addr)), FnOkC P w G.K mg base (L2.CX P w) 2 a fd ps cl ["_law_many"] [some (.int m)] (spD (GL G ⟨lamA.qual, lamA.params, lamA.body, lamA.scope, cl⟩) (DL.Pg.w_powered_A m))) (f__law_cell : Fn1 P w G mg base 1 "_law_cell" DL.Lw.w_law_cell) (f__law_whole : Fn1 P w G mg base 1 "_law_whole" DL.Lw.w_law_whole) {c1 P1 : Addr} (TB : LamX.TabB base mg c1 P1) (hP : P1 ∈ G.tabs) (hc : ∀ a, mg "_law_rests" = some (.ref a) → codeOf G.K a = .ref c1) (A : DefAt G mg "_law_rests" s__law_rests) : Fn1 P w G mg base 3 "_law_rests" DL.Lw.w_law_rests :=
  fn1_mkC (k := 2) A hc sc__law_rests rfl rfl (by decide) (fun _ _ _ _ _ _ us hl => match us, hl with | [_, _], _ => rfl) (fun f A outer s H E hr => by
  have C := cxt_def (P := P) (w := w) (G := G) (mg := mg) (base := base) (N := n__law_rests) (x := "_law_rests") (sc := defScope s__law_rests) (f := f) (cdv := .ref c1) (A := A) (outer := outer) (s := s) (H := H) (E := E) sc__law_rests.nd hr
  unfold DL.Lw.t_law_rests
  exact js_cons (s_setV C (j_add C (j_i) (j_mod (j_call C f__law_cell (ja_cons (j_v) (ja_cons (j_i) (ja_nil)))) (jc_pow (i := 10) (j := 60) (v := 1000000000000000000000000000000000000000000000000000000000000) (j_i) (j_i) (by decide +kernel)))))
      (js_cons (s_setV C (j_mod (j_call C f__law_cell (ja_cons (j_v) (ja_cons (j_i) (ja_nil)))) (j_v)))
      (js_cons (s_if (jt_eq C (j_mod (j_call C f__law_cell (ja_cons (j_v) (ja_cons (j_i) (ja_nil)))) (j_i)) (j_i))
        (js_one (s_setV C (j_i)))
        (js_nil))
      (js_weak (fun _ _ _ _ _ _ h => h.go) (js_cons (s_setV C (j_i))
      (js_cons (s_forR C (jr_1 M.b_range (ja_cons (j_v) (ja_nil)))
        (js_one (s_setV C (j_mod (j_mul (j_v) (j_v)) (j_v)))))
      (js_cons (s_setV C (j_powC C f_pA (j_v) (j_v) TB rfl hP rfl (NdefX.ndef_fr nd_A _ (.head _)) (NdefX.ndef_free nd_A)))
      (js_one (s_ret (j_and (j_call C f__law_whole (ja_cons (j_v) (ja_nil))) (j_one (j_eq C (j_v) (j_v)))))))))))))
abbrev n_law : List Str := ["_law_script", "_law_count_here", "_law_number", "_law_calls", "_law_found", "_law_some", "_law_told"]
theorem sc_law : FnScope n_law ["_law_script"] (defScope s_law) := ⟨rfl, rfl, rfl, by decide +kernel, rfl, by decide +kernel, by decide +kernel⟩
theorem ok_law {P : Program} {w : World} {G : Gx} {mg : Str → Option Value} {base : Heap} (M : Mg G mg) (f_pB : FnA G.K mg "powered" fun a fd ps => ∀ (ws : List (Option V)) (cl : List (Str × Addr)), FnOkC P w G.K mg base (L2.CX P w) 2 a fd ps cl ["_law_calls"] ws (spPB ⟨lamB.qual, lamB.params, lamB.body, lamB.scope, cl⟩ ws)) (f__law_count : Fn1 P w G mg base 2 "_law_count" DL.Lw.w_law_count) (f__law_cell : Fn1 P w G mg base 1 "_law_cell" DL.Lw.w_law_cell) (f__law_whole : Fn1 P w G mg base 1 "_law_whole" DL.Lw.w_law_whole) (f_powered : Fn1 P w G mg base 2 "powered" DL.Pg.w_powered) (f__law_rests : Fn1 P w G mg base 3 "_law_rests" DL.Lw.w_law_rests) {c1 P1 : Addr} (TB : LamX.TabB base mg c1 P1) (hP : P1 ∈ G.tabs) (hL : G.lam 100 = lam_law_lam) {a : Addr} {fd : FuncData} (hc : codeOf G.K a = .ref c1) (F : FunD G.K "law" "law" (defArgs s_law) (defBody s_law) (defScope s_law) [] [] a fd) : FnOk P w G.K mg base (L2.CX P w) 4 a fd ["_law_script"] (spD G DL.Lw.w_law) :=
  fnOk_mkC (k := 3) F hc sc_law rfl rfl (by decide) (fun A outer s H E hr => by
  have C := cxt_def (P := P) (w := w) (G := G) (mg := mg) (base := base) (N := n_law) (x := "law") (sc := defScope s_law) (f := a) (cdv := .ref c1) (A := A) (outer := outer) (s := s) (H := H) (E := E) sc_law.nd hr
  unfold DL.Lw.t_law
  exact js_cons (s_setV C (j_call C f__law_count (ja_cons (j_v) (ja_nil))))
      (js_cons (s_setV C (j_sub (j_mod (j_call C f__law_cell (ja_cons (j_v) (ja_cons (j_i) (ja_nil)))) (jc_add (i := 2000000000000000000000000000000000000000000000000000000000000) (j := 1) (v := 2000000000000000000000000000000000000000000000000000000000001) C (jc_mul (i := 2) (j := 1000000000000000000000000000000000000000000000000000000000000) (v := 2000000000000000000000000000000000000000000000000000000000000) (j_i) (jc_pow (i := 10) (j := 60) (v := 1000000000000000000000000000000000000000000000000000000000000) (j_i) (j_i) (by decide +kernel)) (by decide +kernel)) (j_i) (by decide +kernel))) (jc_pow (i := 10) (j := 60) (v := 1000000000000000000000000000000000000000000000000000000000000) (j_i) (j_i) (by decide +kernel))))
      (js_cons (s_set C (j_lst (ja_nil)))
      (js_cons (s_powB C f_pB (j_v) (j_v) TB rfl hP rfl (NdefX.ndef_fr nd_B _ (.head _)) (NdefX.ndef_free nd_B))
      (js_cons (s_if (jt_view (jt_w (jw_or (jt_not (jt_any (j_call C f__law_whole (ja_cons (j_v) (ja_nil))))) (jw_or (jt_ne C (j_v) (j_mul (j_v) (j_v))) (jw_or1 (jt_gt (j_len C M.b_len (ja_cons (j_v) (ja_nil))) (j_mul (j_i) (j_bits (j_v)))))))))
        (js_one (s_ret (j_b)))
        (js_nil))
      (js_cons (s_setV C (j_ix C (j_lst (ja_cons (j_s) (ja_cons (j_s) (ja_cons (j_s) (ja_nil))))) (j_mod (j_call C f__law_cell (ja_cons (j_v) (ja_cons (j_i) (ja_nil)))) (j_i))))
      (js_cons (s_setV C (j_call C f_powered (ja_cons (j_v) (ja_cons (j_mod (j_v) (j_i)) (ja_cons (j_lam (j := 100) TB rfl hP hL) (ja_cons (j_s) (ja_nil)))))))
      (js_cons (s_if (jt_w (jw_or (jt_not (jt_any (j_isi C isi_str M.b_isinstance M.b_str bt_str (j_v)))) (jw_or1 (jt_ne C (j_v) (j_repS (j_v) (j_mod (j_v) (j_i)))))))
        (js_one (s_ret (j_b)))
        (js_nil))
      (js_one (s_ret (j_and (j_call C f__law_rests (ja_cons (j_v) (ja_cons (j_mod (j_v) (j_i)) (ja_nil)))) (j_and (j_call C f__law_rests (ja_cons (j_v) (ja_cons (j_i) (ja_nil)))) (j_one (j_call C f__law_rests (ja_cons (j_v) (ja_cons (j_i) (ja_nil)))))))))))))))))
theorem ok_law_lam {P : Program} {w : World} {G : Gx} {mg : Str → Option Value} {base : Heap} (M : Mg G mg) : LamOk P w G.K mg base (L2.CX P w) 1 lam_law_lam n_law_lam (spD G DL.Pg.w_law_lam) :=
  lam_mk (k := 0) lamStm_cl sc_law_lam rfl rfl (by decide) (fun _ _ _ us hl => match us, hl with | [_, _], _ => rfl) fun f c A outer s H E hr => by
  have C := cxt_lam (P := P) (w := w) (G := G) (mg := mg) (base := base) (L := lam_law_lam) (N := n_law_lam) (f := f) (c := c) (A := A) (outer := outer) (s := s) (H := H) (E := E) (by decide) hr
  exact j_add C (j_v) (j_v)
theorem facts {P : Program} {w : World} {K : PySem.W.Frag} {h : Heap} {mg : Str → Option Value} {f : Addr} (X : K.In h) (N : h.Ns mainGlobals mg) (hfa : mg ("law" : Str) = some (.ref f)) (c : He.SaysD fas fns K) (ck : chk K = true) :
    ∃ (fd : FuncData) (G : Gx), G.K = K ∧ G.tabs = (tabsOf K mkr).map (·.2) ∧ (∀ (s : Shared) (v : Value), BindsTo s fd ⟨[v], []⟩ [("_law_script", v)]) ∧ ∀ base : Heap, K.In base → base.Ns mainGlobals mg → (∀ p ∈ tabsOf K mkr, LamX.TabB base mg p.1 p.2) → FnOk P w K mg base (L2.CX P w) 4 f fd ["_law_script"] (spD G DL.Lw.w_law) := by
  let G : Gx := ⟨K, fun _ => 0, fun _ => [], fun _ => lam_law_lam, (tabsOf K mkr).map (·.2)⟩
  obtain ⟨fd, F⟩ := c.def_ 5 rfl
  have e := hfa.symm.trans (He.glo_ok X N (c.fact 5 (f := .glo "law") rfl))
  cases e
  have b := FunD.bindsA (ps := ["_law_script"]) F fun _ _ _ _ _ _ us hl => match us, hl with | [_], _ => rfl
  have ck2 : ((mkr.all fun x => makerB K (He.ga K x))) = true := ck
  have hmk := ck2
  have M : Mg G mg := ⟨He.free_ok X N (c.fact 6 (f := .free "bool") rfl), He.free_ok X N (c.fact 7 (f := .free "divmod") rfl), He.free_ok X N (c.fact 8 (f := .free "int") rfl), He.free_ok X N (c.fact 9 (f := .free "isinstance") rfl), He.free_ok X N (c.fact 10 (f := .free "len") rfl), He.free_ok X N (c.fact 11 (f := .free "range") rfl), He.free_ok X N (c.fact 12 (f := .free "str") rfl)⟩
  refine ⟨fd, G, rfl, rfl, fun s v => b s [v] rfl, fun base _ _ HT => ?_⟩
  have f_law_lam : LamOk P w G.K mg base (L2.CX P w) 1 (G.lam 100) n_law_lam (spD G DL.Pg.w_law_lam) := ok_law_lam M 
  have f_pA := ok_powered_A (P := P) (w := w) (G := G) (base := base) M.b_divmod (defAt (fa := fas) (fn := fns) X N c 0 0 rfl rfl)
  have f_pB := ok_powered_B (P := P) (w := w) (G := G) (base := base) M.b_divmod (defAt X N c 0 0 rfl rfl)
  have f_powered : Fn1 P w G mg base 2 "powered" DL.Pg.w_powered := ok_powered M f_law_lam (defAt X N c 0 0 rfl rfl)
  have f__law_cell : Fn1 P w G mg base 1 "_law_cell" DL.Lw.w_law_cell := ok__law_cell M  (defAt X N c 1 1 rfl rfl)
  have f__law_whole : Fn1 P w G mg base 1 "_law_whole" DL.Lw.w_law_whole := ok__law_whole M  (defAt X N c 2 2 rfl rfl)
  have f__law_count : Fn1 P w G mg base 2 "_law_count" DL.Lw.w_law_count := ok__law_count M f__law_cell (defAt X N c 3 3 rfl rfl)
  have f__law_rests : Fn1 P w G mg base 3 "_law_rests" DL.Lw.w_law_rests := ok__law_rests M f_pA f__law_cell f__law_whole (HT _ (List.mem_map.mpr ⟨"_law_rests", .tail _ (.head _), rfl⟩)) (List.mem_map.mpr ⟨_, List.mem_map.mpr ⟨"_law_rests", .tail _ (.head _), rfl⟩, rfl⟩) (fun a e => by
    have e2 := e.symm.trans (He.glo_ok X N (c.fact 4 (f := .glo "_law_rests") rfl))
    cases e2
    exact (makerB_ok (List.all_eq_true.mp hmk "_law_rests" (.tail _ (.head _)))).1) (defAt X N c 4 4 rfl rfl)
  exact ok_law M f_pB f__law_count f__law_cell f__law_whole f_powered f__law_rests (HT _ (List.mem_map.mpr ⟨"law", .head _, rfl⟩)) (List.mem_map.mpr ⟨_, List.mem_map.mpr ⟨"law", .head _, rfl⟩, rfl⟩) rfl (makerB_ok (List.all_eq_true.mp hmk "law" (.head _))).1 F
theorem chk_mk {K : PySem.W.Frag} (ck : chk K = true) : (mkr.all fun x => makerB K (He.ga K x)) = true := by
  have ck2 : ((mkr.all fun x => makerB K (He.ga K x))) = true := ck
  exact ck2
end Wk
open PySem PySem.W PySem.Calls PyProof.Rows
set_option maxRecDepth 100000 in
set_option maxHeartbeats 0 in
theorem PySem.Challenge.cw_formcycle_k03_powered_holds : PySem.Challenge.rw_formcycle_k03_powered.Holds := by
  w_on; o_law
  refine HandSHeadRun.head_any (r := OpenLaw.row PySem.Challenge.rw_formcycle_k03_powered) (q := view (OpenLaw.row PySem.Challenge.rw_formcycle_k03_powered).prog [7]) (H := Wk.hk) (ob := Wk.ob) (M := 4000) (loose := Wk.loose) (d := HandSHeadRun.topDef (OpenLaw.row PySem.Challenge.rw_formcycle_k03_powered).prog 7) (kwd := []) Wk.ob_eq
    (by kernel_rfl) (fun s => by kernel_rfl) Wk.run (by kernel_rfl) (by kernel_rfl) (by kernel_rfl) (by rfl) (by first | assumption | decide +kernel) (by decide +kernel) ⟨rfl, rfl, rfl, rfl, rfl, by decide +kernel⟩ ?hw ?hc
  case hw => w_witness2
  case hc =>
    refine DL.walk_ofT (l := PySem.Challenge.rw_formcycle_k03_powered) (n := 63) (k := 4) (x := "_law_script") (CX := fun w => L2.CX (PySem.Challenge.rw_formcycle_k03_powered).prog w) rfl (by decide) (by kernel_rfl) ⟨rfl, by decide, by decide⟩ ?F (fun _ _ _ _ _ z => DL.cx_none z)
    intro w mg fa h Y N hmg0
    obtain ⟨K, KX, c, ck, tb⟩ := Y
    have hmg : mg ("law" : PySem.Str) = some (.ref fa) := by
      have e : (HandSHeadRun.topDef (OpenLaw.row PySem.Challenge.rw_formcycle_k03_powered).prog 7).name = ("law" : PySem.Str) := by kernel_rfl
      rw [← e]
      exact hmg0
    obtain ⟨fd, G, eG, eT, hb, hF⟩ := Wk.facts (P := (PySem.Challenge.rw_formcycle_k03_powered).prog) (w := w) KX N hmg c ck
    refine ⟨K, fd, _, DL.tabsOf K Wk.mkr, KX, tb, DL.tabs_none (Wk.chk_mk ck), DL.tabs_code KX (Wk.chk_mk ck), hb, fun H a ns hl hB hT hS => ?_, hF⟩
    exact DL.law_sp (DL.Lw.law_true ns hl) (by rw [eG]; exact hS) (by rw [eT]; exact DL.tabs_nil hT)
