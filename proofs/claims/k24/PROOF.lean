import PyProof.Rows.All
import Wide.All
import OpenK.AllK
import Wide.FinOn
import HandS.ForMost
import HandS.ForExc
import HandS.Wide
import HandS.WideBits
import HandS.IsInst
import HandS.ExcInit
import HandS.Style
import HandS.Deep
import HandS.Defaults
import HandS.NoneIn
import HandS.Head0
import HandS.Head1
import HandS.Head2
import HandS.HeadEnd
import HandS.HeadHook1
import HandS.HeadHook2
import HandS.Ends
import HandS.EndBits
import HandS.ExcIs
import HandS.ExcField
import HandS.ExcOwn
import KE.KExcIs
import HandS.CallLocal
import HandS.Dict
import HandS.Conv
import HandS.Small
import KE.DataMinMax
import KE.SortData
import HandS.ClsMeth
import HandS.SortInts
import HandS.Iter
import HandS.ExcValue
import HandS.SetFor
import HandS.Strs
import HandS.TupSets
import PySem.Challenge.RW_formcycle_k24_rings
set_option Elab.async false
set_option linter.all false
set_option linter.unusedSimpArgs false
set_option maxRecDepth 100000

/- DLa -/
namespace DL
/-- a value, with all that hangs on it. obj: an instance (its class's number, its attributes' values in the class's order); fn: a def as a value -/
inductive D where
  | non | bl (b : Bool) | int (i : Int) | str (s : List Nat) | tup (l : List D) | lst (l : List D) | dct (ks vs : List D) | obj (c : Nat) (vs : List D) | fn (k : Nat)
  deriving Inhabited
/-- what a name holds: nothing that is known; a value that nobody changes; a list (a dict) that this def alone holds and may change -/
inductive Sl where
  | un | val (d : D) | own (l : List D) | ownd (ks vs : List D)
  deriving Inhabited
/-- an exception: its class's number, its fields -/
structure Exn where
  cls : Nat
  fs : List D
abbrev Env := List Sl
abbrev DK := Sl → Prop
abbrev DX := Exn → Prop
abbrev DE := Env → DK → DX → Prop
abbrev DA := Env → (List D → Prop) → DX → Prop
/-- a statement: what is wanted behind it, of what is returned, behind break, behind continue, of an exception; the names -/
abbrev DS := (Env → Prop) → DK → (Env → Prop) → (Env → Prop) → (Exn → Env → Prop) → Env → Prop
/-- a def's promise over data -/
abbrev DF := List D → DK → DX → Prop

def Sl.use : Sl → (D → Prop) → Prop
  | .val d, k => k d
  | .own l, k => k (.lst l)
  | .ownd ks vs, k => k (.dct ks vs)
  | .un, _ => False
mutual
def D.imm : D → Bool
  | .non => true
  | .bl _ => true
  | .int _ => true
  | .str _ => true
  | .fn _ => true
  | .tup l => immL l
  | .lst _ => false
  | .dct _ _ => false
  | .obj _ _ => false
def immL : List D → Bool
  | [] => true
  | d :: l => d.imm && immL l
end
def Sl.imm : Sl → Bool
  | .val d => d.imm
  | .own l => immL l
  | _ => false
def Sl.view : Sl → Sl
  | .own l => .val (.lst l)
  | .ownd ks vs => .val (.dct ks vs)
  | s => s
def view (r : Env) : Env := r.map Sl.view

def dC (d : D) : DE := fun _ Q _ => Q (.val d)
def Sl.told : Sl → DK → Prop
  | .val d, q => q (.val d)
  | _, _ => False
def dVar (i : Nat) : DE := fun r Q _ => ((r[i]?).getD .un).told Q
/-- e read while the def's own lists are looked at as values: what comes bears none of them -/
def dView (t : DE) : DE := fun r Q X => t (view r) (fun s => s.imm = true ∧ Q s) fun x => immL x.fs = true ∧ X x
/-- .. of a test -/
def dViewT (t : DE) : DE := fun r Q X => t (view r) Q fun x => immL x.fs = true ∧ X x
def dOp (f : D → D → DK → Prop) (ta tb : DE) : DE := fun r Q X => ta r (fun s => s.use fun x => tb r (fun s' => s'.use fun y => f x y Q) X) X
def dUn (f : D → DK → Prop) (ta : DE) : DE := fun r Q X => ta r (fun s => s.use fun x => f x Q) X
def dAs (f : List D → DK → Prop) (ta : DA) : DE := fun r Q X => ta r (fun xs => f xs Q) X
def dNil : DA := fun _ Q _ => Q []
def dCons (ta : DE) (tr : DA) : DA := fun r Q X => ta r (fun s => s.use fun x => tr r (fun xs => Q (x :: xs)) X) X
/-- a bool -/
def Sl.bool : Sl → (Bool → Prop) → Prop
  | .val (.bl b), k => k b
  | _, _ => False
def two : Bool → Prop → Prop → Prop
  | true, A, _ => A
  | false, _, B => B
def dAnd (ta tb : DE) : DE := fun r Q X => ta r (fun s => s.bool fun b => two b (tb r Q X) (Q (.val (.bl false)))) X
def dOr (ta tb : DE) : DE := fun r Q X => ta r (fun s => s.bool fun b => two b (Q (.val (.bl true))) (tb r Q X)) X
def dNot (ta : DE) : DE := fun r Q X => ta r (fun s => s.bool fun b => Q (.val (.bl (!b)))) X
def dIte (tc ta tb : DE) : DE := fun r Q X => tc r (fun s => s.bool fun b => two b (ta r Q X) (tb r Q X)) X
def dTup (ta : DA) : DE := dAs (fun xs Q => Q (.val (.tup xs))) ta
def dLst (ta : DA) : DE := dAs (fun xs Q => Q (.own xs)) ta
/-- a call of a def -/
def dCall (f : DF) (ta : DA) : DE := fun r Q X => ta r (fun xs => f xs Q X) X
/-- a < b < c: b once -/
def dChain (f g : D → D → (Bool → Prop) → Prop) (ta tb tc : DE) : DE := fun r Q X => ta r (fun s => s.use fun x => tb r (fun s' => s'.use fun y => f x y fun b => two b (tc r (fun s'' => s''.use fun z => g y z fun c => Q (.val (.bl c))) X) (Q (.val (.bl false)))) X) X

/-- how many bits -/
def bits (i : Int) : Nat := if i = 0 then 0 else i.natAbs.log2 + 1
def Sz (i j : Int) : Prop := bits i ≤ 64 ∨ bits j ≤ 64 ∨ bits i + bits j ≤ 134217728
def oAdd : D → D → DK → Prop
  | .int i, .int j, Q => Q (.val (.int (i + j)))
  | .lst a, .lst b, Q => a.length + b.length ≤ 16777216 ∧ Q (.own (a ++ b))
  | .str a, .str b, Q => a.length + b.length ≤ 16777216 ∧ Q (.val (.str (a ++ b)))
  | .tup a, .tup b, Q => (a ≠ [] ∧ b ≠ [] ∧ a.length + b.length ≤ 16777216) ∧ Q (.val (.tup (a ++ b)))
  | _, _, _ => False
def oSub : D → D → DK → Prop
  | .int i, .int j, Q => Q (.val (.int (i - j)))
  | _, _, _ => False
def oMul : D → D → DK → Prop
  | .int i, .int j, Q => Sz i j ∧ Q (.val (.int (i * j)))
  | _, _, _ => False
/-- what // asks: a divisor that is no nought, and that the two are not too great -/
def DivOk (i j : Int) : Prop := j ≠ 0 ∧ (j.natAbs.log2 < 9000 ∨ bits i ≤ bits j + 4000)
def oDiv : D → D → DK → Prop
  | .int i, .int j, Q => DivOk i j ∧ Q (.val (.int (i.fdiv j)))
  | _, _, _ => False
def oMod : D → D → DK → Prop
  | .int i, .int j, Q => j ≠ 0 ∧ Q (.val (.int (i.fmod j)))
  | _, _, _ => False
def oPow : D → D → DK → Prop
  | .int i, .int j, Q => (0 ≤ j ∧ j ≤ 1000000 ∧ i.natAbs < 2 ^ 64) ∧ Q (.val (.int (i ^ j.toNat)))
  | _, _, _ => False
def oShl : D → D → DK → Prop
  | .int i, .int j, Q => (0 ≤ j ∧ (bits i : Int) + j ≤ 134217728) ∧ Q (.val (.int (i * 2 ^ j.toNat)))
  | _, _, _ => False
def oCmp (p : Int → Int → Bool) : D → D → (Bool → Prop) → Prop
  | .int i, .int j, k => k (p i j)
  | _, _, _ => False
def cB (f : D → D → (Bool → Prop) → Prop) : D → D → DK → Prop := fun x y Q => f x y fun b => Q (.val (.bl b))
abbrev bLt : D → D → (Bool → Prop) → Prop := oCmp fun i j => decide (i < j)
abbrev bLe : D → D → (Bool → Prop) → Prop := oCmp fun i j => decide (i ≤ j)
abbrev bGt : D → D → (Bool → Prop) → Prop := oCmp fun i j => decide (j < i)
abbrev bGe : D → D → (Bool → Prop) → Prop := oCmp fun i j => decide (j ≤ i)
mutual
/-- ==, as Python has it: of data alone (no dicts, no objects) -/
def D.eq : D → D → Bool
  | .non, .non => true
  | .bl a, .bl b => a == b
  | .bl a, .int j => (if a then 1 else 0) == j
  | .int i, .bl b => i == (if b then 1 else 0)
  | .int i, .int j => i == j
  | .str a, .str b => a == b
  | .tup a, .tup b => eqL a b
  | .lst a, .lst b => eqL a b
  | _, _ => false
def eqL : List D → List D → Bool
  | [], [] => true
  | a :: l, b :: m => D.eq a b && eqL l m
  | _, _ => false
end
mutual
/-- data that == may be asked of, at most n deep -/
def D.dat : Nat → D → Bool
  | _, .non => true
  | _, .bl _ => true
  | _, .int _ => true
  | _, .str s => s.all fun c => decide (c < 1114112)
  | 0, .tup _ => false
  | n + 1, .tup l => datL n l
  | 0, .lst _ => false
  | n + 1, .lst l => datL n l
  | _, .dct _ _ => false
  | _, .obj _ _ => false
  | _, .fn _ => false
def datL : Nat → List D → Bool
  | _, [] => true
  | n, d :: l => D.dat n d && datL n l
end
def bEq : D → D → (Bool → Prop) → Prop
  | .int a, .int b, k => k (decide (a = b))
  | x, y, k => (x.dat 30 && y.dat 30) = true ∧ k (D.eq x y)
def bNe : D → D → (Bool → Prop) → Prop
  | .int a, .int b, k => k (!decide (a = b))
  | x, y, k => (x.dat 30 && y.dat 30) = true ∧ k (!D.eq x y)
theorem bEq_any {x y : D} {k : Bool → Prop} (h : bEq x y k) : (x.dat 30 = true ∧ y.dat 30 = true) ∧ k (D.eq x y) := by
  cases x <;> cases y <;> first | exact ⟨Bool.and_eq_true_iff.mp h.1, h.2⟩ | exact ⟨⟨rfl, rfl⟩, by rw [show D.eq (.int _) (.int _) = (_ == _) from rfl, Bool.beq_eq_decide_eq]; exact h⟩
theorem bNe_any {x y : D} {k : Bool → Prop} (h : bNe x y k) : (x.dat 30 = true ∧ y.dat 30 = true) ∧ k (!D.eq x y) := by
  cases x <;> cases y <;> first | exact ⟨Bool.and_eq_true_iff.mp h.1, h.2⟩ | exact ⟨⟨rfl, rfl⟩, by rw [show D.eq (.int _) (.int _) = (_ == _) from rfl, Bool.beq_eq_decide_eq]; exact h⟩
def oNeg : D → DK → Prop
  | .int i, Q => Q (.val (.int (-i)))
  | _, _ => False
/-- an index -/
def ixN (n : Nat) (i : Int) : Option Nat := if 0 ≤ i then (if i < n then some i.toNat else none) else if -(n : Int) ≤ i then some (i + n).toNat else none
def ixI (l : List D) : Int → Option D
  | .ofNat n => l[n]?
  | .negSucc n => match l.length - n with
    | 0 => none
    | m + 1 => l[m]?
theorem ixI_eq (l : List D) (i : Int) : ixI l i = (ixN l.length i).bind fun j => l[j]? := by
  unfold ixN
  cases i with
  | ofNat n =>
    show l[n]? = _
    rw [if_pos (show (0 : Int) ≤ Int.ofNat n from Int.natCast_nonneg n)]
    by_cases h : n < l.length
    · rw [if_pos (show Int.ofNat n < (l.length : Int) by show (n : Int) < l.length; omega)]
      rfl
    · rw [if_neg (show ¬ Int.ofNat n < (l.length : Int) by show ¬ (n : Int) < l.length; omega), List.getElem?_eq_none (by omega)]
      rfl
  | negSucc n =>
    show (match l.length - n with | 0 => none | m + 1 => l[m]?) = _
    rw [if_neg (by omega)]
    by_cases h : n < l.length
    · rw [if_pos (by omega)]
      have e : l.length - n = (l.length - n - 1) + 1 := by omega
      have e2 : (Int.negSucc n + (l.length : Int)).toNat = l.length - n - 1 := by omega
      rw [e, e2]
      rfl
    · rw [if_neg (by omega)]
      have e : l.length - n = 0 := by omega
      rw [e]
      rfl
def optD : Option D → (D → Prop) → Prop
  | some d, k => k d
  | none, _ => False
def oIx : D → D → DK → Prop
  | .tup l, .int i, Q => optD (ixI l i) fun d => Q (.val d)
  | .lst l, .int i, Q => optD (ixI l i) fun d => Q (.val d)
  | _, _, _ => False
def D.isNone : D → Bool
  | .non => true
  | _ => false
def oIsN (x : D) (Q : DK) : Prop := Q (.val (.bl x.isNone))
def oNotN (x : D) (Q : DK) : Prop := Q (.val (.bl (!x.isNone)))

def oIsB : D → D → DK → Prop
  | .bl a, .bl b, Q => Q (.val (.bl (decide (a = b))))
  | _, _, _ => False
def oNotB : D → D → DK → Prop
  | .bl a, .bl b, Q => Q (.val (.bl (!decide (a = b))))
  | _, _, _ => False

def fLen : List D → DK → Prop
  | [.tup l], Q => Q (.val (.int l.length))
  | [.lst l], Q => Q (.val (.int l.length))
  | _, _ => False
def fAbs : List D → DK → Prop
  | [.int i], Q => Q (.val (.int (i.natAbs : Int)))
  | _, _ => False
def fMax : List D → DK → Prop
  | [.int i, .int j], Q => Q (.val (.int (if j > i then j else i)))
  | _, _ => False
def fMin : List D → DK → Prop
  | [.int i, .int j], Q => Q (.val (.int (if j < i then j else i)))
  | _, _ => False
def fInt : List D → DK → Prop
  | [.int i], Q => Q (.val (.int i))
  | [.bl b], Q => Q (.val (.int (if b then 1 else 0)))
  | _, _ => False
def fDivmod : List D → DK → Prop
  | [.int i, .int j], Q => DivOk i j ∧ Q (.val (.tup [.int (i.fdiv j), .int (i.fmod j)]))
  | _, _ => False
def D.isInt : D → Bool
  | .int _ => true
  | .bl _ => true
  | _ => false
def D.isBool : D → Bool
  | .bl _ => true
  | _ => false
def D.isTuple : D → Bool
  | .tup _ => true
  | _ => false
def D.isList : D → Bool
  | .lst _ => true
  | _ => false
def D.isStr : D → Bool
  | .str _ => true
  | _ => false
def D.plain : D → Bool
  | .obj _ _ => false
  | .dct _ _ => false
  | .fn _ => false
  | _ => true
/-- isinstance(x, int), .. by its test; of plain data alone -/
def oIsi (p : D → Bool) (x : D) (Q : DK) : Prop := x.plain = true ∧ Q (.val (.bl (p x)))

/-- where a part of a slice lies -/
def sIx (n d : Nat) : Option Int → Nat
  | none => d
  | some v => if v < 0 then (v + (n : Int)).toNat else min v.toNat n
def cutD (l : List D) (lo hi : Option Int) : List D := (l.drop (sIx l.length 0 lo)).take (sIx l.length l.length hi - sIx l.length 0 lo)
abbrev DO := Env → (Option Int → Prop) → DX → Prop
def dNoPart : DO := fun _ k _ => k none
def D.asInt : D → (Int → Prop) → Prop
  | .int i, k => k i
  | _, _ => False
def dPart (t : DE) : DO := fun r k X => t r (fun s => s.use fun d => d.asInt fun i => k (some i)) X
def D.asLst : D → (List D → Prop) → Prop
  | .lst l, k => k l
  | _, _ => False
/-- xs[lo:hi] of a list -/
def dSl (te : DE) (tl th : DO) : DE := fun r Q X => te r (fun s => s.use fun d => tl r (fun lo => th r (fun hi => d.asLst fun l => Q (.own (cutD l lo hi))) X) X) X

def dChain3 (f g h : D → D → (Bool → Prop) → Prop) (ta tb tc td : DE) : DE := fun r Q X => ta r (fun s => s.use fun x => tb r (fun s' => s'.use fun y => f x y fun b => two b (tc r (fun s'' => s''.use fun z => g y z fun c => two c (td r (fun s3 => s3.use fun w => h z w fun d => Q (.val (.bl d))) X) (Q (.val (.bl false)))) X) (Q (.val (.bl false)))) X) X
def oBits : D → DK → Prop
  | .int i, Q => Q (.val (.int (bits i)))
  | _, _ => False
/-- in a list -/
def inD (x : D) (l : List D) : Bool := l.any fun z => D.eq z x
def bIn : D → D → (Bool → Prop) → Prop
  | x, .lst l, k => (x.dat 29 && datL 29 l) = true ∧ k (inD x l)
  | _, _, _ => False
def bNotIn : D → D → (Bool → Prop) → Prop
  | x, .lst l, k => (x.dat 29 && datL 29 l) = true ∧ k (!inD x l)
  | _, _, _ => False
def fList : List D → DK → Prop
  | [.lst l], Q => Q (.own l)
  | [.tup l], Q => Q (.own l)
  | _, _ => False
/-- the first place of an equal one -/
def idxD (y : D) : List D → Option Nat
  | [] => none
  | x :: l => if D.eq x y = true then some 0 else (idxD y l).map (· + 1)
def optN : Option Nat → (Nat → Prop) → Prop
  | some j, k => k j
  | none, _ => False
def one1 : List D → (D → Prop) → Prop
  | [y], k => k y
  | _, _ => False
/-- xs.index(y) -/
def dIndex (ta : DE) (ts : DA) : DE := fun r Q X => ta r (fun s => s.use fun x => x.asLst fun l => ts r (fun xs => one1 xs fun y => (y.dat 29 && datL 29 l) = true ∧ optN (idxD y l) fun j => Q (.val (.int j))) X) X

/-- isinstance(x, C), x a kept exception or None; p: which classes C takes -/
def oIsX (p : Nat → Bool) : D → DK → Prop
  | .non, Q => Q (.val (.bl false))
  | .obj c _, Q => c < 11 ∧ Q (.val (.bl (p c)))
  | _, _ => False
/-- x.f, f the field i of the classes cs -/
def oXf (cs : List Nat) (i : Nat) : D → DK → Prop
  | .obj c us, Q => cs.contains c = true ∧ optD us[i]? fun d => Q (.val d)
  | _, _ => False

/-- a call of what slot i holds: the def numbered j, which keeps f -/
def dCallV (i j : Nat) (f : DF) (ta : DA) : DE := fun r Q X => (r[i]?).getD .un = .val (.fn j) ∧ ta r (fun xs => f xs Q X) X
def dNewD : DE := fun _ Q _ => Q (.ownd [] [])
def D.isI : D → Bool
  | .int _ => true
  | _ => false
/-- what may be a dict's key here: a tuple of at most three whole numbers -/
def D.keyed : D → Bool
  | .tup l => Nat.ble l.length 3 && l.all D.isI
  | _ => false
def bDIn : D → D → (Bool → Prop) → Prop
  | x, .dct ks _, k => x.keyed = true ∧ k (inD x ks)
  | _, _, _ => False
def bDNotIn : D → D → (Bool → Prop) → Prop
  | x, .dct ks _, k => x.keyed = true ∧ k (!inD x ks)
  | _, _, _ => False
/-- what stands at x -/
def lookD (x : D) : List D → List D → Option D
  | k :: ks, v :: vs => if D.eq k x = true then some v else lookD x ks vs
  | _, _ => none
def oDIx : D → D → DK → Prop
  | .dct ks vs, x, Q => x.keyed = true ∧ optD (lookD x ks vs) fun d => Q (.val d)
  | _, _, _ => False
def replD (x v : D) : List D → List D → List D
  | k :: ks, u :: us => (if D.eq k x = true then v else u) :: replD x v ks us
  | _, _ => []
def putKs (x : D) (ks : List D) : List D := if inD x ks = true then ks else ks ++ [x]
def putVs (x v : D) (ks vs : List D) : List D := if inD x ks = true then replD x v ks vs else vs ++ [v]
/-- list(d), the keys -/
def fListD : List D → DK → Prop
  | [.dct ks _], Q => Q (.own ks)
  | _, _ => False
def D.ints : D → Bool
  | .tup l => l.all D.isI
  | _ => false
def D.num : D → Int
  | .int i => i
  | _ => 0
/-- a tuple's numbers -/
def D.nums : D → List Int
  | .tup l => l.map D.num
  | _ => []
def tupI (ns : List Int) : D := .tup (ns.map D.int)
/-- a < b of tuples of whole numbers -/
def bLtT : D → D → (Bool → Prop) → Prop
  | .tup a, .tup b, k => (a.all D.isI && b.all D.isI) = true ∧ k (decide ((D.tup a).nums < (D.tup b).nums))
  | _, _, _ => False
/-- the first least -/
def minL (x : List Int) (l : List (List Int)) : List Int := l.foldl (fun a y => if y < a then y else a) x
def fMinT : List D → DK → Prop
  | [.lst (x :: l)], Q => (x :: l).all D.ints = true ∧ Q (.val (tupI (minL x.nums (l.map D.nums))))
  | _, _ => False
def sortL (l : List (List Int)) : List (List Int) := l.mergeSort fun p q => decide (p ≤ q)
def fSortT : List D → DK → Prop
  | [.lst l], Q => (l.all fun d => d.ints && !d.nums.isEmpty) = true ∧ l.length ≤ 16777216 ∧ Q (.own ((sortL (l.map D.nums)).map tupI))
  | _, _ => False
def fSum : List D → DK → Prop
  | [.lst l], Q => l.all D.isI = true ∧ Q (.val (.int (l.map D.num).sum))
  | _, _ => False
def Sl.ownedD : Sl → (List D → List D → Prop) → Prop
  | .ownd ks vs, k => k ks vs
  | _, _ => False

/-- one item's way: a test, then what is made -/
def dEach (f : D → (Option D → Prop) → Prop) : List D → (List D → Prop) → Prop
  | [], Q => Q []
  | x :: xs, Q => f x fun o => dEach f xs fun ys => Q (match o with | some y => y :: ys | none => ys)
/-- one item's way -/
def oneLc (i : Nat) (tt te : DE) (r : Env) (x : D) (k : Option D → Prop) : Prop := tt (r.set i (.val x)) (fun s => s.bool fun b => two b (te (r.set i (.val x)) (fun s => s.use fun y => k (some y)) fun _ => False) (k none)) fun _ => False
def itemsL : D → (List D → Prop) → Prop
  | .lst l, k => l.length ≤ 16777216 ∧ k l
  | .tup l, k => l.length ≤ 16777216 ∧ k l
  | _, _ => False
/-- [e for x in w if t], x in slot i -/
def dLc (i : Nat) (w : DE) (tt te : DE) : DE := fun r Q X => w r (fun s => s.use fun d => itemsL d fun l => dEach (oneLc i tt te r) l fun ys => Q (.own ys)) X
def dYes : DE := dC (.bl true)
def rangeD (lo hi : Int) : List D := (List.range (hi - lo).toNat).map fun (i : Nat) => D.int (lo + (i : Int))
/-- range(a, b), walked at once -/
def fRange : List D → DK → Prop
  | [.int j], Q => (-(2 ^ 62) ≤ j ∧ j < 2 ^ 62) ∧ Q (.val (.lst (rangeD 0 j)))
  | [.int i, .int j], Q => (-(2 ^ 62) ≤ i ∧ i < 2 ^ 62 ∧ -(2 ^ 62) ≤ j ∧ j < 2 ^ 62) ∧ Q (.val (.lst (rangeD i j)))
  | _, _ => False

def dNext : DS := fun n _ _ _ _ r => n r
def dSeq (t u : DS) : DS := fun n q b c x r => t (fun r' => u n q b c x r') q b c x r
/-- the ways behind t are joined by what holds there -/
def dCut (t u : DS) : DS := fun n q b c x r => ∃ M : Env → Prop, t M q b c x r ∧ ∀ r', M r' → u n q b c x r'
def dSet (i : Nat) (te : DE) : DS := fun n _ _ _ x r => te r (fun s => n (r.set i s)) fun e => x e r
/-- .. a list that comes is never changed -/
def dSetV (i : Nat) (te : DE) : DS := fun n _ _ _ x r => te r (fun s => n (r.set i s.view)) fun e => x e r
/-- x, y, .. = a tuple -/
def setAll : List Nat → List D → Env → Env
  | i :: is, d :: ds, r => setAll is ds (r.set i (.val d))
  | _, _, r => r
def tupOf (m : Nat) : D → (List D → Prop) → Prop
  | .tup l, k => l.length = m ∧ k l
  | _, _ => False
def dUnp (is : List Nat) (te : DE) : DS := fun n _ _ _ x r => te r (fun s => s.use fun d => tupOf is.length d fun l => n (setAll is l r)) fun e => x e r
/-- x, y, .. = a list -/
def lstOf (m : Nat) : D → (List D → Prop) → Prop
  | .lst l, k => l.length = m ∧ k l
  | _, _ => False
def dUnpL (is : List Nat) (te : DE) : DS := fun n _ _ _ x r => te r (fun s => s.use fun d => lstOf is.length d fun l => n (setAll is l r)) fun e => x e r
/-- x, y, .. = e, f, .. -/
def dPar (is : List Nat) (ta : DA) : DS := fun n _ _ _ x r => ta r (fun ds => n (setAll is ds r)) fun e => x e r
def dDrop (te : DE) : DS := fun n _ _ _ x r => te r (fun _ => n r) fun e => x e r
def dRet (te : DE) : DS := fun _ q _ _ x r => te r q fun e => x e r
/-- return of a name that holds a list of the def's own -/
def Sl.given : Sl → DK → Prop
  | .own l, q => q (.own l)
  | .ownd ks vs, q => q (.ownd ks vs)
  | _, _ => False
def slotAt (r : Env) (i : Nat) : Sl := (r[i]?).getD .un
def dRetOwn (i : Nat) : DS := fun _ q _ _ _ r => (slotAt r i).given q
def dRetN : DS := fun _ q _ _ _ _ => q (.val .non)
def dIf (tc : DE) (t u : DS) : DS := fun n q b c x r => tc r (fun s => s.bool fun k => two k (t n q b c x r) (u n q b c x r)) fun e => x e r
def dPass : DS := dNext
def dNever : DS := fun _ _ _ _ _ _ => False
def dBreak : DS := fun _ _ b _ _ r => b r
def dCont : DS := fun _ _ _ c _ r => c r
/-- from here on the list in slot i is a value that nobody changes -/
def frz (i : Nat) (r : Env) : Env := r.set i (slotAt r i).view
def dFrz (i : Nat) (t : DS) : DS := fun n q b c x r => t n q b c x (frz i r)
def dWhile (tc : DE) (tb : DS) : DS := fun n q _ _ x r => ∃ W : Nat → Env → Prop, (∃ m, W m r) ∧ ∀ m r, W m r →
  tc r (fun s => s.bool fun k => two k (tb (fun r' => ∃ m', m' < m ∧ W m' r') q n (fun r' => ∃ m', m' < m ∧ W m' r') x r) (n r)) fun e => x e r
/-- the items one after the other -/
def dEvery (i : Nat) (tb : DS) (n : Env → Prop) (q : DK) (x : Exn → Env → Prop) : List D → Env → Prop
  | [], r => n r
  | d :: ds, r => tb (fun r' => dEvery i tb n q x ds r') q n (fun r' => dEvery i tb n q x ds r') x (r.set i (.val d))
def itemsOf : D → (List D → Prop) → Prop
  | .lst l, k => k l
  | .tup l, k => k l
  | _, _ => False
def dFor (i : Nat) (w : DE) (tb : DS) : DS := fun n q _ _ x r => w r (fun s => s.use fun d => itemsOf d fun l => dEvery i tb n q x l r) fun e => x e r
/-- for x, y, .. in a list of tuples -/
def dEveryU (is : List Nat) (tb : DS) (n : Env → Prop) (q : DK) (x : Exn → Env → Prop) : List D → Env → Prop
  | [], r => n r
  | d :: ds, r => tupOf is.length d fun l => tb (fun r' => dEveryU is tb n q x ds r') q n (fun r' => dEveryU is tb n q x ds r') x (setAll is l r)
def dForU (is : List Nat) (w : DE) (tb : DS) : DS := fun n q _ _ x r => w r (fun s => s.use fun d => itemsOf d fun l => dEveryU is tb n q x l r) fun e => x e r
/-- .. of lists -/
def dEveryUL (is : List Nat) (tb : DS) (n : Env → Prop) (q : DK) (x : Exn → Env → Prop) : List D → Env → Prop
  | [], r => n r
  | d :: ds, r => lstOf is.length d fun l => tb (fun r' => dEveryUL is tb n q x ds r') q n (fun r' => dEveryUL is tb n q x ds r') x (setAll is l r)
def dForUL (is : List Nat) (w : DE) (tb : DS) : DS := fun n q _ _ x r => w r (fun s => s.use fun d => itemsOf d fun l => dEveryUL is tb n q x l r) fun e => x e r
def Sl.owned : Sl → (List D → Prop) → Prop
  | .own l, k => k l
  | _, _ => False
/-- xs.append(e), xs in slot i the def's own -/
def dApp (i : Nat) (te : DE) : DS := fun n _ _ _ x r => (slotAt r i).owned fun l => te r (fun s => s.use fun d => l.length < 16777216 ∧ n (r.set i (.own (l ++ [d])))) fun e => x e r
/-- xs[e] = v, xs in slot i the def's own -/
def dLPut (i : Nat) (tk tv : DE) : DS := fun n _ _ _ x r => (slotAt r i).owned fun l => tv r (fun s => s.use fun v => tk r (fun s' => s'.use fun y => y.asInt fun j => optN (ixN l.length j) fun m => n (r.set i (.own (l.set m v)))) fun e => x e r) fun e => x e r
/-- d[k] = v, d in slot i the def's own -/
def dPut (i : Nat) (tk tv : DE) : DS := fun n _ _ _ x r => (slotAt r i).ownedD fun ks vs => tv r (fun s => s.use fun v => tk r (fun s' => s'.use fun y => (y.keyed = true ∧ ks.length < 16777216) ∧ n (r.set i (.ownd (putKs y ks) (putVs y v ks vs)))) fun e => x e r) fun e => x e r
/-- xs.clear(), xs in slot i the def's own -/
def dClear (i : Nat) : DS := fun n _ _ _ _ r => (slotAt r i).owned fun _ => n (r.set i (.own []))
/-- += of whole numbers -/
def iAdd : D → D → DK → Prop
  | .int i, .int j, Q => Q (.val (.int (i + j)))
  | _, _, _ => False
/-- i op= e -/
def Sl.datum : Sl → (D → Prop) → Prop
  | .val d, k => k d
  | _, _ => False
def dAug (i : Nat) (f : D → D → DK → Prop) (te : DE) : DS := fun n _ _ _ x r => (slotAt r i).datum fun d => te r (fun s => s.use fun y => f d y fun s => n (r.set i s)) fun e => x e r
/-- raise C(e, ..) -/
def dRaise (c : Nat) (ta : DA) : DS := fun _ _ _ _ x r => ta r (fun xs => x ⟨c, xs⟩ r) fun e => x e r

/-- try: t except FormError as (slot i): (slot j) = (slot i) -/
def dTry (i j : Nat) (t : DS) : DS := fun n q b c _ r => t n q b c (fun e r' => e.cls < 11 ∧ n ((r'.set j (.val (.obj e.cls e.fs))).set i .un)) r
/-- a def: its np parameters first, n names in all -/
structure dFun (np n : Nat) (t : DS) (ds : List D) (Q : DK) (X : DX) : Prop where
  len : ds.length = np
  go : t (fun _ => Q (.val .non)) Q (fun _ => False) (fun _ => False) (fun x _ => X x) (ds.map Sl.val ++ List.replicate (n - np) .un)
/-- the def that the object's class has as a method: of class 12, of class 13 -/
def methOf (f g : DF) : D → (DF → Prop) → Prop
  | .obj 12 _, k => k f
  | .obj 13 _, k => k g
  | _, _ => False
/-- o.m(..), by o's class -/
def dMeth (f g : DF) (to : DE) (ta : DA) : DE := fun r Q X => to r (fun s => s.use fun o => methOf f g o fun h => ta r (fun xs => h (o :: xs) Q X) X) X
/-- isinstance(o, C), o an object -/
def oIsO (j : Nat) : D → DK → Prop
  | .obj 12 _, Q => Q (.val (.bl (j == 14 || 12 == j)))
  | .obj 13 _, Q => Q (.val (.bl (j == 14 || 13 == j)))
  | _, _ => False
/-- o.f, f the field i of an object -/
def oFld (i : Nat) : D → DK → Prop
  | .obj 12 us, Q => optD us[i]? fun d => Q (.val d)
  | .obj 13 us, Q => optD us[i]? fun d => Q (.val d)
  | _, _ => False
/-- o.ground -/
def oGround : D → DK → Prop
  | .obj 12 us, Q => optD us[2]? fun d => Q (.val d)
  | _, _ => False
/-- o.ways -/
def oWays : D → DK → Prop
  | .obj 13 us, Q => optD us[2]? fun d => Q (.val d)
  | _, _ => False
/-- a new object of three fields: what it is made with, and what two defs tell of that -/
def mkObj (c : Nat) (f1 f2 : DF) : DF := fun ds Q X => match ds with
  | [d] => f1 [d] (fun s => s.use fun m => f2 [d] (fun s' => s'.use fun g => Q (.val (.obj c [d, m, g]))) X) X
  | _ => False
end DL

/- DLb -/
namespace DL
open PySem PySem.Spec PyProof.Rows L2
abbrev Sg := L2.St
/-- the ground: the written part; where the numbered classes and defs stand; their attributes' names -/
structure Gx where
  K : PySem.W.Frag
  cm : Nat → Addr
  fnm : Nat → List Str
/-- an exception object that was caught and kept -/
def ExK (cls : Value) (d : Option Addr) (a : Addr) : HO := .ext fun h => ∃ (oe : Obj) (vs : Array Value), h.get? a = some oe ∧ Zc cls d oe ∧ oe.data = .fields vs
def keyD : Key → D
  | .inl i => .int i
  | .inr x => .str x.cps.toList
/-- a tuple of n items; a short one is none of the module's constants -/
def SqTn (K : PySem.W.Frag) (F : Hp) (a : Addr) (vs : List V) (n : Nat) : Prop := SqT K F a vs ∧ (n < 4 → F a = some (.tup vs))
mutual
/-- v, over the part F of the heap that nobody changes, is the datum d -/
def Rep (G : Gx) (F : Hp) : D → V → Prop
  | .non, v => v = .non
  | .bl b, v => v = .bl b
  | .int i, v => v = .int i
  | .str s, v => v = .str ⟨s.toArray⟩
  | .tup l, v => ∃ a vs, v = .ref a ∧ SqTn G.K F a vs l.length ∧ RepL G F l vs
  | .lst l, v => ∃ a vs, v = .ref a ∧ SqL G.K F a vs ∧ RepL G F l vs
  | .dct ks us, v => ∃ a kvs, v = .ref a ∧ Rd F a (.dT kvs) ∧ ks = kvs.map (fun p => D.tup (p.1.map keyD)) ∧ RepL G F us (kvs.map (·.2))
  | .obj c us, v => ∃ a, v = .ref a ∧ ((11 ≤ c ∧ ∃ dx fs, F a = some (.ins (G.cm c) dx fs) ∧ F dx = some (.own a) ∧ fs.map (·.1) = G.fnm c ∧ RepL G F us (fs.map (·.2))) ∨
      c < 11 ∧ ∃ d, F a = some (ExK (.ref (G.cm c)) d a) ∧ ((us = [] ∧ d = none) ∨ ∃ dd fs vs, d = some dd ∧ F dd = some (.xd fs) ∧ RepL G F us vs ∧ ∀ (i : Nat) f v, (G.fnm c)[i]? = some f → vs[i]? = some v → fs.lookup f = some v))
  | .fn k, v => v = .ref (G.cm k)
def RepL (G : Gx) (F : Hp) : List D → List V → Prop
  | [], vs => vs = []
  | d :: ds, vs => ∃ v r, vs = v :: r ∧ Rep G F d v ∧ RepL G F ds r
end
theorem sqT_mono {K : PySem.W.Frag} {H H' : Hp} {a : Addr} {xs : List V} (e : Same H H') (h : SqT K H a xs) : SqT K H' a xs := by
  rcases h with (h | ⟨o, h⟩) | h
  · exact .inl (.inl (e _ _ h))
  · exact .inl (.inr ⟨o, e _ _ h⟩)
  · exact .inr h
theorem sqL_mono {K : PySem.W.Frag} {H H' : Hp} {a : Addr} {xs : List V} (e : Same H H') (h : SqL K H a xs) : SqL K H' a xs := e.seq h
theorem sqTn_mono {K : PySem.W.Frag} {H H' : Hp} {a : Addr} {xs : List V} {n : Nat} (e : Same H H') (h : SqTn K H a xs n) : SqTn K H' a xs n := ⟨sqT_mono e h.1, fun k => e _ _ (h.2 k)⟩
theorem rd_mono {H H' : Hp} {a : Addr} {u : HO} (e : Same H H') (h : Rd H a u) : Rd H' a u := h.imp (e _ _) fun ⟨o, h⟩ => ⟨o, e _ _ h⟩
mutual
theorem Rep.mono {G : Gx} {F F' : Hp} (e : Same F F') : ∀ (d : D) {v : V}, Rep G F d v → Rep G F' d v
  | .non, _, h => h
  | .bl _, _, h => h
  | .int _, _, h => h
  | .str _, _, h => h
  | .tup l, _, ⟨a, vs, e1, h1, h2⟩ => ⟨a, vs, e1, sqTn_mono e h1, RepL.mono e l h2⟩
  | .lst l, _, ⟨a, vs, e1, h1, h2⟩ => ⟨a, vs, e1, sqL_mono e h1, RepL.mono e l h2⟩
  | .dct _ us, _, ⟨a, kvs, e1, h1, h2, h3⟩ => ⟨a, kvs, e1, rd_mono e h1, h2, RepL.mono e us h3⟩
  | .obj _ us, _, ⟨a, e1, .inl ⟨hc, dx, fs, h1, h2, h3, h4⟩⟩ => ⟨a, e1, .inl ⟨hc, dx, fs, e _ _ h1, e _ _ h2, h3, RepL.mono e us h4⟩⟩
  | .obj _ us, _, ⟨a, e1, .inr ⟨hc, d, h1, .inl h2⟩⟩ => ⟨a, e1, .inr ⟨hc, d, e _ _ h1, .inl h2⟩⟩
  | .obj _ us, _, ⟨a, e1, .inr ⟨hc, d, h1, .inr ⟨dd, fs, vs, h2, h3, h4, h5⟩⟩⟩ => ⟨a, e1, .inr ⟨hc, d, e _ _ h1, .inr ⟨dd, fs, vs, h2, e _ _ h3, RepL.mono e us h4, h5⟩⟩⟩
  | .fn _, _, h => h
theorem RepL.mono {G : Gx} {F F' : Hp} (e : Same F F') : ∀ (l : List D) {vs : List V}, RepL G F l vs → RepL G F' l vs
  | [], _, h => h
  | d :: ds, _, ⟨v, r, e1, h1, h2⟩ => ⟨v, r, e1, Rep.mono e d h1, RepL.mono e ds h2⟩
end
theorem RepL.length {G : Gx} {F : Hp} : ∀ {l : List D} {vs : List V}, RepL G F l vs → vs.length = l.length
  | [], _, h => by rw [show _ = _ from h]; rfl
  | d :: ds, _, ⟨v, r, e1, _, h2⟩ => by rw [e1]; simp [RepL.length h2]
theorem RepL.get {G : Gx} {F : Hp} : ∀ {l : List D} {vs : List V} {i : Nat} {d : D}, RepL G F l vs → l[i]? = some d → ∃ v, vs[i]? = some v ∧ Rep G F d v
  | [], _, i, d, _, e => by simp at e
  | a :: l, _, 0, d, ⟨v, r, e1, h1, _⟩, e => by
    subst e1
    simp at e; subst e
    exact ⟨v, rfl, h1⟩
  | a :: l, _, i + 1, d, ⟨v, r, e1, _, h2⟩, e => by
    subst e1
    obtain ⟨u, q1, q2⟩ := RepL.get (i := i) h2 (by simpa using e)
    exact ⟨u, by simpa using q1, q2⟩
theorem RepL.append {G : Gx} {F : Hp} : ∀ {l m : List D} {vs us : List V}, RepL G F l vs → RepL G F m us → RepL G F (l ++ m) (vs ++ us)
  | [], _, _, _, h, h' => by rw [show _ = _ from h]; exact h'
  | d :: l, _, _, _, ⟨v, r, e1, h1, h2⟩, h' => by subst e1; exact ⟨v, _, rfl, h1, RepL.append h2 h'⟩
theorem RepL.drop {G : Gx} {F : Hp} : ∀ {l : List D} {vs : List V} (n : Nat), RepL G F l vs → RepL G F (l.drop n) (vs.drop n)
  | _, _, 0, h => h
  | [], _, _ + 1, h => by rw [show _ = _ from h]; exact rfl
  | d :: l, _, n + 1, ⟨v, r, e1, _, h2⟩ => by subst e1; exact RepL.drop (l := l) n h2
theorem RepL.take {G : Gx} {F : Hp} : ∀ {l : List D} {vs : List V} (n : Nat), RepL G F l vs → RepL G F (l.take n) (vs.take n)
  | _, _, 0, h => rfl
  | [], _, _ + 1, h => by rw [show _ = _ from h]; exact rfl
  | d :: l, _, n + 1, ⟨v, r, e1, h1, h2⟩ => by subst e1; exact ⟨v, _, rfl, h1, RepL.take (l := l) n h2⟩

structure Ext (F H F' H' : Hp) : Prop where
  f : Same F F'
  fh : Same F' H'
  h : Same H H'
  new : ∀ a o, F' a = some o → F a = some o ∨ H a = none ∨ ∃ xs, o = .tup xs
theorem Ext.refl {F H : Hp} (e : Same F H) : Ext F H F H := ⟨Same.refl _, e, Same.refl _, fun _ _ q => .inl q⟩
theorem Ext.trans {F H F1 H1 F2 H2 : Hp} (a : Ext F H F1 H1) (b : Ext F1 H1 F2 H2) : Ext F H F2 H2 :=
  ⟨a.f.trans b.f, b.fh, a.h.trans b.h, fun c o q => (b.new c o q).elim (fun z => a.new c o z) fun z => .inr (z.imp a.h.free id)⟩
theorem same_upd {H : Hp} {p : Addr} {o : HO} (n : H p = none) : Same H (upd H p o) := fun b u e => by
  rw [upd_ne (ne_of_none e n)]; exact e
theorem Ext.put {F H : Hp} {p : Addr} {o : HO} (e : Same F H) (n : H p = none) : Ext F H (upd F p o) (upd H p o) :=
  ⟨same_upd (e.free n), fun b u q => by
    by_cases hb : b = p
    · subst hb; rw [upd_same] at q ⊢; exact q
    · rw [upd_ne hb] at q ⊢; exact e b u q, same_upd n, fun a u q => by
    by_cases hb : a = p
    · subst hb; exact .inr (.inl n)
    · rw [upd_ne hb] at q; exact .inl q⟩
/-- a new object that stays the def's own -/
theorem Ext.lay {F H : Hp} {p : Addr} {o : HO} (e : Same F H) (n : H p = none) : Ext F H F (upd H p o) :=
  ⟨Same.refl _, e.trans (same_upd n), same_upd n, fun _ _ q => .inl q⟩
/-- a value that has come -/
def PV (G : Gx) (F H : Hp) (s : Sl) (v : V) (F' H' : Hp) : Prop := match s with
  | .un => False
  | .val d => Rep G F' d v
  | .own l => ∃ p vs, v = .ref p ∧ H' p = some (.lst vs) ∧ F' p = none ∧ H p = none ∧ RepL G F' l vs
  | .ownd ks us => ∃ p kvs, v = .ref p ∧ H' p = some (.dT kvs) ∧ F' p = none ∧ H p = none ∧ ks = kvs.map (fun q => D.tup (q.1.map keyD)) ∧ RepL G F' us (kvs.map (·.2))
structure Post (G : Gx) (F H : Hp) (s : Sl) (v : V) (F' H' : Hp) : Prop where
  e : Ext F H F' H'
  v : PV G F H s v F' H'
theorem Post.val {G : Gx} {F H F' H' : Hp} {d : D} {v : V} (e : Ext F H F' H') (r : Rep G F' d v) : Post G F H (.val d) v F' H' := ⟨e, r⟩
theorem Post.after {G : Gx} {F H F1 H1 F2 H2 : Hp} {s : Sl} {v : V} (p : Post G F1 H1 s v F2 H2) (e : Ext F H F1 H1) : Post G F H s v F2 H2 := by
  refine ⟨e.trans p.e, ?_⟩
  have q := p.v
  cases s with
  | un => exact q
  | val d => exact q
  | own l => obtain ⟨a, vs, h1, h2, h3, h4, h5⟩ := q; exact ⟨a, vs, h1, h2, h3, e.h.free h4, h5⟩
  | ownd ks us => obtain ⟨a, vs, h1, h2, h3, h4, h5⟩ := q; exact ⟨a, vs, h1, h2, h3, e.h.free h4, h5⟩
/-- as a value that nobody changes -/
theorem Post.use {G : Gx} {F H F' H' : Hp} {s : Sl} {v : V} {k : D → Prop} (p : Post G F H s v F' H') (h : s.use k) : ∃ d F'', Ext F H F'' H' ∧ Rep G F'' d v ∧ k d := by
  have q := p.v
  have e := p.e
  cases s with
  | un => exact h.elim
  | val d => exact ⟨d, F', p.e, q, h⟩
  | own l =>
    obtain ⟨a, vs, rfl, h2, h3, h4, h5⟩ := q
    refine ⟨.lst l, upd F' a (.lst vs), ⟨e.f.trans (same_upd h3), fun b u z => ?_, e.h, fun b u z => ?_⟩, ⟨a, vs, rfl, .inl (.inl upd_same), RepL.mono (same_upd h3) l h5⟩, h⟩
    · by_cases hb : b = a
      · subst hb; rw [upd_same] at z; cases z; exact h2
      · rw [upd_ne hb] at z; exact e.fh b u z
    · by_cases hb : b = a
      · subst hb; exact .inr (.inl h4)
      · rw [upd_ne hb] at z; exact e.new b u z
  | ownd ks us =>
    obtain ⟨a, kvs, rfl, h2, h3, h4, h5, h6⟩ := q
    refine ⟨.dct ks us, upd F' a (.dT kvs), ⟨e.f.trans (same_upd h3), fun b u z => ?_, e.h, fun b u z => ?_⟩, ⟨a, kvs, rfl, .inl upd_same, h5, RepL.mono (same_upd h3) us h6⟩, h⟩
    · by_cases hb : b = a
      · subst hb; rw [upd_same] at z; cases z; exact h2
      · rw [upd_ne hb] at z; exact e.fh b u z
    · by_cases hb : b = a
      · subst hb; exact .inr (.inl h4)
      · rw [upd_ne hb] at z; exact e.new b u z

def SlR (G : Gx) (F H H0 : Hp) (o : Option (Option V)) : Sl → Prop
  | .un => True
  | .val d => ∃ v, o = some (some v) ∧ Rep G F d v
  | .own l => ∃ p vs, o = some (some (.ref p)) ∧ H p = some (.lst vs) ∧ F p = none ∧ H0 p = none ∧ RepL G F l vs
  | .ownd ks us => ∃ p kvs, o = some (some (.ref p)) ∧ H p = some (.dT kvs) ∧ F p = none ∧ H0 p = none ∧ ks = kvs.map (fun q => D.tup (q.1.map keyD)) ∧ RepL G F us (kvs.map (·.2))
def Sl.owns : Sl → Bool
  | .own _ => true
  | .ownd _ _ => true
  | _ => false
structure SRep (G : Gx) (F0 H0 F H : Hp) (σ : Sg) (ρ : Env) : Prop where
  len : σ.length = ρ.length
  e : Ext F0 H0 F H
  sl : ∀ (i : Nat) s, ρ[i]? = some s → SlR G F H H0 σ[i]? s
  dis : ∀ (i j : Nat) s t p, ρ[i]? = some s → ρ[j]? = some t → s.owns = true → t.owns = true → σ[i]? = some (some (V.ref p)) → σ[j]? = some (some (V.ref p)) → i = j
theorem SlR.own_at {G : Gx} {F H H0 : Hp} {o : Option (Option V)} {s : Sl} (h : SlR G F H H0 o s) (w : s.owns = true) : ∃ p u, o = some (some (.ref p)) ∧ H p = some u ∧ F p = none ∧ H0 p = none ∧ ((∃ vs, u = .lst vs) ∨ ∃ kvs, u = .dT kvs) := by
  cases s with
  | un => cases w
  | val d => cases w
  | own l => obtain ⟨p, vs, h1, h2, h3, h4, _⟩ := h; exact ⟨p, _, h1, h2, h3, h4, .inl ⟨vs, rfl⟩⟩
  | ownd ks us => obtain ⟨p, kvs, h1, h2, h3, h4, _⟩ := h; exact ⟨p, _, h1, h2, h3, h4, .inr ⟨kvs, rfl⟩⟩
theorem Ext.hidden {F H F' H' : Hp} {p : Addr} {u : HO} (e : Ext F H F' H') (n : F p = none) (h : H p = some u) (w : ∀ xs, u ≠ .tup xs) : F' p = none := by
  cases q : F' p with
  | none => rfl
  | some o =>
    rcases e.new p o q with z | z | ⟨xs, z⟩
    · rw [n] at z; cases z
    · rw [h] at z; cases z
    · subst z
      have y := e.fh _ _ q
      rw [e.h _ _ h] at y
      exact (w xs (Option.some.inj y)).elim
theorem SRep.ext {G : Gx} {F0 H0 F H F' H' : Hp} {σ : Sg} {ρ : Env} (S : SRep G F0 H0 F H σ ρ) (e : Ext F H F' H') : SRep G F0 H0 F' H' σ ρ := by
  refine ⟨S.len, S.e.trans e, fun i s q => ?_, S.dis⟩
  have z := S.sl i s q
  cases s with
  | un => trivial
  | val d => obtain ⟨v, h1, h2⟩ := z; exact ⟨v, h1, Rep.mono e.f d h2⟩
  | own l => obtain ⟨p, vs, h1, h2, h3, h4, h5⟩ := z; exact ⟨p, vs, h1, e.h _ _ h2, e.hidden h3 h2 (fun _ z => nomatch z), h4, RepL.mono e.f l h5⟩
  | ownd ks us => obtain ⟨p, vs, h1, h2, h3, h4, h5, h6⟩ := z; exact ⟨p, vs, h1, e.h _ _ h2, e.hidden h3 h2 (fun _ z => nomatch z), h4, h5, RepL.mono e.f us h6⟩
/-- a value comes into slot i -/
theorem SRep.set {G : Gx} {F0 H0 F H F' H' : Hp} {σ : Sg} {ρ : Env} {s : Sl} {v : V} (S : SRep G F0 H0 F H σ ρ) (i : Nat) (p : Post G F H s v F' H') : SRep G F0 H0 F' H' (σ.set i (some v)) (ρ.set i s) := by
  have S' := S.ext p.e
  have hl := S.len
  have pv := p.v
  have other : ∀ {j : Nat} {t : Sl} {q : Addr}, ρ[j]? = some t → t.owns = true → σ[j]? = some (some (V.ref q)) → s.owns = true → v = .ref q → False := fun {j t q} h1 h2 h3 h4 h5 => by
    obtain ⟨p', u, z1, z2, z3, z4, _⟩ := (S.sl j t h1).own_at h2
    rw [h3] at z1; cases z1
    cases s with
    | un => cases h4
    | val d => cases h4
    | own l => obtain ⟨a, vs, e1, _, _, e4, _⟩ := pv; rw [h5] at e1; cases e1; rw [z2] at e4; cases e4
    | ownd l ws => obtain ⟨a, vs, e1, _, _, e4, _⟩ := pv; rw [h5] at e1; cases e1; rw [z2] at e4; cases e4
  refine ⟨by simpa using hl, S'.e, fun j t q => ?_, fun j k t t' q h1 h2 w1 w2 z1 z2 => ?_⟩
  · by_cases hj : i = j
    · subst hj
      by_cases hi : i < ρ.length
      · rw [List.getElem?_set_self hi] at q; cases q
        rw [List.getElem?_set_self (by omega)]
        cases s with
        | un => trivial
        | val d => exact ⟨v, rfl, pv⟩
        | own l => obtain ⟨a, vs, e1, e2, e3, e4, e5⟩ := pv; exact ⟨a, vs, by rw [e1], e2, e3, S.e.h.free e4, e5⟩
        | ownd l ws => obtain ⟨a, vs, e1, e2, e3, e4, e5⟩ := pv; exact ⟨a, vs, by rw [e1], e2, e3, S.e.h.free e4, e5⟩
      · rw [List.getElem?_eq_none (by simpa using hi)] at q; cases q
    · rw [List.getElem?_set_ne hj] at q ⊢
      exact S'.sl j t q
  · by_cases hj : i = j
    · by_cases hk : i = k
      · exact hj.symm.trans hk
      · subst hj
        have hi : i < ρ.length := by
          by_cases hi : i < ρ.length
          · exact hi
          · rw [List.getElem?_eq_none (by simpa using hi)] at h1; cases h1
        rw [List.getElem?_set_self hi] at h1; cases h1
        rw [List.getElem?_set_ne hk] at h2 z2
        rw [List.getElem?_set_self (by omega)] at z1
        exact (other h2 w2 z2 w1 (by cases z1; rfl)).elim
    · by_cases hk : i = k
      · subst hk
        have hi : i < ρ.length := by
          by_cases hi : i < ρ.length
          · exact hi
          · rw [List.getElem?_eq_none (by simpa using hi)] at h2; cases h2
        rw [List.getElem?_set_self hi] at h2; cases h2
        rw [List.getElem?_set_ne hj] at h1 z1
        rw [List.getElem?_set_self (by omega)] at z2
        exact (other h1 w1 z1 w2 (by cases z2; rfl)).elim
      · rw [List.getElem?_set_ne hj] at h1 z1
        rw [List.getElem?_set_ne hk] at h2 z2
        exact S.dis j k t t' q h1 h2 w1 w2 z1 z2
theorem SRep.same {G : Gx} {F0 H0 F H : Hp} {σ : Sg} {ρ : Env} (S : SRep G F0 H0 F H σ ρ) : Same F H := S.e.fh

/-- the exception x: its class, its own dict -/
def XRep (G : Gx) (F' : Hp) (x : Exn) (cls : Value) (d : Option Addr) (H' : Hp) : Prop :=
  cls = .ref (G.cm x.cls) ∧ ((x.fs = [] ∧ d = none) ∨ ∃ dd fs vs, d = some dd ∧ F' dd = some (.xd fs) ∧ RepL G F' x.fs vs ∧ ∀ (i : Nat) f v, (G.fnm x.cls)[i]? = some f → vs[i]? = some v → fs.lookup f = some v)
def XWish (G : Gx) (W : WX) (F H : Hp) (σ : Sg) (QX : DX) : Prop := ∀ x, QX x → ∀ cls d F' H', Ext F H F' H' → XRep G F' x cls d H' → W cls d σ H'
theorem XWish.ext {G : Gx} {W : WX} {F H F1 H1 : Hp} {σ : Sg} {QX : DX} (h : XWish G W F H σ QX) (e : Ext F H F1 H1) : XWish G W F1 H1 σ QX := fun x q cls d F' H' e' r => h x q cls d F' H' (e.trans e') r
theorem XWish.none {G : Gx} {W : WX} {F H : Hp} {σ : Sg} : XWish G W F H σ fun _ => False := fun _ q => q.elim

def LE (G : Gx) (W : WX) (t : DE) (T : TE) : Prop := ∀ F0 H0 (ρ : Env) F σ H (Q : DK) (QX : DX) (QV : VK), SRep G F0 H0 F H σ ρ → t ρ Q QX → (∀ s v F' H', Post G F H s v F' H' → Q s → QV v H') → XWish G W F H σ QX → T σ H QV
def LT (G : Gx) (W : WX) (t : DE) (T : TT) : Prop := ∀ F0 H0 (ρ : Env) F σ H (k : Bool → Prop) (QX : DX) (QV : Bool → Hp → Prop), SRep G F0 H0 F H σ ρ → t ρ (fun s => s.bool k) QX → (∀ b F' H', Ext F H F' H' → k b → QV b H') → XWish G W F H σ QX → T σ H QV
def LA (G : Gx) (W : WX) (n : Nat) (t : DA) (T : TA) : Prop := ∀ F0 H0 (ρ : Env) F σ H (Q : List D → Prop) (QX : DX) (QV : List V → Hp → Prop), SRep G F0 H0 F H σ ρ → t ρ Q QX → (∀ ds vs F' H', Ext F H F' H' → RepL G F' ds vs → ds.length = n → Q ds → QV vs H') → XWish G W F H σ QX → T σ H QV
/-- what is wanted, over data -/
structure DEnds where
  nx : Env → Prop
  rt : DK
  bk : Env → Prop
  ct : Env → Prop
  xc : Exn → Env → Prop
abbrev at_ (t : DS) (N : DEnds) (r : Env) : Prop := t N.nx N.rt N.bk N.ct N.xc r
structure ERel (G : Gx) (W : WX) (F0 H0 : Hp) (N : DEnds) (D' : Ends) : Prop where
  nx : ∀ ρ F σ H, SRep G F0 H0 F H σ ρ → N.nx ρ → D'.nx σ H
  bk : ∀ ρ F σ H, SRep G F0 H0 F H σ ρ → N.bk ρ → D'.bk σ H
  ct : ∀ ρ F σ H, SRep G F0 H0 F H σ ρ → N.ct ρ → D'.ct σ H
  rt : ∀ s v F H, Post G F0 H0 s v F H → N.rt s → D'.rt v H
  xc : ∀ x ρ F σ H cls d, SRep G F0 H0 F H σ ρ → N.xc x ρ → XRep G F x cls d H → W cls d σ H
def LS (G : Gx) (W : WX) (t : DS) (T : TS) : Prop := ∀ F0 H0 (ρ : Env) F σ H (N : DEnds) (D' : Ends), SRep G F0 H0 F H σ ρ → ERel G W F0 H0 N D' → at_ t N ρ → T D' σ H
theorem ERel.xw {G : Gx} {W : WX} {F0 H0 F H : Hp} {N : DEnds} {D' : Ends} {ρ : Env} {σ : Sg} (E : ERel G W F0 H0 N D') (S : SRep G F0 H0 F H σ ρ) : XWish G W F H σ fun x => N.xc x ρ :=
  fun x q cls d F' H' e r => E.xc x ρ F' σ H' cls d (S.ext e) q r
/-- by values -/
def LR2 (G : Gx) (f : D → D → DK → Prop) (r : R2) : Prop := ∀ F H x y u v (Q : DK) (QV : VK), Same F H → Rep G F x u → Rep G F y v → f x y Q → (∀ s w F' H', Post G F H s w F' H' → Q s → QV w H') → r u v H QV
def LR1 (G : Gx) (f : D → DK → Prop) (r : V → Hp → VK → Prop) : Prop := ∀ F H x u (Q : DK) (QV : VK), Same F H → Rep G F x u → f x Q → (∀ s w F' H', Post G F H s w F' H' → Q s → QV w H') → r u H QV
def LRs (G : Gx) (f : List D → DK → Prop) (r : List V → Hp → VK → Prop) : Prop := ∀ F H xs us (Q : DK) (QV : VK), Same F H → RepL G F xs us → f xs Q → (∀ s w F' H', Post G F H s w F' H' → Q s → QV w H') → r us H QV

section
variable {G : Gx} {W : WX} {ta tb tc : DE} {Ta Tb Tc : TE} {ts : DA} {Ts : TA} {CA CB : TT}
theorem LE.v {F0 H0 : Hp} {ρ : Env} {F : Hp} {σ : Sg} {H : Hp} {k : D → Prop} {QX : DX} {QV : VK} (h : LE G W ta Ta) (S : SRep G F0 H0 F H σ ρ) (q : ta ρ (fun s => s.use k) QX) (hq : ∀ d v F' H', Ext F H F' H' → Rep G F' d v → k d → QV v H') (hx : XWish G W F H σ QX) : Ta σ H QV :=
  h F0 H0 ρ F σ H _ QX QV S q (fun s v F' H' p u => by
    obtain ⟨d, F'', e, r, kd⟩ := p.use u
    exact hq d v F'' H' e r kd) hx
theorem le_c {d : D} {v : V} (r : ∀ F, Rep G F d v) : LE G W (dC d) (tC v) := fun F0 H0 ρ F σ H Q QX QV S q hq _ => hq _ _ F H (.val (.refl S.same) (r F)) q
theorem le_var {i : Nat} : LE G W (dVar i) (tVar i) := fun F0 H0 ρ F σ H Q QX QV S q hq _ => by
  unfold dVar at q
  cases hs : ρ[i]? with
  | none => rw [hs] at q; exact q.elim
  | some s =>
    rw [hs] at q
    cases s with
    | val d =>
      obtain ⟨v, h1, h2⟩ := S.sl i _ hs
      exact ⟨v, h1, hq _ v F H (.val (.refl S.same) h2) q⟩
    | _ => exact q.elim
theorem le_op {f : D → D → DK → Prop} {r : R2} (hf : LR2 G f r) (ha : LE G W ta Ta) (hb : LE G W tb Tb) : LE G W (dOp f ta tb) (tOp r Ta Tb) := fun F0 H0 ρ F σ H Q QX QV S q hq hx =>
  ha.v S q (fun x u F1 H1 e1 r1 q1 => hb.v (S.ext e1) q1 (fun y v F2 H2 e2 r2 q2 =>
    hf F2 H2 x y u v Q QV e2.fh (Rep.mono e2.f x r1) r2 q2 fun s w F3 H3 p q => hq s w F3 H3 (p.after (e1.trans e2)) q) (hx.ext e1)) hx
theorem le_un {f : D → DK → Prop} {r : V → Hp → VK → Prop} (hf : LR1 G f r) (ha : LE G W ta Ta) : LE G W (dUn f ta) (tUn r Ta) := fun F0 H0 ρ F σ H Q QX QV S q hq hx =>
  ha.v S q (fun x u F1 H1 e1 r1 q1 => hf F1 H1 x u Q QV e1.fh r1 q1 fun s w F3 H3 p q => hq s w F3 H3 (p.after e1) q) hx
theorem la_nil : LA G W 0 dNil tNil := fun F0 H0 ρ F σ H Q QX QV S q hq _ => hq [] [] F H (.refl S.same) (rfl : ([] : List V) = []) rfl q
theorem la_cons {n : Nat} (ha : LE G W ta Ta) (hr : LA G W n ts Ts) : LA G W (n + 1) (dCons ta ts) (tCons Ta Ts) := fun F0 H0 ρ F σ H Q QX QV S q hq hx =>
  ha.v S q (fun x u F1 H1 e1 r1 q1 => hr F0 H0 ρ F1 σ H1 _ QX _ (S.ext e1) q1 (fun ds vs F2 H2 e2 r2 l2 q2 => hq (x :: ds) (u :: vs) F2 H2 (e1.trans e2) ⟨u, vs, rfl, Rep.mono e2.f x r1, r2⟩ (by simp [l2]) q2) (hx.ext e1)) hx
theorem le_as {n : Nat} {f : List D → DK → Prop} {r : List V → Hp → VK → Prop} (hf : LRs G f r) (ha : LA G W n ts Ts) : LE G W (dAs f ts) (tCB r Ts) := fun F0 H0 ρ F σ H Q QX QV S q hq hx =>
  ha F0 H0 ρ F σ H _ QX _ S q (fun ds vs F1 H1 e1 r1 _ q1 => hf F1 H1 ds vs Q QV e1.fh r1 q1 fun s w F3 H3 p q => hq s w F3 H3 (p.after e1) q) hx
theorem small16 {n : Nat} (h : Nat.ble n 16777216 = true) : n ≤ sizeLine := by
  rw [sizeLine_eq]; exact Nat.le_of_ble_eq_true h
theorem le_tup {n : Nat} (ha : LA G W n ts Ts) (h16 : Nat.ble n 16777216 = true := by rfl) : LE G W (dTup ts) (tTup Ts) := fun F0 H0 ρ F σ H Q QX QV S q hq hx =>
  ha F0 H0 ρ F σ H _ QX _ S q (fun ds vs F1 H1 e1 r1 l1 q1 => ⟨by rw [r1.length, l1]; exact small16 h16, fun p hp =>
    hq _ _ (upd F1 p (.tup vs)) (upd H1 p (.tup vs)) (.val (e1.trans (.put e1.fh hp)) (by unfold Rep; exact ⟨p, vs, rfl, ⟨.inl (.inl upd_same), fun _ => upd_same⟩, RepL.mono (same_upd (e1.fh.free hp)) ds r1⟩)) q1⟩) hx
theorem Post.mkOwn {F H F1 H1 : Hp} {l : List D} {vs : List V} {p : Addr} (e : Ext F H F1 H1) (hp : H1 p = none) (r : RepL G F1 l vs) : Post G F H (.own l) (.ref p) F1 (upd H1 p (.lst vs)) :=
  ⟨e.trans (.lay e.fh hp), p, vs, rfl, upd_same, e.fh.free hp, e.h.free hp, r⟩
theorem le_lst {n : Nat} (ha : LA G W n ts Ts) (h16 : Nat.ble n 16777216 = true := by rfl) : LE G W (dLst ts) (tLst Ts) := fun F0 H0 ρ F σ H Q QX QV S q hq hx =>
  ha F0 H0 ρ F σ H _ QX _ S q (fun ds vs F1 H1 e1 r1 l1 q1 => ⟨by rw [r1.length, l1]; exact small16 h16, fun p hp => hq _ _ F1 _ (.mkOwn e1 hp r1) q1⟩) hx

theorem lt_val (ha : LE G W ta Ta) : LT G W ta (tTest Ta) := fun F0 H0 ρ F σ H k QX QV S q hq hx =>
  ha F0 H0 ρ F σ H _ QX _ S q (fun s v F1 H1 p q1 => by
    cases s with
    | val d =>
      cases d with
      | bl b => exact ⟨b, p.v, hq b F1 H1 p.e q1⟩
      | _ => exact q1.elim
    | _ => exact q1.elim) hx
theorem lt_valB (ha : LE G W ta Ta) : LT G W ta (tB Ta) := lt_val ha
theorem two_if {b : Bool} {A B A' B' : Prop} (h : two b A B) (ha : A → A') (hb : B → B') : if b = true then A' else B' := by
  cases b with
  | true => rw [if_pos rfl]; exact ha h
  | false => rw [if_neg Bool.false_ne_true]; exact hb h
theorem lt_and (ha : LT G W ta CA) (hb : LT G W tb CB) : LT G W (dAnd ta tb) (tAnd CA CB) := fun F0 H0 ρ F σ H k QX QV S q hq hx =>
  ha F0 H0 ρ F σ H _ QX _ S q (fun b F1 H1 e1 q1 => two_if q1 (fun z => hb F0 H0 ρ F1 σ H1 _ QX _ (S.ext e1) z (fun c F2 H2 e2 q2 => hq c F2 H2 (e1.trans e2) q2) (hx.ext e1)) fun z => hq false F1 H1 e1 z) hx
theorem lt_or (ha : LT G W ta CA) (hb : LT G W tb CB) : LT G W (dOr ta tb) (tOr CA CB) := fun F0 H0 ρ F σ H k QX QV S q hq hx =>
  ha F0 H0 ρ F σ H _ QX _ S q (fun b F1 H1 e1 q1 => two_if q1 (fun z => hq true F1 H1 e1 z) fun z => hb F0 H0 ρ F1 σ H1 _ QX _ (S.ext e1) z (fun c F2 H2 e2 q2 => hq c F2 H2 (e1.trans e2) q2) (hx.ext e1)) hx
theorem lt_not (ha : LT G W ta CA) : LT G W (dNot ta) (tNot CA) := fun F0 H0 ρ F σ H k QX QV S q hq hx =>
  ha F0 H0 ρ F σ H _ QX _ S q (fun b F1 H1 e1 q1 => hq _ F1 H1 e1 q1) hx
theorem le_bool {F0 H0 : Hp} {ρ : Env} {F : Hp} {σ : Sg} {H : Hp} {k : Bool → Prop} {QX : DX} {QV : VK} (h : LE G W ta Ta) (S : SRep G F0 H0 F H σ ρ) (q : ta ρ (fun s => s.bool k) QX) (hq : ∀ b F' H', Ext F H F' H' → k b → QV (.bl b) H') (hx : XWish G W F H σ QX) : Ta σ H QV :=
  h F0 H0 ρ F σ H _ QX _ S q (fun s v F1 H1 p q1 => by
    cases s with
    | val d =>
      cases d with
      | bl b => rw [show v = V.bl b from p.v]; exact hq b F1 H1 p.e q1
      | _ => exact q1.elim
    | _ => exact q1.elim) hx
theorem le_and (ha : LE G W ta Ta) (hb : LE G W tb Tb) : LE G W (dAnd ta tb) (tAndV Ta Tb) := fun F0 H0 ρ F σ H Q QX QV S q hq hx =>
  show Ta σ H _ from le_bool ha S q (fun b F1 H1 e1 q1 => ⟨b, rfl, two_if q1 (fun z => hb F0 H0 ρ F1 σ H1 _ QX _ (S.ext e1) z (fun s v F2 H2 p q2 => hq s v F2 H2 (p.after e1) q2) (hx.ext e1)) fun z => hq (.val (.bl false)) _ F1 H1 (.val e1 rfl) z⟩) hx
theorem le_or (ha : LE G W ta Ta) (hb : LE G W tb Tb) : LE G W (dOr ta tb) (tOrV Ta Tb) := fun F0 H0 ρ F σ H Q QX QV S q hq hx =>
  show Ta σ H _ from le_bool ha S q (fun b F1 H1 e1 q1 => ⟨b, rfl, two_if q1 (fun z => hq (.val (.bl true)) _ F1 H1 (.val e1 rfl) z) fun z => hb F0 H0 ρ F1 σ H1 _ QX _ (S.ext e1) z (fun s v F2 H2 p q2 => hq s v F2 H2 (p.after e1) q2) (hx.ext e1)⟩) hx
theorem le_not (ha : LE G W ta Ta) : LE G W (dNot ta) (tNotV Ta) := fun F0 H0 ρ F σ H Q QX QV S q hq hx =>
  show Ta σ H _ from le_bool ha S q (fun b F1 H1 e1 q1 => ⟨b, rfl, hq (.val (.bl !b)) _ F1 H1 (.val e1 rfl) q1⟩) hx
theorem le_ite (hc : LT G W tc CA) (ha : LE G W ta Ta) (hb : LE G W tb Tb) : LE G W (dIte tc ta tb) (tIf CA Ta Tb) := fun F0 H0 ρ F σ H Q QX QV S q hq hx =>
  hc F0 H0 ρ F σ H _ QX _ S q (fun b F1 H1 e1 q1 => two_if q1 (fun z => ha F0 H0 ρ F1 σ H1 _ QX _ (S.ext e1) z (fun s v F2 H2 p q2 => hq s v F2 H2 (p.after e1) q2) (hx.ext e1))
    fun z => hb F0 H0 ρ F1 σ H1 _ QX _ (S.ext e1) z (fun s v F2 H2 p q2 => hq s v F2 H2 (p.after e1) q2) (hx.ext e1)) hx

/-- what stands in H at the def's own places is looked at -/
theorem SRep.view {F0 H0 F H : Hp} {σ : Sg} {ρ : Env} (S : SRep G F0 H0 F H σ ρ) : ∃ F', SRep G F0 H0 F' H σ (view ρ) ∧ Same F F' ∧ ∀ a o, F' a = some o → F a = some o ∨ (F a = none ∧ (∃ p u, p = a ∧ H p = some u ∧ ((∃ vs, u = .lst vs) ∨ ∃ kvs, u = .dT kvs)) ∧ H0 a = none) := by
  classical
  let own : Addr → Prop := fun a => ∃ (i : Nat) (s : Sl), ρ[i]? = some s ∧ s.owns = true ∧ σ[i]? = some (some (V.ref a))
  let F' : Hp := fun a => if own a then H a else F a
  have at_own : ∀ {a}, own a → ∃ u, H a = some u ∧ F a = none ∧ H0 a = none ∧ ((∃ vs, u = .lst vs) ∨ ∃ kvs, u = .dT kvs) := fun {a} ⟨i, s, h1, h2, h3⟩ => by
    obtain ⟨p, u, z1, z2, z3, z4, z5⟩ := (S.sl i s h1).own_at h2
    rw [h3] at z1; cases z1
    exact ⟨u, z2, z3, z4, z5⟩
  have sFF : Same F F' := fun a o q => by
    show (if own a then H a else F a) = some o
    by_cases w : own a
    · obtain ⟨u, _, z, _⟩ := at_own w
      rw [z] at q; cases q
    · rw [if_neg w]; exact q
  have get : ∀ {a}, own a → F' a = H a := fun {a} w => if_pos w
  refine ⟨F', ⟨by simpa [DL.view] using S.len, ⟨S.e.f.trans sFF, fun a o q => ?_, S.e.h, fun a o q => ?_⟩, fun i s q => ?_, fun i j s t p h1 h2 w1 w2 z1 z2 => ?_⟩, sFF, fun a o q => ?_⟩
  · by_cases w : own a
    · rw [get w] at q; exact q
    · have q : (if own a then H a else F a) = some o := q
      rw [if_neg w] at q; exact S.e.fh a o q
  · by_cases w : own a
    · obtain ⟨u, _, _, z, _⟩ := at_own w
      exact .inr (.inl z)
    · have q : (if own a then H a else F a) = some o := q
      rw [if_neg w] at q; exact S.e.new a o q
  · unfold DL.view at q
    rw [List.getElem?_map] at q
    cases e : ρ[i]? with
    | none => rw [e] at q; cases q
    | some t =>
      rw [e] at q
      cases q
      have z := S.sl i t e
      cases t with
      | un => trivial
      | val d => obtain ⟨v, h1, h2⟩ := z; exact ⟨v, h1, Rep.mono sFF d h2⟩
      | own l =>
        obtain ⟨p, vs, h1, h2, h3, h4, h5⟩ := z
        have w : own p := ⟨i, _, e, rfl, h1⟩
        exact ⟨.ref p, h1, by unfold Rep; exact ⟨p, vs, rfl, .inl (.inl ((get w).trans h2)), RepL.mono sFF l h5⟩⟩
      | ownd ks us =>
        obtain ⟨p, kvs, h1, h2, h3, h4, h5, h6⟩ := z
        have w : own p := ⟨i, _, e, rfl, h1⟩
        exact ⟨.ref p, h1, by unfold Rep; exact ⟨p, kvs, rfl, .inl ((get w).trans h2), h5, RepL.mono sFF us h6⟩⟩
  · unfold DL.view at h1
    rw [List.getElem?_map] at h1
    cases e : ρ[i]? with
    | none => rw [e] at h1; cases h1
    | some t' => rw [e] at h1; cases h1; cases t' <;> cases w1
  · by_cases w : own a
    · obtain ⟨u, z1, z2, z3, z4⟩ := at_own w
      exact .inr ⟨z2, ⟨a, u, rfl, z1, z4⟩, z3⟩
    · have q : (if own a then H a else F a) = some o := q
      rw [if_neg w] at q; exact .inl q
mutual
theorem Rep.imm {F F' : Hp} (hF : ∀ a o, F a = some o → F' a = some o ∨ ((∃ vs, o = HO.lst vs) ∨ ∃ kvs, o = HO.dT kvs)) : ∀ (d : D) {v : V}, d.imm = true → Rep G F d v → Rep G F' d v
  | .non, _, _, h => h
  | .bl _, _, _, h => h
  | .int _, _, _, h => h
  | .str _, _, _, h => h
  | .fn _, _, _, h => h
  | .tup l, _, i, ⟨a, vs, e1, h1, h2⟩ => by
    refine ⟨a, vs, e1, ⟨?_, fun k => (hF a _ (h1.2 k)).resolve_right (fun z => by rcases z with ⟨_, z⟩ | ⟨_, z⟩ <;> cases z)⟩, RepL.imm hF l i h2⟩
    obtain ⟨h1, _⟩ := h1
    rcases h1 with (h1 | ⟨o, h1⟩) | h1
    · rcases hF a _ h1 with z | ⟨z, y⟩ | ⟨z, y⟩
      · exact .inl (.inl z)
      · cases y
      · cases y
    · rcases hF a _ h1 with z | ⟨z, y⟩ | ⟨z, y⟩
      · exact .inl (.inr ⟨o, z⟩)
      · cases y
      · cases y
    · exact .inr h1
  | .lst _, _, i, _ => by cases i
  | .dct _ _, _, i, _ => by cases i
  | .obj _ _, _, i, _ => by cases i
theorem RepL.imm {F F' : Hp} (hF : ∀ a o, F a = some o → F' a = some o ∨ ((∃ vs, o = HO.lst vs) ∨ ∃ kvs, o = HO.dT kvs)) : ∀ (l : List D) {vs : List V}, immL l = true → RepL G F l vs → RepL G F' l vs
  | [], _, _, h => h
  | d :: ds, _, i, ⟨v, r, e1, h1, h2⟩ => by
    have i' := Bool.and_eq_true_iff.mp i
    exact ⟨v, r, e1, Rep.imm hF d i'.1 h1, RepL.imm hF ds i'.2 h2⟩
end
/-- the looked-at places are hidden again -/
theorem hide {F H F1 F2 H2 : Hp} (sF : Same F F1) (hF1 : ∀ a o, F1 a = some o → F a = some o ∨ (F a = none ∧ (∃ p u, p = a ∧ H p = some u ∧ ((∃ vs, u = HO.lst vs) ∨ ∃ kvs, u = HO.dT kvs))))
    (e : Ext F1 H F2 H2) : ∃ F3, Ext F H F3 H2 ∧ (∀ a o, F2 a = some o → F3 a = some o ∨ ((∃ vs, o = HO.lst vs) ∨ ∃ kvs, o = HO.dT kvs)) ∧ ∀ a o, F3 a = some o → F2 a = some o := by
  classical
  let F3 : Hp := fun a => if F1 a = F a then F2 a else none
  have old : ∀ a o, F3 a = some o → F2 a = some o ∧ F1 a = F a := fun a o z => by
    have z : (if F1 a = F a then F2 a else none) = some o := z
    by_cases w : F1 a = F a
    · rw [if_pos w] at z; exact ⟨z, w⟩
    · rw [if_neg w] at z; cases z
  refine ⟨F3, ⟨fun a o z => ?_, fun a o z => e.fh a o (old a o z).1, e.h, fun a o z => ?_⟩, fun a o z => ?_, fun a o z => (old a o z).1⟩
  · have z1 := sF a o z
    show (if F1 a = F a then F2 a else none) = some o
    rw [if_pos (z1.trans z.symm)]
    exact e.f a o z1
  · obtain ⟨z1, z2⟩ := old a o z
    rcases e.new a o z1 with y | y
    · exact .inl (z2 ▸ y)
    · exact .inr y
  · by_cases w : F1 a = F a
    · exact .inl (show (if F1 a = F a then F2 a else none) = some o by rw [if_pos w]; exact z)
    · cases e1 : F1 a with
      | none =>
        cases e' : F a with
        | none => rw [e1, e'] at w; exact (w rfl).elim
        | some u => rw [sF a u e'] at e1; cases e1
      | some u =>
        rcases hF1 a u e1 with y | ⟨_, p', u', rfl, y, y'⟩
        · rw [e1, y] at w; exact (w rfl).elim
        · have z2 := e.fh _ _ z
          rw [e.h _ _ y] at z2; cases z2
          exact .inr y'
theorem le_view (ha : LE G W ta Ta) : LE G W (dView ta) Ta := fun F0 H0 ρ F σ H Q QX QV S q hq hx => by
  obtain ⟨F1, S1, sF, hF1⟩ := S.view
  have hF1' : ∀ a o, F1 a = some o → F a = some o ∨ (F a = none ∧ (∃ p u, p = a ∧ H p = some u ∧ ((∃ vs, u = HO.lst vs) ∨ ∃ kvs, u = HO.dT kvs))) := fun a o z => (hF1 a o z).imp id fun y => ⟨y.1, y.2.1⟩
  refine ha F0 H0 (view ρ) F1 σ H _ _ QV S1 q (fun s v F2 H2 p q2 => ?_) (fun x qx cls d F2 H2 e r => ?_)
  · obtain ⟨im, q2⟩ := q2
    obtain ⟨F3, e3, keep, old⟩ := hide sF hF1' p.e
    have pv := p.v
    refine hq s v F3 H2 ⟨e3, ?_⟩ q2
    cases s with
    | un => exact pv
    | val d => exact Rep.imm keep d im pv
    | own l =>
      obtain ⟨a, vs, h1, h2, h3, h4, h5⟩ := pv
      refine ⟨a, vs, h1, h2, ?_, h4, RepL.imm keep l im h5⟩
      cases e : F3 a with
      | none => rfl
      | some o => rw [old a o e] at h3; cases h3
    | ownd ks us => cases im
  · obtain ⟨im, qx⟩ := qx
    obtain ⟨F3, e3, keep, old⟩ := hide sF hF1' e
    refine hx x qx cls d F3 H2 e3 ⟨r.1, r.2.imp id fun ⟨dd, fs, vs, h1, h2, h3, h4⟩ => ⟨dd, fs, vs, h1, (keep _ _ h2).resolve_right (fun z => by rcases z with ⟨_, z⟩ | ⟨_, z⟩ <;> cases z), RepL.imm keep _ im h3, h4⟩⟩
end
end DL

/- DLc -/
namespace DL
open PySem PySem.Spec PyProof.Rows L2
section
variable {G : Gx} {F H : Hp}
theorem rep_int {d : D} {i : Int} (h : Rep G F d (.int i)) : d = .int i := by
  cases d with
  | int j => have e : V.int i = V.int j := h; cases e; rfl
  | tup l => obtain ⟨a, vs, e, _⟩ := h; cases e
  | lst l => obtain ⟨a, vs, e, _⟩ := h; cases e
  | dct l m => obtain ⟨a, vs, e, _⟩ := h; cases e
  | obj l m => obtain ⟨a, e, _⟩ := h; cases e
  | non => have e : V.int i = V.non := h; cases e
  | bl b => have e : V.int i = V.bl b := h; cases e
  | str b => have e : V.int i = V.str ⟨b.toArray⟩ := h; cases e
  | fn b => have e : V.int i = V.ref (G.cm b) := h; cases e
theorem lr_int {C : Int → Int → Prop} {g : Int → Int → Int} {f : D → D → DK → Prop} (hf : ∀ i j Q, f (.int i) (.int j) Q → C i j ∧ Q (.val (.int (g i j)))) (ho : ∀ x y Q, f x y Q → ∃ i j, x = .int i ∧ y = .int j) : LR2 G f (rI C fun i j => .int (g i j)) :=
  fun F H x y u v Q QV e rx ry q hq => by
    obtain ⟨i, j, rfl, rfl⟩ := ho x y Q q
    obtain ⟨c, q⟩ := hf i j Q q
    exact ⟨i, j, rx, ry, c, hq _ _ F H (.val (.refl e) (show Rep G F (.int (g i j)) (.int (g i j)) from rfl)) q⟩
theorem two_ints {f : D → D → DK → Prop} {x y : D} {Q : DK} (h : f x y Q) (h' : ∀ x y, (∀ i j, x = D.int i → y = D.int j → False) → ¬ f x y Q) : ∃ i j, x = D.int i ∧ y = D.int j := by
  by_cases w : ∃ i j, x = D.int i ∧ y = D.int j
  · exact w
  · exact (h' x y (fun i j e1 e2 => w ⟨i, j, e1, e2⟩) h).elim
theorem lr_sub : LR2 G oSub (rI (fun _ _ => True) fun i j => .int (i - j)) := lr_int (fun _ _ _ q => ⟨trivial, q⟩) fun x y Q q => by cases x <;> cases y <;> first | exact ⟨_, _, rfl, rfl⟩ | exact q.elim
theorem lr_mul : LR2 G oMul (rI (fun i j => Sz i j) fun i j => .int (i * j)) := lr_int (fun _ _ _ q => q) fun x y Q q => by cases x <;> cases y <;> first | exact ⟨_, _, rfl, rfl⟩ | exact q.elim
theorem lr_div : LR2 G oDiv (rI (fun i j => DivOk i j) fun i j => .int (i.fdiv j)) := lr_int (fun _ _ _ q => q) fun x y Q q => by cases x <;> cases y <;> first | exact ⟨_, _, rfl, rfl⟩ | exact q.elim
theorem lr_mod : LR2 G oMod (rI (fun _ j => j ≠ 0) fun i j => .int (i.fmod j)) := lr_int (fun _ _ _ q => q) fun x y Q q => by cases x <;> cases y <;> first | exact ⟨_, _, rfl, rfl⟩ | exact q.elim
theorem lr_pow : LR2 G oPow (rI CPow fun i j => .int (i ^ j.toNat)) := lr_int (fun _ _ _ q => q) fun x y Q q => by cases x <;> cases y <;> first | exact ⟨_, _, rfl, rfl⟩ | exact q.elim
theorem bits_eq (i : Int) : bits i = Builtin.Int.intBits i := by
  unfold bits Builtin.Int.intBits
  by_cases h : i = 0
  · subst h; rfl
  · rw [if_neg h]
    first
      | (rw [if_neg (by simpa using h)])
      | (simp [h])
theorem lr_shl : LR2 G oShl (rI CShl fun i j => .int (i * 2 ^ j.toNat)) := lr_int (fun i j _ q => ⟨⟨q.1.1, by rw [← bits_eq]; have := q.1.2; omega⟩, q.2⟩) fun x y Q q => by cases x <;> cases y <;> first | exact ⟨_, _, rfl, rfl⟩ | exact q.elim
variable {X : Cx}
theorem op_subD : OpR X (binaryOp .Sub) (rI (fun _ _ => True) fun i j => .int (i - j)) := opI fun _ _ _ _ _ _ _ _ q => sub_int q
theorem szOk {i j : Int} (h : Sz i j) : IntMulOk i j := by
  rcases h with h | h | h
  · exact IntMulOk.of_left (by rw [← bits_eq]; exact h)
  · exact IntMulOk.of_right (by rw [← bits_eq]; exact h)
  · exact CMulX.ok (by unfold CMulX; rw [← bits_eq, ← bits_eq]; omega)
theorem op_mulD : OpR X (binaryOp .Mult) (rI (fun i j => Sz i j) fun i j => .int (i * j)) := opI fun i j _ _ _ _ _ hc q => mul_int q (szOk hc)
theorem divOk {i j : Int} (h : DivOk i j) : Builtin.divisionGoesByPylong i j = false := by
  obtain ⟨hj, h⟩ := h
  rcases h with z | z
  · exact PyProof.noPylong_of_log2 z
  · rw [bits_eq, bits_eq] at z
    unfold Builtin.Int.intBits at z
    rw [if_neg (show ¬ (j == 0) = true by simpa using hj)] at z
    show (decide ((if j == 0 then 0 else j.natAbs.log2 / 30 + 1) > 300) && decide ((if i == 0 then 0 else i.natAbs.log2 / 30 + 1) > (if j == 0 then 0 else j.natAbs.log2 / 30 + 1) + 150)) = false
    rw [if_neg (show ¬ (j == 0) = true by simpa using hj)]
    have k : ¬ ((if i == 0 then 0 else i.natAbs.log2 / 30 + 1) > j.natAbs.log2 / 30 + 1 + 150) := by
      split at z
      · rename_i y
        rw [if_pos y]
        omega
      · rename_i y
        rw [if_neg y]
        omega
    rw [decide_eq_false k, Bool.and_false]
theorem op_divD : OpR X (binaryOp .FloorDiv) (rI (fun i j => DivOk i j) fun i j => .int (i.fdiv j)) := opI fun i j _ _ _ _ _ hc q => floordiv_int hc.1 q (.inl (divOk hc))
def rCatG (K : PySem.W.Frag) : R2 := fun x y H Q => ∃ l b xs zs, x = .ref l ∧ y = .ref b ∧ SqL K H l xs ∧ SqL K H b zs ∧ xs.length + zs.length ≤ sizeLine ∧ ∀ p, H p = none → Q (.ref p) (upd H p (.lst (xs ++ zs)))
theorem op_catG : OpR X (binaryOp .Add) (rCatG X.K) := by
  intro pins s σ H x y v u Q I rx ry h
  obtain ⟨l, b, xs, zs, rfl, rfl, hH, hB, hz, q⟩ := h
  cases rx
  cases ry
  obtain ⟨its, r, ⟨⟨cls, dd, data, sl⟩, n, ho, hc, hd0, hd⟩, _⟩ := I.list hH
  obtain ⟨its2, r2, ⟨⟨cls2, dd2, data2, sl2⟩, n2, ho2, hc2, hd02, hd2⟩, _⟩ := I.list hB
  simp only at hc hd hc2 hd2
  subst hc hd hc2 hd2
  have e : its.toArray ++ its2.toArray = (its ++ its2).toArray := by simp
  have e1 := r.length
  have e2 := r2.length
  refine concat_meets ⟨_, ho, rfl⟩ ⟨_, ho2, rfl⟩ noFill_list_add seq_list_add PySem.F.slot_list_add PySem.F.entry_list_add (PySem.F.args_list_add_2 _ _) (PyProof.Rows.list_addW l b its.toArray its2.toArray n n2 dd dd2 sl sl2 (by simp only [List.size_toArray]; omega)) ⟨ho, ho2, ?_⟩
  rw [e]
  exact ⟨.ref _, _, I.lnew (t' := s.toks) (r.append r2) (by rw [List.length_append]; omega), rfl, q _ I.fresh⟩
def rAddD (K : PySem.W.Frag) : R2 := fun x y H Q => rI0 (fun i j => .int (i + j)) x y H Q ∨ (∃ i j, x = .str i ∧ y = .str j ∧ i.length + j.length ≤ sizeLine ∧ Q (.str (i ++ j)) H) ∨ rCatG K x y H Q ∨ rCatT K x y H Q
theorem op_addD : OpR X (binaryOp .Add) (rAddD X.K) := op_add.or (op_add_str.or (op_catG.or op_catT))
theorem str_cat (a b : List Nat) : (⟨a.toArray⟩ : Str) ++ (⟨b.toArray⟩ : Str) = ⟨(a ++ b).toArray⟩ := by
  show (⟨a.toArray ++ b.toArray⟩ : Str) = _
  simp
theorem lr_add : LR2 G oAdd (rAddD G.K) := fun F H x y u v Q QV e rx ry q hq => by
  cases x <;> cases y <;> first | exact q.elim | skip
  · exact .inl ⟨_, _, rx, ry, hq _ _ F H (.val (.refl e) (show Rep G F (.int _) (.int _) from rfl)) q⟩
  · rename_i a b
    refine .inr (.inl ⟨_, _, rx, ry, ?_, ?_⟩)
    · rw [sizeLine_eq]
      have := q.1
      show (a.toArray).size + (b.toArray).size ≤ _
      simpa using this
    · rw [str_cat]
      exact hq _ _ F H (.val (.refl e) (show Rep G F (.str (a ++ b)) (.str ⟨(a ++ b).toArray⟩) from rfl)) q.2
  · obtain ⟨a, vs, rfl, h1, h2⟩ := rx
    obtain ⟨b, us, rfl, h3, h4⟩ := ry
    obtain ⟨⟨n1, n2, n3⟩, q⟩ := q
    refine .inr (.inr (.inr ⟨a, b, vs, us, rfl, rfl, sqT_mono e h1.1, sqT_mono e h3.1, fun z => n1 (List.eq_nil_of_length_eq_zero (by rw [← h2.length, z]; rfl)), by rw [h2.length, h4.length, sizeLine_eq]; exact n3, fun z => absurd (List.eq_nil_of_length_eq_zero (by rw [← h4.length, z]; rfl)) n2, fun _ p hp => ?_⟩))
    exact hq _ _ (upd F p (.tup (vs ++ us))) _ (.val (.put e hp) (by unfold Rep; exact ⟨p, _, rfl, ⟨.inl (.inl upd_same), fun _ => upd_same⟩, RepL.mono (same_upd (e.free hp)) _ (h2.append h4)⟩)) q
  · obtain ⟨a, vs, rfl, h1, h2⟩ := rx
    obtain ⟨b, us, rfl, h3, h4⟩ := ry
    refine .inr (.inr (.inl ⟨a, b, vs, us, rfl, rfl, sqL_mono e h1, sqL_mono e h3, ?_, fun p hp => hq _ _ F _ (.mkOwn (.refl e) hp (h2.append h4)) q.2⟩))
    rw [h2.length, h4.length, sizeLine_eq]
    exact q.1
theorem lr_cmp {p : Int → Int → Bool} : LR2 G (cB (oCmp p)) (rI0 fun i j => .bl (p i j)) := fun F H x y u v Q QV e rx ry q hq => by
  cases x <;> cases y <;> first | exact q.elim | skip
  exact ⟨_, _, rx, ry, hq _ _ F H (.val (.refl e) (show Rep G F (.bl _) (.bl _) from rfl)) q⟩
mutual
def toPy : D → PyData
  | .non => .none
  | .bl b => .bool b
  | .int i => .int i
  | .str s => .str ⟨s.toArray⟩
  | .tup l => .tuple (toPyL l)
  | .lst l => .list (toPyL l)
  | _ => .none
def toPyL : List D → List PyData
  | [] => []
  | d :: l => toPy d :: toPyL l
end
mutual
theorem dat_lay : ∀ (n : Nat) (d : D), d.dat n = true → (toPy d).canLay0 = true ∧ (toPy d).depth ≤ n
  | n, .non, _ => ⟨rfl, Nat.zero_le _⟩
  | n, .bl _, _ => ⟨rfl, Nat.zero_le _⟩
  | n, .int _, _ => ⟨rfl, Nat.zero_le _⟩
  | n, .str s, h => by
    refine ⟨?_, Nat.zero_le _⟩
    cases n <;> (show (s.toArray).all (fun c => decide (c < 0x110000)) = true; rw [List.all_toArray]; exact h)
  | 0, .tup _, h => by cases h
  | n + 1, .tup l, h => by
    obtain ⟨h1, h2⟩ := datL_lay n l h
    exact ⟨h1, Nat.succ_le_succ h2⟩
  | 0, .lst _, h => by cases h
  | n + 1, .lst l, h => by
    obtain ⟨h1, h2⟩ := datL_lay n l h
    exact ⟨h1, Nat.succ_le_succ h2⟩
  | n, .dct _ _, h => by cases n <;> cases h
  | n, .obj _ _, h => by cases n <;> cases h
  | n, .fn _, h => by cases n <;> cases h
theorem datL_lay : ∀ (n : Nat) (l : List D), datL n l = true → PyData.canLayAll0 (toPyL l) = true ∧ PyData.depthAll (toPyL l) ≤ n
  | n, [], _ => ⟨rfl, Nat.zero_le _⟩
  | n, d :: l, h => by
    have h' : d.dat n = true ∧ datL n l = true := by
      cases n <;> exact Bool.and_eq_true_iff.mp h
    obtain ⟨a1, a2⟩ := dat_lay n d h'.1
    obtain ⟨b1, b2⟩ := datL_lay n l h'.2
    exact ⟨Bool.and_eq_true_iff.mpr ⟨a1, b1⟩, Nat.max_le.mpr ⟨a2, b2⟩⟩
end
theorem dat_shaped {d : D} (h : d.dat 30 = true) : SeqAt.shaped (toPy d) = true := by
  obtain ⟨h1, h2⟩ := dat_lay 30 d h
  unfold SeqAt.shaped
  rw [h1, decide_eq_true (by omega : (toPy d).depth ≤ 64)]
  rfl
theorem strEq (a b : List Nat) : ((⟨a.toArray⟩ : Str) == ⟨b.toArray⟩) = (a == b) := by
  by_cases h : a = b
  · subst h; simp
  · have h' : ¬ (⟨a.toArray⟩ : Str) = ⟨b.toArray⟩ := fun e => h (by injection e with e; simpa using congrArg Array.toList e)
    rw [beq_eq_false_iff_ne.mpr h', beq_eq_false_iff_ne.mpr h]
mutual
theorem eq_eqv : ∀ (n m : Nat) (d e : D), d.dat n = true → e.dat m = true → PyData.eqv (toPy d) (toPy e) = D.eq d e
  | n, m, .non, e, h, h' => by cases e <;> first | rfl | (cases m <;> cases h')
  | n, m, .bl a, e, h, h' => by cases e <;> first | rfl | (cases m <;> cases h')
  | n, m, .int a, e, h, h' => by cases e <;> first | rfl | (cases m <;> cases h')
  | n, m, .str a, e, h, h' => by cases e <;> first | rfl | exact strEq _ _ | (cases m <;> cases h')
  | 0, m, .tup l, e, h, h' => by cases h
  | n + 1, m, .tup l, e, h, h' => by
    cases e with
    | tup k =>
      cases m with
      | zero => cases h'
      | succ m => exact eqL_eqv n m l k h h'
    | _ => first | rfl | (cases m <;> cases h')
  | 0, m, .lst l, e, h, h' => by cases h
  | n + 1, m, .lst l, e, h, h' => by
    cases e with
    | lst k =>
      cases m with
      | zero => cases h'
      | succ m => exact eqL_eqv n m l k h h'
    | _ => first | rfl | (cases m <;> cases h')
  | n, m, .dct _ _, e, h, h' => by cases n <;> cases h
  | n, m, .obj _ _, e, h, h' => by cases n <;> cases h
  | n, m, .fn _, e, h, h' => by cases n <;> cases h
theorem eqL_eqv : ∀ (n m : Nat) (d e : List D), datL n d = true → datL m e = true → PyData.eqvAll (toPyL d) (toPyL e) = eqL d e
  | n, m, [], [], h, h' => rfl
  | n, m, [], _ :: _, h, h' => rfl
  | n, m, _ :: _, [], h, h' => rfl
  | n, m, a :: l, b :: k, h, h' => by
    have g : a.dat n = true ∧ datL n l = true := by cases n <;> exact Bool.and_eq_true_iff.mp h
    have g' : b.dat m = true ∧ datL m k = true := by cases m <;> exact Bool.and_eq_true_iff.mp h'
    show (PyData.eqv (toPy a) (toPy b) && PyData.eqvAll (toPyL l) (toPyL k)) = (D.eq a b && eqL l k)
    rw [eq_eqv n m a b g.1 g'.1, eqL_eqv n m l k g.2 g'.2]
end
mutual
theorem rep_dp {F H : Hp} (e : Same F H) : ∀ (n : Nat) (d : D) (v : V), d.dat n = true → Rep G F d v → Dp G.K H v (toPy d)
  | n, .non, _, _, h => by rw [show _ = V.non from h]; exact .non
  | n, .bl b, _, _, h => by rw [show _ = V.bl b from h]; exact .bl b
  | n, .int b, _, _, h => by rw [show _ = V.int b from h]; exact .int b
  | n, .str b, _, _, h => by rw [show _ = V.str ⟨b.toArray⟩ from h]; exact .str _
  | 0, .tup l, _, w, h => by cases w
  | n + 1, .tup l, _, w, ⟨a, vs, e1, h1, h2⟩ => by subst e1; exact .tup (sqT_mono e h1.1) (repL_dp e n l vs w h2)
  | 0, .lst l, _, w, h => by cases w
  | n + 1, .lst l, _, w, ⟨a, vs, e1, h1, h2⟩ => by subst e1; exact .lst (sqL_mono e h1) (repL_dp e n l vs w h2)
  | n, .dct _ _, _, w, h => by cases n <;> cases w
  | n, .obj _ _, _, w, h => by cases n <;> cases w
  | n, .fn _, _, w, h => by cases n <;> cases w
theorem repL_dp {F H : Hp} (e : Same F H) : ∀ (n : Nat) (d : List D) (v : List V), datL n d = true → RepL G F d v → DpAll G.K H v (toPyL d)
  | n, [], _, _, h => by rw [show _ = ([] : List V) from h]; exact .nil
  | n, d :: l, _, w, ⟨v, r, e1, h1, h2⟩ => by
    have g : d.dat n = true ∧ datL n l = true := by cases n <;> exact Bool.and_eq_true_iff.mp w
    subst e1; exact .cons (rep_dp e n d v g.1 h1) (repL_dp e n l r g.2 h2)
end
theorem lr_eq : LR2 G (cB bEq) (rEqD G.K) := fun F H x y u v Q QV e rx ry q hq => by
  obtain ⟨⟨h1, h2⟩, q⟩ := bEq_any q
  refine ⟨_, _, rep_dp e 30 x u h1 rx, rep_dp e 30 y v h2 ry, dat_shaped h1, dat_shaped h2, ?_⟩
  rw [eq_eqv 30 30 x y h1 h2]
  exact hq _ _ F H (.val (.refl e) (show Rep G F (.bl _) (.bl _) from rfl)) q
theorem lr_ne : LR2 G (cB bNe) (rNeD G.K) := fun F H x y u v Q QV e rx ry q hq => by
  obtain ⟨⟨h1, h2⟩, q⟩ := bNe_any q
  refine ⟨_, _, rep_dp e 30 x u h1 rx, rep_dp e 30 y v h2 ry, dat_shaped h1, dat_shaped h2, ?_⟩
  rw [eq_eqv 30 30 x y h1 h2]
  exact hq _ _ F H (.val (.refl e) (show Rep G F (.bl _) (.bl _) from rfl)) q
theorem rep_non {F : Hp} {d : D} {v : V} (r : Rep G F d v) : decide (v = .non) = d.isNone := by
  cases d with
  | non => rw [show v = V.non from r]; rfl
  | bl b => rw [show v = V.bl b from r]; rfl
  | int b => rw [show v = V.int b from r]; rfl
  | str b => rw [show v = V.str ⟨b.toArray⟩ from r]; rfl
  | fn b => rw [show v = V.ref (G.cm b) from r]; rfl
  | tup l => obtain ⟨a, vs, rfl, _⟩ := r; rfl
  | lst l => obtain ⟨a, vs, rfl, _⟩ := r; rfl
  | dct l m => obtain ⟨a, vs, rfl, _⟩ := r; rfl
  | obj l m => obtain ⟨a, rfl, _⟩ := r; rfl
theorem le_isN {W : WX} {ta : DE} {Ta : TE} (ha : LE G W ta Ta) : LE G W (dUn oIsN ta) (tIsN Ta) := fun F0 H0 ρ F σ H Q QX QV S q hq hx =>
  ha.v S q (fun x u F1 H1 e1 r1 q1 => by rw [rep_non r1]; exact hq _ _ F1 H1 (.val e1 (show Rep G F1 (.bl _) (.bl _) from rfl)) q1) hx
theorem le_notN {W : WX} {ta : DE} {Ta : TE} (ha : LE G W ta Ta) : LE G W (dUn oNotN ta) (tNotN Ta) := fun F0 H0 ρ F σ H Q QX QV S q hq hx =>
  ha.v S q (fun x u F1 H1 e1 r1 q1 => by rw [rep_non r1]; exact hq _ _ F1 H1 (.val e1 (show Rep G F1 (.bl _) (.bl _) from rfl)) q1) hx
theorem lr_isB : LR2 G oIsB rIsB := fun F H x y u v Q QV e rx ry q hq => by
  cases x <;> cases y <;> first | exact q.elim | skip
  exact ⟨_, _, rx, ry, hq _ _ F H (.val (.refl e) (show Rep G F (.bl _) (.bl _) from rfl)) q⟩
theorem lr_notB : LR2 G oNotB rNotB := fun F H x y u v Q QV e rx ry q hq => by
  cases x <;> cases y <;> first | exact q.elim | skip
  exact ⟨_, _, rx, ry, hq _ _ F H (.val (.refl e) (show Rep G F (.bl _) (.bl _) from rfl)) q⟩
theorem lr_neg : LR1 G oNeg (rU fun i => .int (-i)) := fun F H x u Q QV e rx q hq => by
  cases x <;> first | exact q.elim | skip
  exact ⟨_, rx, hq _ _ F H (.val (.refl e) (show Rep G F (.int _) (.int _) from rfl)) q⟩
theorem ix_at {F : Hp} {l : List D} {vs : List V} {i : Int} {d : D} (r : RepL G F l vs) (h : ixI l i = some d) : ∃ v, atI vs i = some v ∧ Rep G F d v := by
  rw [ixI_eq] at h
  unfold atI
  have e : L2.ixN vs.length i = DL.ixN l.length i := by rw [r.length]; rfl
  rw [e]
  cases hj : DL.ixN l.length i with
  | none => rw [hj] at h; cases h
  | some j => rw [hj] at h; exact r.get h
theorem lr_ix : LR2 G oIx (rIx G.K) := fun F H x y u v Q QV e rx ry q hq => by
  cases x <;> cases y <;> first | exact q.elim | skip
  · rename_i l i
    have q : optD (ixI l i) fun d => Q (.val d) := q
    cases h : ixI l i with
    | none => rw [h] at q; exact q.elim
    | some d =>
      rw [h] at q
      obtain ⟨a, vs, rfl, h1, h2⟩ := rx
      obtain ⟨w, h3, h4⟩ := ix_at h2 h
      exact .inr (.inl ⟨a, vs, _, w, rfl, ry, sqT_mono e h1.1, h3, hq _ _ F H (.val (.refl e) h4) q⟩)
  · rename_i l i
    have q : optD (ixI l i) fun d => Q (.val d) := q
    cases h : ixI l i with
    | none => rw [h] at q; exact q.elim
    | some d =>
      rw [h] at q
      obtain ⟨a, vs, rfl, h1, h2⟩ := rx
      obtain ⟨w, h3, h4⟩ := ix_at h2 h
      exact .inl ⟨a, vs, _, w, rfl, ry, sqL_mono e h1, h3, hq _ _ F H (.val (.refl e) h4) q⟩
theorem one_rep {F : Hp} {d : D} {us : List V} (r : RepL G F [d] us) : ∃ v, us = [v] ∧ Rep G F d v := by
  obtain ⟨v, r', e, h, h'⟩ := r
  exact ⟨v, by rw [e, show r' = [] from h'], h⟩
theorem two_rep {F : Hp} {d e : D} {us : List V} (r : RepL G F [d, e] us) : ∃ v w, us = [v, w] ∧ Rep G F d v ∧ Rep G F e w := by
  obtain ⟨v, r', e1, h, h'⟩ := r
  obtain ⟨w, rfl, h2⟩ := one_rep h'
  exact ⟨v, w, e1, h, h2⟩
theorem rint {F : Hp} {d : Int} {v : V} (r : Rep G F (.int d) v) : v = .int d := r
theorem fin_int {F H : Hp} {i : Int} {Q : DK} {QV : VK} (e : Same F H) (hq : ∀ s w F' H', Post G F H s w F' H' → Q s → QV w H') (q : Q (.val (.int i))) : QV (.int i) H := hq _ _ F H (.val (.refl e) (show Rep G F (.int _) (.int _) from rfl)) q
theorem lr_len : LRs G fLen (fun xs H Q => ∃ p ys, xs = [V.ref p] ∧ (SqL G.K H p ys ∨ SqT G.K H p ys) ∧ Q (.int ys.length) H) := fun F H xs us Q QV e r q hq => by
  unfold fLen at q
  split at q
  · obtain ⟨v, rfl, a, vs, rfl, h1, h2⟩ := one_rep r
    exact ⟨a, vs, rfl, .inr (sqT_mono e h1.1), by rw [h2.length]; exact fin_int e hq q⟩
  · obtain ⟨v, rfl, a, vs, rfl, h1, h2⟩ := one_rep r
    exact ⟨a, vs, rfl, .inl (sqL_mono e h1), by rw [h2.length]; exact fin_int e hq q⟩
  · exact q.elim
theorem lr_abs : LRs G fAbs (fun xs H Q => ∃ i, xs = [V.int i] ∧ Q (.int (if i < 0 then -i else i)) H) := fun F H xs us Q QV e r q hq => by
  unfold fAbs at q
  split at q
  · rename_i i
    obtain ⟨v, rfl, h⟩ := one_rep r
    refine ⟨i, by rw [rint h], ?_⟩
    have z : (if i < 0 then -i else i) = (i.natAbs : Int) := by split <;> omega
    rw [z]
    exact fin_int e hq q
  · exact q.elim
theorem lr_max : LRs G fMax (fun xs H Q => ∃ i j, xs = [V.int i, V.int j] ∧ Q (.int (if j > i then j else i)) H) := fun F H xs us Q QV e r q hq => by
  unfold fMax at q
  split at q
  · rename_i i j
    obtain ⟨v, w, rfl, h, h'⟩ := two_rep r
    exact ⟨i, j, by rw [rint h, rint h'], fin_int e hq q⟩
  · exact q.elim
theorem lr_min : LRs G fMin (fun xs H Q => ∃ i j, xs = [V.int i, V.int j] ∧ Q (.int (if j < i then j else i)) H) := fun F H xs us Q QV e r q hq => by
  unfold fMin at q
  split at q
  · rename_i i j
    obtain ⟨v, w, rfl, h, h'⟩ := two_rep r
    exact ⟨i, j, by rw [rint h, rint h'], fin_int e hq q⟩
  · exact q.elim
theorem lr_int1 : LRs G fInt (fun xs H Q => (∃ i, xs = [V.int i] ∧ Q (.int i) H) ∨ ∃ k, xs = [V.bl k] ∧ Q (.int (if k then 1 else 0)) H) := fun F H xs us Q QV e r q hq => by
  unfold fInt at q
  split at q
  · rename_i i
    obtain ⟨v, rfl, h⟩ := one_rep r
    exact .inl ⟨i, by rw [rint h], fin_int e hq q⟩
  · rename_i b
    obtain ⟨v, rfl, h⟩ := one_rep r
    exact .inr ⟨b, by rw [show v = V.bl b from h], fin_int e hq q⟩
  · exact q.elim
def rDivmod : List V → Hp → VK → Prop := fun xs H Q => ∃ i j, xs = [.int i, .int j] ∧ DivOk i j ∧ ∀ p, H p = none → Q (.ref p) (upd H p (.tup [.int (i.fdiv j), .int (i.fmod j)]))
theorem call_divmodD : CallR X (.builtin "divmod") rDivmod := by
  intro pins s σ H xs us Q I r h
  obtain ⟨i, j, rfl, hd, q⟩ := h
  obtain ⟨u, w', rfl, ⟨t, rfl⟩, ⟨t', rfl⟩⟩ := vals2 r
  refine divmod_int hd.1 ?_ (.inl (divOk hd))
  have hn : H s.heap.objs.size = none := I.hok.fresh (Nat.le_refl _)
  refine ⟨.ref s.heap.objs.size, _, ?_, rfl, q _ hn⟩
  refine I.laid (fun b o e => Heap.get?_push_of_some _ e) (Nat.le_refl _) ⟨by simp only [List.length_cons, List.length_nil]; rw [sizeLine_eq]; decide, [.int (i.fdiv j) s.toks, .int (i.fmod j) (s.toks + 1)], .cons ⟨_, rfl⟩ (.cons ⟨_, rfl⟩ .nil), ?_⟩
  exact ⟨_, Heap.get?_push_size s.heap rfl, rfl, 0, rfl⟩
theorem lr_divmod : LRs G fDivmod rDivmod := fun F H xs us Q QV e r q hq => by
  unfold fDivmod at q
  split at q
  · rename_i i j
    obtain ⟨v, w, rfl, h, h'⟩ := two_rep r
    refine ⟨i, j, by rw [rint h, rint h'], q.1, fun p hp => hq _ _ (upd F p _) _ (.val (.put e hp) ?_) q.2⟩
    unfold Rep
    exact ⟨p, _, rfl, ⟨.inl (.inl upd_same), fun _ => upd_same⟩, _, _, rfl, rfl, _, _, rfl, rfl, rfl⟩
  · exact q.elim
end
section
variable {G : Gx}
theorem sqL_ty {K : PySem.W.Frag} {H : Hp} {a : Addr} {xs : List V} (h : SqL K H a xs) : TyX K H (.ref a) (.type "list") := by
  rcases h with (h | ⟨o, h⟩) | ⟨o, its, n, h, c, _⟩
  · exact .base (.lst h)
  · exact .base (.frz h)
  · exact .kList h c
theorem sqT_ty {K : PySem.W.Frag} {H : Hp} {a : Addr} {xs : List V} (h : SqT K H a xs) : TyX K H (.ref a) (.type "tuple") := by
  rcases h with (h | ⟨o, h⟩) | ⟨o, its, n, h, c, _⟩
  · exact .base (.tup h)
  · exact .fTuple h
  · exact .kTuple h c
def D.tyn : D → String
  | .non => "NoneType"
  | .bl _ => "bool"
  | .int _ => "int"
  | .str _ => "str"
  | .tup _ => "tuple"
  | .lst _ => "list"
  | _ => "object"
theorem rep_ty {F H : Hp} {d : D} {v : V} (e : Same F H) (hp : d.plain = true) (r : Rep G F d v) : TyX G.K H v (.type d.tyn) := by
  cases d with
  | non => rw [show v = V.non from r]; exact .base .non
  | bl b => rw [show v = V.bl b from r]; exact .base (.bl b)
  | int b => rw [show v = V.int b from r]; exact .base (.int b)
  | str b => rw [show v = V.str ⟨b.toArray⟩ from r]; exact .base (.str _)
  | tup l => obtain ⟨a, vs, rfl, h, _⟩ := r; exact sqT_ty (sqT_mono e h.1)
  | lst l => obtain ⟨a, vs, rfl, h, _⟩ := r; exact sqL_ty (sqL_mono e h)
  | fn b => cases hp
  | dct l m => cases hp
  | obj l m => cases hp
/-- p is what isinstance(x, T) tells of plain x -/
def IsiOk (T : String) (p : D → Bool) : Prop := ∀ d : D, d.plain = true → kitB d.tyn T = some (p d)
theorem isi_int : IsiOk "int" D.isInt := fun d h => by
  cases d with
  | non => exact (by decide +kernel : kitB "NoneType" "int" = some false)
  | bl b => exact (by decide +kernel : kitB "bool" "int" = some true)
  | int b => exact (by decide +kernel : kitB "int" "int" = some true)
  | str b => exact (by decide +kernel : kitB "str" "int" = some false)
  | tup l => exact (by decide +kernel : kitB "tuple" "int" = some false)
  | lst l => exact (by decide +kernel : kitB "list" "int" = some false)
  | dct l m => exact Bool.noConfusion (show false = true from h)
  | obj l m => exact Bool.noConfusion (show false = true from h)
  | fn l => exact Bool.noConfusion (show false = true from h)
theorem isi_bool : IsiOk "bool" D.isBool := fun d h => by
  cases d with
  | non => exact (by decide +kernel : kitB "NoneType" "bool" = some false)
  | bl b => exact (by decide +kernel : kitB "bool" "bool" = some true)
  | int b => exact (by decide +kernel : kitB "int" "bool" = some false)
  | str b => exact (by decide +kernel : kitB "str" "bool" = some false)
  | tup l => exact (by decide +kernel : kitB "tuple" "bool" = some false)
  | lst l => exact (by decide +kernel : kitB "list" "bool" = some false)
  | dct l m => exact Bool.noConfusion (show false = true from h)
  | obj l m => exact Bool.noConfusion (show false = true from h)
  | fn l => exact Bool.noConfusion (show false = true from h)
theorem isi_tuple : IsiOk "tuple" D.isTuple := fun d h => by
  cases d with
  | non => exact (by decide +kernel : kitB "NoneType" "tuple" = some false)
  | bl b => exact (by decide +kernel : kitB "bool" "tuple" = some false)
  | int b => exact (by decide +kernel : kitB "int" "tuple" = some false)
  | str b => exact (by decide +kernel : kitB "str" "tuple" = some false)
  | tup l => exact (by decide +kernel : kitB "tuple" "tuple" = some true)
  | lst l => exact (by decide +kernel : kitB "list" "tuple" = some false)
  | dct l m => exact Bool.noConfusion (show false = true from h)
  | obj l m => exact Bool.noConfusion (show false = true from h)
  | fn l => exact Bool.noConfusion (show false = true from h)
theorem isi_list : IsiOk "list" D.isList := fun d h => by
  cases d with
  | non => exact (by decide +kernel : kitB "NoneType" "list" = some false)
  | bl b => exact (by decide +kernel : kitB "bool" "list" = some false)
  | int b => exact (by decide +kernel : kitB "int" "list" = some false)
  | str b => exact (by decide +kernel : kitB "str" "list" = some false)
  | tup l => exact (by decide +kernel : kitB "tuple" "list" = some false)
  | lst l => exact (by decide +kernel : kitB "list" "list" = some true)
  | dct l m => exact Bool.noConfusion (show false = true from h)
  | obj l m => exact Bool.noConfusion (show false = true from h)
  | fn l => exact Bool.noConfusion (show false = true from h)
theorem isi_str : IsiOk "str" D.isStr := fun d h => by
  cases d with
  | non => exact (by decide +kernel : kitB "NoneType" "str" = some false)
  | bl b => exact (by decide +kernel : kitB "bool" "str" = some false)
  | int b => exact (by decide +kernel : kitB "int" "str" = some false)
  | str b => exact (by decide +kernel : kitB "str" "str" = some true)
  | tup l => exact (by decide +kernel : kitB "tuple" "str" = some false)
  | lst l => exact (by decide +kernel : kitB "list" "str" = some false)
  | dct l m => exact Bool.noConfusion (show false = true from h)
  | obj l m => exact Bool.noConfusion (show false = true from h)
  | fn l => exact Bool.noConfusion (show false = true from h)
theorem le_isi {W : WX} {ta : DE} {Ta : TE} {T : String} {p : D → Bool} (hp : IsiOk T p) (ha : LE G W ta Ta) : LE G W (dUn (oIsi p) ta) (tCB (rIsi G.K) (tCons Ta (tCons (tC (.ty T)) tNil))) := fun F0 H0 ρ F σ H Q QX QV S q hq hx =>
  ha.v S q (fun x u F1 H1 e1 r1 q1 => ⟨u, .ty T, .type x.tyn, .type T, p x, rfl, .ty T, rep_ty e1.fh q1.1 r1, kit_ty (hp x q1.1), hq _ _ F1 H1 (.val e1 (show Rep G F1 (.bl _) (.bl _) from rfl)) q1.2⟩) hx
end
section
variable {G : Gx} {X : Cx} {F H : Hp}
theorem dat_mono : ∀ (n m : Nat) (d : D), n ≤ m → d.dat n = true → d.dat m = true := by
  have key : ∀ (n : Nat), (∀ (d : D) (m : Nat), n ≤ m → d.dat n = true → d.dat m = true) := by
    intro n
    induction n with
    | zero =>
      intro d m hm h
      cases d <;> cases m <;> first | exact h | cases h | rfl
    | succ n ih =>
      have ihL : ∀ (l : List D) (m : Nat), n ≤ m → datL n l = true → datL m l = true := by
        intro l
        induction l with
        | nil => intro m _ _; cases m <;> rfl
        | cons d l ihl =>
          intro m hm h
          have h' : d.dat n = true ∧ datL n l = true := by cases n <;> exact Bool.and_eq_true_iff.mp h
          have z : (d.dat m && datL m l) = true := Bool.and_eq_true_iff.mpr ⟨ih d m hm h'.1, ihl m hm h'.2⟩
          cases m <;> exact z
      intro d m hm h
      obtain ⟨m, rfl⟩ : ∃ m', m = m' + 1 := ⟨m - 1, by omega⟩
      cases d with
      | tup l => exact ihL l m (by omega) h
      | lst l => exact ihL l m (by omega) h
      | _ => first | exact h | rfl
  exact fun n m d hm h => key n d m hm h
theorem any_eqv {x : D} : ∀ {l : List D}, x.dat 29 = true → datL 29 l = true → ((toPyL l).any fun z => PyData.eqv z (toPy x)) = inD x l
  | [], _, _ => rfl
  | d :: l, hx, h => by
    have h' := Bool.and_eq_true_iff.mp (show (d.dat 29 && datL 29 l) = true from h)
    show (PyData.eqv (toPy d) (toPy x) || (toPyL l).any fun z => PyData.eqv z (toPy x)) = (D.eq d x || inD x l)
    rw [eq_eqv 29 29 d x h'.1 hx, any_eqv hx h'.2]
theorem in_parts {x : D} {l : List D} (h : (x.dat 29 && datL 29 l) = true) : (x.dat 29 = true ∧ datL 29 l = true) ∧ SeqAt.shaped (toPy x) = true ∧ SeqAt.shaped (.list (toPyL l)) = true := by
  have h' := Bool.and_eq_true_iff.mp h
  exact ⟨h', dat_shaped (dat_mono 29 30 x (by decide) h'.1), dat_shaped (d := .lst l) h'.2⟩
theorem lr_in : LR2 G (cB bIn) (rInD G.K) := fun F H x y u v Q QV e rx ry q hq => by
  cases y with
  | lst l =>
    obtain ⟨h, q⟩ := q
    obtain ⟨⟨h1, h2⟩, s1, s2⟩ := in_parts h
    refine ⟨toPy x, toPyL l, rep_dp e 29 x u h1 rx, rep_dp e 30 (.lst l) v h2 ry, s1, s2, ?_⟩
    rw [any_eqv h1 h2]
    exact hq _ _ F H (.val (.refl e) (show Rep G F (.bl _) (.bl _) from rfl)) q
  | _ => exact q.elim
theorem lr_notIn : LR2 G (cB bNotIn) (rNotInD G.K) := fun F H x y u v Q QV e rx ry q hq => by
  cases y with
  | lst l =>
    obtain ⟨h, q⟩ := q
    obtain ⟨⟨h1, h2⟩, s1, s2⟩ := in_parts h
    refine ⟨toPy x, toPyL l, rep_dp e 29 x u h1 rx, rep_dp e 30 (.lst l) v h2 ry, s1, s2, ?_⟩
    rw [any_eqv h1 h2]
    exact hq _ _ F H (.val (.refl e) (show Rep G F (.bl _) (.bl _) from rfl)) q
  | _ => exact q.elim
theorem idx_eqv {y : D} : ∀ {l : List D} {j : Nat}, y.dat 29 = true → datL 29 l = true → idxD y l = some j → ∃ z, (toPyL l)[j]? = some z ∧ PyData.eqv z (toPy y) = true ∧ ∀ (m : Nat) (z' : PyData), m < j → (toPyL l)[m]? = some z' → PyData.eqv z' (toPy y) = false
  | [], j, _, _, e => by cases e
  | d :: l, j, hy, h, e => by
    have h' := Bool.and_eq_true_iff.mp (show (d.dat 29 && datL 29 l) = true from h)
    have e1 := eq_eqv 29 29 d y h'.1 hy
    have e : (if D.eq d y = true then some 0 else (idxD y l).map (· + 1)) = some j := e
    by_cases hd : D.eq d y = true
    · rw [if_pos hd] at e
      cases e
      exact ⟨toPy d, rfl, by rw [e1, hd], fun m _ hm => absurd hm (Nat.not_lt_zero _)⟩
    · rw [if_neg hd] at e
      cases e2 : idxD y l with
      | none => rw [e2] at e; cases e
      | some i =>
        rw [e2] at e
        cases e
        obtain ⟨z, z1, z2, z3⟩ := idx_eqv hy h'.2 e2
        refine ⟨z, z1, z2, fun m z' hm hz => ?_⟩
        cases m with
        | zero =>
          have : z' = toPy d := (Option.some.inj hz).symm
          rw [this, e1]
          simpa using hd
        | succ m => exact z3 m z' (by have hm : m + 1 < i + 1 := hm; omega) hz
theorem le_index {W : WX} {ta : DE} {Ta : TE} {n : Nat} {ts : DA} {Ts : TA} (ha : LE G W ta Ta) (hs : LA G W n ts Ts) : LE G W (dIndex ta ts) (tBM G.K "list" (rIndexD G.K) Ta Ts) := fun F0 H0 ρ F σ H Q QX QV S q hq hx =>
  ha.v S q (fun x u F1 H1 e1 r1 q1 => by
    cases x with
    | lst l =>
      obtain ⟨a, vs, rfl, h1, h2⟩ := id r1
      refine ⟨.inl ⟨rfl, vs, sqL_mono e1.fh h1⟩, hs F0 H0 ρ F1 σ H1 _ _ _ (S.ext e1) q1 (fun ds ws F2 H2 e2 r2 l2 q2 => ?_) (hx.ext e1)⟩
      obtain ⟨y, rfl⟩ : ∃ y, ds = [y] := by
        match ds, q2 with
        | [y], _ => exact ⟨y, rfl⟩
        | [], q => exact q.elim
        | _ :: _ :: _, q => exact q.elim
      obtain ⟨w, rfl, rw'⟩ := one_rep r2
      obtain ⟨hd, q3⟩ := q2
      obtain ⟨⟨d1, d2⟩, s1, s2⟩ := in_parts hd
      cases hj : idxD y l with
      | none => rw [hj] at q3; exact q3.elim
      | some j =>
        rw [hj] at q3
        obtain ⟨z, z1, z2, z3⟩ := idx_eqv d1 d2 hj
        have rl : Rep G F2 (.lst l) (.ref a) := Rep.mono e2.f (.lst l) r1
        exact ⟨a, w, toPy y, toPyL l, j, z, rfl, rfl, rep_dp e2.fh 30 (.lst l) _ d2 rl, rep_dp e2.fh 29 y w d1 rw', s2, s1, z1, z2, z3, hq _ _ F2 H2 (.val (e1.trans e2) (show Rep G F2 (.int _) (.int _) from rfl)) q3⟩
    | _ => exact q1.elim) hx
theorem lr_list : LRs G fList (fun xs H Q => ∃ p ys, xs = [V.ref p] ∧ (SqL G.K H p ys ∨ SqT G.K H p ys) ∧ ∀ l, H l = none → Q (.ref l) (upd H l (.lst ys))) := fun F H xs us Q QV e r q hq => by
  unfold fList at q
  split at q
  · obtain ⟨v, rfl, a, vs, rfl, h1, h2⟩ := one_rep r
    exact ⟨a, vs, rfl, .inl (sqL_mono e h1), fun p hp => hq _ _ F _ (.mkOwn (.refl e) hp h2) q⟩
  · obtain ⟨v, rfl, a, vs, rfl, h1, h2⟩ := one_rep r
    exact ⟨a, vs, rfl, .inr (sqT_mono e h1.1), fun p hp => hq _ _ F _ (.mkOwn (.refl e) hp h2) q⟩
  · exact q.elim
theorem le_bits {W : WX} {ta : DE} {Ta : TE} (ha : LE G W ta Ta) : LE G W (dUn oBits ta) (tBits Ta) := fun F0 H0 ρ F σ H Q QX QV S q hq hx =>
  ha.v S q (fun x u F1 H1 e1 r1 q1 => by
    cases x with
    | int i => exact ⟨i, r1, by rw [← bits_eq]; exact hq _ _ F1 H1 (.val e1 (show Rep G F1 (.int _) (.int _) from rfl)) q1⟩
    | _ => exact q1.elim) hx
theorem bool_r {f : D → D → (Bool → Prop) → Prop} {r : R2} (hl : LR2 G (cB f) r) {F H : Hp} {x y : D} {u v : V} {k : Bool → Prop} {QV : Bool → Hp → Prop} (e : Same F H) (rx : Rep G F x u) (ry : Rep G F y v) (q : f x y k) (hq : ∀ b F' H', Ext F H F' H' → k b → QV b H') : r u v H fun z H3 => ∃ b, z = .bl b ∧ QV b H3 :=
  hl F H x y u v (fun s => s.bool k) _ e rx ry q fun s w F' H' p q' => by
    cases s with
    | val d =>
      cases d with
      | bl b => exact ⟨b, p.v, hq b F' H' p.e q'⟩
      | _ => exact q'.elim
    | _ => exact q'.elim
theorem r_mono {f : D → D → (Bool → Prop) → Prop} {r : R2} (hl : LR2 G (cB f) r) {F H : Hp} {x y : D} {u v : V} {k : Bool → Prop} {QV : VK} (e : Same F H) (rx : Rep G F x u) (ry : Rep G F y v) (q : f x y k) (hq : ∀ b F' H', Ext F H F' H' → k b → QV (.bl b) H') : r u v H QV :=
  hl F H x y u v (fun s => s.bool k) _ e rx ry q fun s w F' H' p q' => by
    cases s with
    | val d =>
      cases d with
      | bl b => rw [show w = V.bl b from p.v]; exact hq b F' H' p.e q'
      | _ => exact q'.elim
    | _ => exact q'.elim
theorem le_chain {W : WX} {f g : D → D → (Bool → Prop) → Prop} {r r' : R2} {ta tb tc : DE} {Ta Tb Tc : TE} (hf : LR2 G (cB f) r) (hg : LR2 G (cB g) r') (ha : LE G W ta Ta) (hb : LE G W tb Tb) (hc : LE G W tc Tc) : LE G W (dChain f g ta tb tc) (tChain r r' Ta Tb Tc) := fun F0 H0 ρ F σ H Q QX QV S q hq hx =>
  ha.v S q (fun x u F1 H1 e1 r1 q1 => hb.v (S.ext e1) q1 (fun y v F2 H2 e2 r2 q2 =>
    bool_r hf e2.fh (Rep.mono e2.f x r1) r2 q2 fun b F3 H3 e3 q3 => two_if q3 (fun z => hc.v (((S.ext e1).ext e2).ext e3) z (fun w' v' F4 H4 e4 r4 q4 =>
      r_mono hg e4.fh (Rep.mono e4.f y (Rep.mono e3.f y r2)) r4 q4 fun c F5 H5 e5 q5 => hq _ _ F5 H5 (.val ((((e1.trans e2).trans e3).trans e4).trans e5) (show Rep G F5 (.bl c) (.bl c) from rfl)) q5) (((hx.ext e1).ext e2).ext e3))
      fun z => hq _ _ F3 H3 (.val ((e1.trans e2).trans e3) (show Rep G F3 (.bl false) (.bl false) from rfl)) z) (hx.ext e1)) hx
/-- a op1 b op2 c op3 d -/
def tChain3 (r r' r'' : R2) (ta tb tc td : TE) : TE := fun σ H Q => ta σ H fun x H1 => tb σ H1 fun y H2 => r x y H2 fun z H3 => ∃ k, z = .bl k ∧
  (if k = true then tc σ H3 fun w' H4 => r' y w' H4 fun z2 H5 => ∃ k2, z2 = .bl k2 ∧ (if k2 = true then td σ H5 fun w2 H6 => r'' w' w2 H6 Q else Q (.bl false) H5) else Q (.bl false) H3)
theorem pe_chain3 {op op' op'' : CmpOp} {r r' r'' : R2} {a b c d : Expr} {ta tb tc td : TE} {pos : Pos} (ho : OpR X (compareOp op) r) (ho' : OpR X (compareOp op') r') (ho'' : OpR X (compareOp op'') r'') (ha : PE X a ta) (hb : PE X b tb) (hc : PE X c tc) (hd : PE X d td)
    (hm : lastMarks [op, op', op''] [b, c, d] = false := by with_unfolding_all rfl) : PE X (.Compare a [op, op', op''] [b, c, d] pos) (tChain3 r r' r'' ta tb tc td) := by
  refine ⟨fun pins s σ H Q I h => ?_⟩
  refine Compare_chain (thn (ha.run pins s σ H _ I h) fun v s1 ⟨x, H1, I1, r1, q1⟩ => chain_link (thn (hb.run pins s1 σ H1 _ I1 q1) fun u s2 ⟨y, H2, I2, r2, q2⟩ =>
    thn (ho pins s2 σ H2 x y v u _ I2 r1 r2 q2) fun d' s3 ⟨z, H3, I3, r3, k, e, q3⟩ => ?_)) hm
  subst e
  cases r3
  refine wpAny_truthy_bool ?_
  cases k with
  | false => exact ite_ff ⟨.bl false, H3, I3, rfl, q3⟩
  | true =>
    refine ite_tt (chain_link (thn (hc.run pins s3 σ H3 _ I3 q3) fun w' s4 ⟨z', H4, I4, r4, q4⟩ => thn (ho' pins s4 σ H4 y z' u w' _ I4 r2 r4 q4) fun d2 s5 ⟨z2, H5, I5, r5, k2, e2, q5⟩ => ?_))
    subst e2
    cases r5
    refine wpAny_truthy_bool ?_
    cases k2 with
    | false => exact ite_ff ⟨.bl false, H5, I5, rfl, q5⟩
    | true => exact ite_tt (chain_last (thn (hd.run pins s5 σ H5 _ I5 q5) fun w2 s6 ⟨z3, H6, I6, r6, q6⟩ => ho'' pins s6 σ H6 z' z3 w' w2 Q I6 r4 r6 q6))
theorem pt_chain3 {op op' op'' : CmpOp} {r r' r'' : R2} {a b c d : Expr} {ta tb tc td : TE} {pos : Pos} (ho : OpR X (compareOp op) r) (ho' : OpR X (compareOp op') r') (ho'' : OpR X (compareOp op'') r'') (ha : PE X a ta) (hb : PE X b tb) (hc : PE X c tc) (hd : PE X d td)
    (hm : lastMarks [op, op', op''] [b, c, d] = false := by with_unfolding_all rfl) : PT X (.Compare a [op, op', op''] [b, c, d] pos) (tTest (tChain3 r r' r'' ta tb tc td)) := by
  refine ⟨fun pins s σ H Q I h => ?_⟩
  refine isTrue_chain (thn (ha.run pins s σ H _ I h) fun v s1 ⟨x, H1, I1, r1, q1⟩ => test_link (thn (hb.run pins s1 σ H1 _ I1 q1) fun u s2 ⟨y, H2, I2, r2, q2⟩ =>
    thn (ho pins s2 σ H2 x y v u _ I2 r1 r2 q2) fun d' s3 ⟨z, H3, I3, r3, k, e, q3⟩ => ?_)) hm
  subst e
  cases r3
  refine wpAny_truthy_bool ?_
  cases k with
  | false =>
    obtain ⟨k', e', q'⟩ := q3
    cases e'
    exact ite_ff ⟨H3, I3, q'⟩
  | true =>
    refine ite_tt (test_link (thn (hc.run pins s3 σ H3 _ I3 q3) fun w' s4 ⟨z', H4, I4, r4, q4⟩ => thn (ho' pins s4 σ H4 y z' u w' _ I4 r2 r4 q4) fun d2 s5 ⟨z2, H5, I5, r5, k2, e2, q5⟩ => ?_))
    subst e2
    cases r5
    refine wpAny_truthy_bool ?_
    cases k2 with
    | false =>
      obtain ⟨k', e', q'⟩ := q5
      cases e'
      exact ite_ff ⟨H5, I5, q'⟩
    | true =>
      refine ite_tt (test_last (thn (hd.run pins s5 σ H5 _ I5 q5) fun w2 s6 ⟨z3, H6, I6, r6, q6⟩ => thn (ho'' pins s6 σ H6 z' z3 w' w2 _ I6 r4 r6 q6) fun d3 s7 ⟨z4, H7, I7, r7, k3, e3, q7⟩ => ?_))
      subst e3
      cases r7
      exact wpAny_truthy_bool ⟨H7, I7, q7⟩
theorem le_chain3 {W : WX} {f g h : D → D → (Bool → Prop) → Prop} {r r' r'' : R2} {ta tb tc td : DE} {Ta Tb Tc Td : TE} (hf : LR2 G (cB f) r) (hg : LR2 G (cB g) r') (hh : LR2 G (cB h) r'') (ha : LE G W ta Ta) (hb : LE G W tb Tb) (hc : LE G W tc Tc) (hd : LE G W td Td) : LE G W (dChain3 f g h ta tb tc td) (tChain3 r r' r'' Ta Tb Tc Td) := fun F0 H0 ρ F σ H Q QX QV S q hq hx =>
  ha.v S q (fun x u F1 H1 e1 r1 q1 => hb.v (S.ext e1) q1 (fun y v F2 H2 e2 r2 q2 =>
    bool_r hf e2.fh (Rep.mono e2.f x r1) r2 q2 fun b F3 H3 e3 q3 => two_if q3 (fun z => hc.v (((S.ext e1).ext e2).ext e3) z (fun w' v' F4 H4 e4 r4 q4 =>
      bool_r hg e4.fh (Rep.mono e4.f y (Rep.mono e3.f y r2)) r4 q4 fun c F5 H5 e5 q5 => two_if q5 (fun z5 => hd.v (((((S.ext e1).ext e2).ext e3).ext e4).ext e5) z5 (fun w2 v2 F6 H6 e6 r6 q6 =>
        r_mono hh e6.fh (Rep.mono e6.f w' (Rep.mono e5.f w' r4)) r6 q6 fun c2 F7 H7 e7 q7 => hq _ _ F7 H7 (.val ((((((e1.trans e2).trans e3).trans e4).trans e5).trans e6).trans e7) (show Rep G F7 (.bl c2) (.bl c2) from rfl)) q7) (((((hx.ext e1).ext e2).ext e3).ext e4).ext e5))
        fun z5 => hq _ _ F5 H5 (.val ((((e1.trans e2).trans e3).trans e4).trans e5) (show Rep G F5 (.bl false) (.bl false) from rfl)) z5) (((hx.ext e1).ext e2).ext e3))
      fun z => hq _ _ F3 H3 (.val ((e1.trans e2).trans e3) (show Rep G F3 (.bl false) (.bl false) from rfl)) z) (hx.ext e1)) hx
end
end DL

/- DLd -/
namespace DL
open PySem PySem.Spec PyProof.Rows L2
section
variable {G : Gx} {W : WX} {ta tb tc te : DE} {Ta Tb Tc Te : TE} {ts : DA} {Ts : TA} {CA CB : TT} {t u : DS} {T U : TS}
theorem ls_next : LS G W dNext tNext := fun F0 H0 ρ F σ H N D' S E q => E.nx ρ F σ H S q
theorem ls_seq (h1 : LS G W t T) (h2 : LS G W u U) : LS G W (dSeq t u) (tSeq T U) := fun F0 H0 ρ F σ H N D' S E q =>
  h1 F0 H0 ρ F σ H { N with nx := fun r' => at_ u N r' } { D' with nx := U D' } S ⟨fun ρ' F' σ' H' S' q' => h2 F0 H0 ρ' F' σ' H' N D' S' E q', E.bk, E.ct, E.rt, E.xc⟩ q
theorem ls_cut (h1 : LS G W t T) (h2 : LS G W u U) : LS G W (dCut t u) (tSeq T U) := fun F0 H0 ρ F σ H N D' S E q => by
  obtain ⟨M, q1, q2⟩ := q
  exact h1 F0 H0 ρ F σ H { N with nx := M } { D' with nx := U D' } S ⟨fun ρ' F' σ' H' S' q' => h2 F0 H0 ρ' F' σ' H' N D' S' E (q2 ρ' q'), E.bk, E.ct, E.rt, E.xc⟩ q1
theorem ls_set {i : Nat} (he : LE G W te Te) : LS G W (dSet i te) (tAsg Te (gName i)) := fun F0 H0 ρ F σ H N D' S E q =>
  he F0 H0 ρ F σ H _ _ _ S q (fun s v F1 H1 p q1 => E.nx _ F1 _ H1 (S.set i p) q1) (E.xw S)
theorem Post.view {F H F' H' : Hp} {s : Sl} {v : V} (p : Post G F H s v F' H') : ∃ F'', Post G F H s.view v F'' H' := by
  cases s with
  | un => exact p.v.elim
  | val d => exact ⟨F', p⟩
  | own l =>
    obtain ⟨d, F'', e, r, k⟩ := p.use (k := fun d => d = .lst l) rfl
    subst k
    exact ⟨F'', e, r⟩
  | ownd ks us =>
    obtain ⟨d, F'', e, r, k⟩ := p.use (k := fun d => d = .dct ks us) rfl
    subst k
    exact ⟨F'', e, r⟩
theorem ls_setV {i : Nat} (he : LE G W te Te) : LS G W (dSetV i te) (tAsg Te (gName i)) := fun F0 H0 ρ F σ H N D' S E q =>
  he F0 H0 ρ F σ H _ _ _ S q (fun s v F1 H1 p q1 => by
    obtain ⟨F2, p2⟩ := p.view
    exact E.nx _ F2 _ H1 (S.set i p2) q1) (E.xw S)
theorem ls_drop (he : LE G W te Te) : LS G W (dDrop te) (tDrop Te) := fun F0 H0 ρ F σ H N D' S E q =>
  he F0 H0 ρ F σ H _ _ _ S q (fun s v F1 H1 p q1 => E.nx _ F1 _ H1 (S.ext p.e) q1) (E.xw S)
theorem ls_ret (he : LE G W te Te) : LS G W (dRet te) (tRet Te) := fun F0 H0 ρ F σ H N D' S E q =>
  he F0 H0 ρ F σ H _ _ _ S q (fun s v F1 H1 p q1 => E.rt s v F1 H1 (p.after S.e) q1) (E.xw S)
theorem ls_retN : LS G W dRetN tRetN := fun F0 H0 ρ F σ H N D' S E q => E.rt (.val .non) .non F H (.val S.e rfl) q
theorem ls_retOwn {i : Nat} : LS G W (dRetOwn i) (tRet (tVar i)) := fun F0 H0 ρ F σ H N D' S E q => by
  have q : (slotAt ρ i).given N.rt := q
  unfold slotAt at q
  cases hs : ρ[i]? with
  | none => rw [hs] at q; exact q.elim
  | some s =>
    rw [hs] at q
    cases s with
    | own l =>
      obtain ⟨p, vs, h1, h2, h3, h4, h5⟩ := S.sl i _ hs
      exact ⟨_, h1, E.rt (.own l) _ F H ⟨S.e, p, vs, rfl, h2, h3, h4, h5⟩ q⟩
    | ownd ks us =>
      obtain ⟨p, vs, h1, h2, h3, h4, h5⟩ := S.sl i _ hs
      exact ⟨_, h1, E.rt (.ownd ks us) _ F H ⟨S.e, p, vs, rfl, h2, h3, h4, h5⟩ q⟩
    | _ => exact q.elim
theorem ls_if (hc : LT G W tc CA) (ha : LS G W t T) (hb : LS G W u U) : LS G W (dIf tc t u) (tIfS CA T U) := fun F0 H0 ρ F σ H N D' S E q =>
  hc F0 H0 ρ F σ H _ _ _ S q (fun b F1 H1 e1 q1 => two_if q1 (fun z => ha F0 H0 ρ F1 σ H1 N D' (S.ext e1) E z) fun z => hb F0 H0 ρ F1 σ H1 N D' (S.ext e1) E z) (E.xw S)
theorem ls_never {T : TS} : LS G W dNever T := fun _ _ _ _ _ _ _ _ _ _ q => q.elim
theorem ls_break : LS G W dBreak tBreak := fun F0 H0 ρ F σ H N D' S E q => E.bk ρ F σ H S q
theorem ls_cont : LS G W dCont tCont := fun F0 H0 ρ F σ H N D' S E q => E.ct ρ F σ H S q
theorem SRep.frz {F0 H0 F H : Hp} {σ : Sg} {ρ : Env} (S : SRep G F0 H0 F H σ ρ) (i : Nat) : ∃ F', SRep G F0 H0 F' H σ (frz i ρ) ∧ Same F F' := by
  unfold DL.frz slotAt
  cases hi : ρ[i]? with
  | none =>
    have e : ρ.set i Sl.un = ρ := List.set_eq_of_length_le (List.getElem?_eq_none_iff.mp hi)
    exact ⟨F, by show SRep G F0 H0 F H σ (ρ.set i Sl.un); rw [e]; exact S, Same.refl _⟩
  | some s =>
    show ∃ F', SRep G F0 H0 F' H σ (ρ.set i s.view) ∧ Same F F'
    have hil : i < ρ.length := (List.getElem?_eq_some_iff.mp hi).1
    have nothing : s.view = s → ∃ F', SRep G F0 H0 F' H σ (ρ.set i s.view) ∧ Same F F' := fun e => by
      have e2 : ρ.set i s = ρ := by
        refine List.ext_getElem? fun j => ?_
        by_cases hj : i = j
        · subst hj; rw [List.getElem?_set_self hil, hi]
        · rw [List.getElem?_set_ne hj]
      rw [e, e2]
      exact ⟨F, S, Same.refl _⟩
    by_cases w : s.owns = true
    · obtain ⟨p, o, h1, h2, h3, h4, h5⟩ := (S.sl i s hi).own_at w
      have sF : Same F (upd F p o) := same_upd h3
      have e' : Ext F0 H0 (upd F p o) H := ⟨S.e.f.trans sF, fun b v z => by
          by_cases hb : b = p
          · subst hb; rw [upd_same] at z; cases z; exact h2
          · rw [upd_ne hb] at z; exact S.e.fh b v z, S.e.h, fun b v z => by
          by_cases hb : b = p
          · subst hb; exact .inr (.inl h4)
          · rw [upd_ne hb] at z; exact S.e.new b v z⟩
      refine ⟨upd F p o, ⟨by simpa using S.len, e', fun j t q => ?_, fun j k t t' q z1 z2 w1 w2 y1 y2 => ?_⟩, sF⟩
      · by_cases hj : i = j
        · subst hj
          rw [List.getElem?_set_self hil] at q; cases q
          have z := S.sl i s hi
          cases s with
          | un => cases w
          | val d => cases w
          | own l =>
            obtain ⟨p', vs, k1, k2, k3, k4, k5⟩ := z
            rw [h1] at k1; cases k1
            rw [h2] at k2; cases k2
            exact ⟨.ref p, h1, by unfold Rep; exact ⟨p, vs, rfl, .inl (.inl upd_same), RepL.mono sF l k5⟩⟩
          | ownd ks us =>
            obtain ⟨p', vs, k1, k2, k3, k4, k5, k6⟩ := z
            rw [h1] at k1; cases k1
            rw [h2] at k2; cases k2
            exact ⟨.ref p, h1, by unfold Rep; exact ⟨p, vs, rfl, .inl upd_same, k5, RepL.mono sF us k6⟩⟩
        · rw [List.getElem?_set_ne hj] at q
          have z := S.sl j t q
          have np : ∀ {p'}, t.owns = true → σ[j]? = some (some (V.ref p')) → upd F p o p' = F p' := fun {p'} tw y => by
            refine upd_ne fun e => ?_
            subst e
            exact hj (S.dis i j s t p' hi q w tw h1 y)
          cases t with
          | un => trivial
          | val d => obtain ⟨v, k1, k2⟩ := z; exact ⟨v, k1, Rep.mono sF d k2⟩
          | own l => obtain ⟨p', vs, k1, k2, k3, k4, k5⟩ := z; exact ⟨p', vs, k1, k2, (np rfl k1).trans k3, k4, RepL.mono sF l k5⟩
          | ownd ks us => obtain ⟨p', vs, k1, k2, k3, k4, k5, k6⟩ := z; exact ⟨p', vs, k1, k2, (np rfl k1).trans k3, k4, k5, RepL.mono sF us k6⟩
      · have other : ∀ {j : Nat} {t : Sl}, (ρ.set i s.view)[j]? = some t → t.owns = true → ρ[j]? = some t := fun {j t} z tw => by
          by_cases hj : i = j
          · subst hj
            rw [List.getElem?_set_self hil] at z; cases z
            cases s <;> cases tw
          · rw [List.getElem?_set_ne hj] at z; exact z
        exact S.dis j k t t' q (other z1 w1) (other z2 w2) w1 w2 y1 y2
    · refine nothing ?_
      cases s with
      | un => rfl
      | val d => rfl
      | own l => exact (w rfl).elim
      | ownd l m => exact (w rfl).elim
theorem ls_frz {i : Nat} (h : LS G W t T) : LS G W (dFrz i t) T := fun F0 H0 ρ F σ H N D' S E q => by
  obtain ⟨F', S', _⟩ := S.frz i
  exact h F0 H0 _ F' σ H N D' S' E q
def setV : List Nat → List V → Sg → Sg
  | i :: is, v :: vs, σ => setV is vs (σ.set i (some v))
  | _, _, σ => σ
theorem SRep.setAll {F0 H0 F H : Hp} : ∀ {is : List Nat} {ds : List D} {vs : List V} {σ : Sg} {ρ : Env}, SRep G F0 H0 F H σ ρ → RepL G F ds vs → SRep G F0 H0 F H (setV is vs σ) (setAll is ds ρ)
  | [], _, _, _, _, S, _ => S
  | _ :: _, [], vs, σ, ρ, S, r => by rw [show vs = [] from r]; exact S
  | i :: is, d :: ds, vs, σ, ρ, S, ⟨v, r, e, h1, h2⟩ => by
    subst e
    exact SRep.setAll (is := is) (S.set i (.val (.refl S.same) h1)) h2
def gNs : List Nat → TGs
  | [] => gNil
  | i :: is => gCons (gName i) (gNs is)
theorem gNs_of : ∀ (is : List Nat) (vs : List V) (σ : Sg) (H : Hp) (Q : Sg → Hp → Prop), vs.length = is.length → Q (setV is vs σ) H → gNs is vs σ H Q
  | [], vs, σ, H, Q, l, q => by
    cases vs with
    | nil => exact ⟨rfl, q⟩
    | cons _ _ => cases l
  | i :: is, vs, σ, H, Q, l, q => by
    cases vs with
    | nil => cases l
    | cons v r => exact ⟨v, r, rfl, gNs_of is r _ H Q (by simpa using l) q⟩
theorem ls_unp {is : List Nat} {n : Nat} (he : LE G W te Te) (hn : n = is.length := by rfl) : LS G W (dUnp is te) (tAsg Te (gTup G.K n (gNs is))) := fun F0 H0 ρ F σ H N D' S E q => by
  subst hn
  refine he.v S q (fun d v F1 H1 e1 r1 q1 => ?_) (E.xw S)
  cases d with
  | tup l =>
    obtain ⟨a, vs, rfl, h1, h2⟩ := r1
    have h1 := h1.1
    refine ⟨a, vs, rfl, sqT_mono e1.fh h1, by rw [h2.length]; exact q1.1, gNs_of is vs σ H1 _ (by rw [h2.length]; exact q1.1) ?_⟩
    exact E.nx _ F1 _ H1 ((S.ext e1).setAll h2) q1.2
  | _ => exact q1.elim
theorem ls_unpL {is : List Nat} {n : Nat} (he : LE G W te Te) (hn : n = is.length := by rfl) : LS G W (dUnpL is te) (tAsg Te (gUnl G.K n (gNs is))) := fun F0 H0 ρ F σ H N D' S E q => by
  subst hn
  refine he.v S q (fun d v F1 H1 e1 r1 q1 => ?_) (E.xw S)
  cases d with
  | lst l =>
    obtain ⟨a, vs, rfl, h1, h2⟩ := r1
    refine ⟨a, vs, rfl, sqL_mono e1.fh h1, by rw [h2.length]; exact q1.1, gNs_of is vs σ H1 _ (by rw [h2.length]; exact q1.1) ?_⟩
    exact E.nx _ F1 _ H1 ((S.ext e1).setAll h2) q1.2
  | _ => exact q1.elim
theorem ls_par2 {i j : Nat} (ha : LA G W 2 ts Ts) : LS G W (dPar [i, j] ts) (tPar i j Ts) := fun F0 H0 ρ F σ H N D' S E q =>
  ha F0 H0 ρ F σ H _ _ _ S q (fun ds vs F1 H1 e1 r1 l1 q1 => by
    obtain ⟨d, e, rfl⟩ : ∃ d e, ds = [d, e] := by
      match ds, l1 with
      | [d, e], _ => exact ⟨d, e, rfl⟩
    obtain ⟨v, w, rfl, h1, h2⟩ := two_rep r1
    exact ⟨v, w, rfl, E.nx _ F1 _ H1 (SRep.setAll (is := [i, j]) (S.ext e1) r1) q1⟩) (E.xw S)
theorem ls_par3 {i j k : Nat} (ha : LA G W 3 ts Ts) : LS G W (dPar [i, j, k] ts) (tPar3 i j k Ts) := fun F0 H0 ρ F σ H N D' S E q =>
  ha F0 H0 ρ F σ H _ _ _ S q (fun ds vs F1 H1 e1 r1 l1 q1 => by
    obtain ⟨d, e, f, rfl⟩ : ∃ d e f, ds = [d, e, f] := by
      match ds, l1 with
      | [d, e, f], _ => exact ⟨d, e, f, rfl⟩
    obtain ⟨v, r', rfl, h1, h2⟩ := id r1
    obtain ⟨w, x, rfl, h3, h4⟩ := two_rep h2
    exact ⟨v, w, x, rfl, E.nx _ F1 _ H1 (SRep.setAll (is := [i, j, k]) (S.ext e1) r1) q1⟩) (E.xw S)
/-- four and more: the tuple is made and taken apart -/
theorem ls_parN {is : List Nat} {n : Nat} (ha : LA G W n ts Ts) (hn : n = is.length := by rfl) (h16 : Nat.ble n 16777216 = true := by rfl) : LS G W (dPar is ts) (tAsg (tTup Ts) (gTup G.K n (gNs is))) := fun F0 H0 ρ F σ H N D' S E q => by
  subst hn
  refine ha F0 H0 ρ F σ H _ _ _ S q (fun ds vs F1 H1 e1 r1 l1 q1 => ⟨by rw [r1.length, l1]; exact small16 h16, fun p hp => ?_⟩) (E.xw S)
  have e2 := e1.trans (.put (o := .tup vs) e1.fh hp)
  refine ⟨p, vs, rfl, .inl (.inl upd_same), by rw [r1.length, l1], gNs_of is vs σ _ _ (by rw [r1.length, l1]) ?_⟩
  exact E.nx _ _ _ _ ((S.ext e2).setAll (RepL.mono (same_upd (e1.fh.free hp)) ds r1)) q1
def LO (G : Gx) (W : WX) (t : DO) (T : TO) : Prop := ∀ F0 H0 (ρ : Env) F σ H (k : Option Int → Prop) (QX : DX) (QV : Option Int → Hp → Prop), SRep G F0 H0 F H σ ρ → t ρ k QX → (∀ o F' H', Ext F H F' H' → k o → QV o H') → XWish G W F H σ QX → T σ H QV
theorem lo_none : LO G W dNoPart tNoPart := fun F0 H0 ρ F σ H k QX QV S q hq _ => hq none F H (.refl S.same) q
theorem lo_some (ha : LE G W ta Ta) : LO G W (dPart ta) (tPart Ta) := fun F0 H0 ρ F σ H k QX QV S q hq hx =>
  ha.v S q (fun d v F1 H1 e1 r1 q1 => by
    cases d with
    | int i => exact ⟨i, r1, hq _ F1 H1 e1 q1⟩
    | _ => exact q1.elim) hx
theorem cutV_rep {F : Hp} {l : List D} {vs : List V} (r : RepL G F l vs) (lo hi : Option Int) : RepL G F (cutD l lo hi) (cutV vs lo hi) := by
  have e : vs.length = l.length := r.length
  have key : ∀ (n d : Nat) (o : Option Int), HT.sIx n d o = DL.sIx n d o := fun n d o => by cases o <;> rfl
  unfold cutV cutD
  rw [e, key, key]
  exact RepL.take _ (RepL.drop _ r)
theorem le_sl {tl th : DO} {Tl Th : TO} (ha : LE G W ta Ta) (hl : LO G W tl Tl) (hh : LO G W th Th) : LE G W (dSl ta tl th) (tSl (rSlL G.K) Ta Tl Th) := fun F0 H0 ρ F σ H Q QX QV S q hq hx =>
  ha.v S q (fun d v F1 H1 e1 r1 q1 => hl F0 H0 ρ F1 σ H1 _ _ _ (S.ext e1) q1 (fun lo F2 H2 e2 q2 => hh F0 H0 ρ F2 σ H2 _ _ _ ((S.ext e1).ext e2) q2 (fun hi F3 H3 e3 q3 => by
    cases d with
    | lst l =>
      obtain ⟨a, vs, rfl, h1, h2⟩ := r1
      have e23 := e2.trans e3
      exact ⟨a, vs, rfl, sqL_mono e23.fh (sqL_mono e23.f h1), fun p hp => hq _ _ F3 _ (.mkOwn (e1.trans e23) hp (cutV_rep (RepL.mono e23.f l h2) lo hi)) q3⟩
    | _ => exact q3.elim) ((hx.ext e1).ext e2)) (hx.ext e1)) hx
theorem ls_while (hc : LT G W tc CA) (hb : LS G W t T) : LS G W (dWhile tc t) (tWhile CA T) := fun F0 H0 ρ F σ H N D' S E q => by
  obtain ⟨Wd, ⟨m0, w0⟩, turn⟩ := q
  refine ⟨fun m σ H => ∃ ρ F, SRep G F0 H0 F H σ ρ ∧ Wd m ρ, ⟨m0, ρ, F, S, w0⟩, ?_⟩
  rintro m σ1 H1 ⟨ρ1, F1, S1, w1⟩
  refine hc F0 H0 ρ1 F1 σ1 H1 _ _ _ S1 (turn m ρ1 w1) (fun b F2 H2 e2 q2 => two_if q2 (fun z => ?_) fun z => E.nx ρ1 F2 σ1 H2 (S1.ext e2) z) (E.xw S1)
  refine ⟨fun σ' H' => ∃ m', m' < m ∧ ∃ ρ F, SRep G F0 H0 F H' σ' ρ ∧ Wd m' ρ, fun _ _ h => h, ?_⟩
  refine hb F0 H0 ρ1 F2 σ1 H2 { N with nx := fun r' => ∃ m', m' < m ∧ Wd m' r', ct := fun r' => ∃ m', m' < m ∧ Wd m' r', bk := N.nx } _ (S1.ext e2) (ERel.mk (fun ρ' F' σ' H' S' q => ?_) E.nx (fun ρ' F' σ' H' S' q => ?_) E.rt E.xc) z
  · obtain ⟨m', l, w'⟩ := q
    exact ⟨m', l, ρ', F', S', w'⟩
  · obtain ⟨m', l, w'⟩ := q
    exact ⟨m', l, ρ', F', S', w'⟩
/-- a list or a tuple, walked -/
def iSeq (K : PySem.W.Frag) (tl : TE) : TI := fun σ H R => tl σ H fun x H1 => (∃ a, x = .ref a ∧ (∃ xs, SqL K H1 a xs) ∧ R (Itl K a) H1) ∨ (∃ a, x = .ref a ∧ (∃ xs, SqT K H1 a xs) ∧ R (Itt K a) H1)
theorem pi_seq {X : Cx} {tg l : Expr} {tl : TE} (hl : PE X l tl) : PI X tg l (iSeq X.K tl) := by
  refine ⟨fun pins s σ H R I h => ?_⟩
  refine thn (hl.run pins s σ H _ I h) fun v s1 ⟨x, H1, I1, r1, q1⟩ => ?_
  have fresh : ∀ b ∈ [s1.heap.objs.size], FpOk X pins H1 b := fun b hb => by
    have e : b = s1.heap.objs.size := by simpa using hb
    subst e
    exact I1.fpOk (Nat.le_refl _) (I1.hok.fresh (Nat.le_refl _))
  rcases q1 with ⟨a, e, ⟨xs, hq⟩, q⟩ | ⟨a, e, ⟨xs, hq⟩, q⟩
  · subst e
    cases r1
    obtain ⟨its, rv, p, hz⟩ := I1.list hq
    refine wpAny_pyIter_list p.isList ?_
    exact ⟨s1.heap.objs.size, [s1.heap.objs.size], _, _, H1, rfl, I1.kept (t' := s1.toks) fun b o e => Heap.get?_push_of_some _ e, turn_list a _, ⟨_, Heap.get?_push_size _ rfl, rfl, rfl⟩, fresh, q⟩
  · subst e
    cases r1
    obtain ⟨its, rv, p, hz⟩ := I1.tuple hq
    refine wpAny_pyIter_tuple (show s1.heap.IsTuple a its.toArray from p) ?_
    exact ⟨s1.heap.objs.size, [s1.heap.objs.size], _, _, H1, rfl, I1.kept (t' := s1.toks) fun b o e => Heap.get?_push_of_some _ e, turn_tuple a _, ⟨_, Heap.get?_push_size _ rfl, rfl, rfl⟩, fresh, q⟩
/-- the state here as the ground of what follows -/
theorem SRep.rebase {F0 H0 F H : Hp} {σ : Sg} {ρ : Env} (S : SRep G F0 H0 F H σ ρ) : ∃ H1, SRep G F H1 F H σ ρ ∧ (∀ F' H' σ' ρ', SRep G F H1 F' H' σ' ρ' → SRep G F0 H0 F' H' σ' ρ') ∧ ∀ s v F' H', Post G F H1 s v F' H' → Post G F0 H0 s v F' H' := by
  classical
  let own : Addr → Prop := fun a => ∃ (i : Nat) (s : Sl), ρ[i]? = some s ∧ s.owns = true ∧ σ[i]? = some (some (V.ref a))
  let H1 : Hp := fun a => if own a then none else H a
  have at_own : ∀ {a}, own a → H0 a = none := fun {a} ⟨i, s, h1, h2, h3⟩ => by
    obtain ⟨p, u, z1, z2, z3, z4, z5⟩ := (S.sl i s h1).own_at h2
    rw [h3] at z1; cases z1
    exact z4
  have get : ∀ {a o}, H1 a = some o → H a = some o := fun {a o} z => by
    have z : (if own a then none else H a) = some o := z
    by_cases w : own a
    · rw [if_pos w] at z; cases z
    · rw [if_neg w] at z; exact z
  have none_of : ∀ {a}, H1 a = none → H0 a = none := fun {a} z => by
    have z : (if own a then none else H a) = none := z
    by_cases w : own a
    · exact at_own w
    · rw [if_neg w] at z; exact S.e.h.free z
  have up : Same H0 H1 := fun a o z => by
    show (if own a then none else H a) = some o
    by_cases w : own a
    · rw [at_own w] at z; cases z
    · rw [if_neg w]; exact S.e.h a o z
  have ex : ∀ {F' H'}, Ext F H1 F' H' → Ext F0 H0 F' H' := fun {F' H'} e => ⟨S.e.f.trans e.f, e.fh, up.trans e.h, fun a o z => by
    rcases e.new a o z with y | y
    · exact S.e.new a o y
    · exact .inr (y.imp none_of id)⟩
  refine ⟨H1, ⟨S.len, ⟨Same.refl _, S.e.fh, fun a o z => get z, fun a o z => .inl z⟩, fun i s q => ?_, S.dis⟩, fun F' H' σ' ρ' S' => ⟨S'.len, ex S'.e, fun i s q => ?_, S'.dis⟩, fun s v F' H' p => ⟨ex p.e, ?_⟩⟩
  · have z := S.sl i s q
    have hn : ∀ {p}, s.owns = true → σ[i]? = some (some (V.ref p)) → H1 p = none := fun {p} w y => if_pos ⟨i, s, q, w, y⟩
    cases s with
    | un => trivial
    | val d => exact z
    | own l => obtain ⟨p, vs, k1, k2, k3, k4, k5⟩ := z; exact ⟨p, vs, k1, k2, k3, hn rfl k1, k5⟩
    | ownd ks us => obtain ⟨p, vs, k1, k2, k3, k4, k5⟩ := z; exact ⟨p, vs, k1, k2, k3, hn rfl k1, k5⟩
  · have z := S'.sl i s q
    cases s with
    | un => trivial
    | val d => exact z
    | own l => obtain ⟨p, vs, k1, k2, k3, k4, k5⟩ := z; exact ⟨p, vs, k1, k2, k3, none_of k4, k5⟩
    | ownd ks us => obtain ⟨p, vs, k1, k2, k3, k4, k5⟩ := z; exact ⟨p, vs, k1, k2, k3, none_of k4, k5⟩
  · have z := p.v
    cases s with
    | un => exact z
    | val d => exact z
    | own l => obtain ⟨a, vs, k1, k2, k3, k4, k5⟩ := z; exact ⟨a, vs, k1, k2, k3, none_of k4, k5⟩
    | ownd ks us => obtain ⟨a, vs, k1, k2, k3, k4, k5⟩ := z; exact ⟨a, vs, k1, k2, k3, none_of k4, k5⟩
/-- one turn of a loop -/
theorem turn_step {N : DEnds} {D' : Ends} {F0 H0 F H : Hp} {σ : Sg} {ρ : Env} {M : Env → Prop} {P : Sg → Hp → Prop} (hb : LS G W t T) (E : ERel G W F0 H0 N D') (S : SRep G F0 H0 F H σ ρ) (q : t M N.rt N.nx M N.xc ρ)
    (hP : ∀ ρ2 F2 σ2 H2, SRep G F0 H0 F2 H2 σ2 ρ2 → Same F F2 → M ρ2 → P σ2 H2) : T { D' with nx := P, ct := P, bk := D'.nx } σ H := by
  obtain ⟨H1, S1, back, backP⟩ := S.rebase
  refine hb F H1 ρ F σ H { N with nx := M, ct := M, bk := N.nx } _ S1 (ERel.mk (fun ρ' F' σ' H' S' q => ?_) (fun ρ' F' σ' H' S' q => ?_) (fun ρ' F' σ' H' S' q => ?_) (fun s v F' H' p q => ?_) (fun x ρ' F' σ' H' cls d S' q r => ?_)) q
  · exact hP ρ' F' σ' H' (back _ _ _ _ S') S'.e.f q
  · exact E.nx ρ' F' σ' H' (back _ _ _ _ S') q
  · exact hP ρ' F' σ' H' (back _ _ _ _ S') S'.e.f q
  · exact E.rt s v F' H' (backP _ _ _ _ p) q
  · exact E.xc x ρ' F' σ' H' cls d (back _ _ _ _ S') q r
theorem drop_at {l : List D} {i : Nat} {d : D} (h : l[i]? = some d) : l.drop i = d :: l.drop (i + 1) := by
  obtain ⟨hi, e⟩ := List.getElem?_eq_some_iff.mp h
  rw [List.drop_eq_getElem_cons hi, e]
theorem at_of_len {G : Gx} {F : Hp} {l : List D} {vs : List V} {i : Nat} {v : V} (r : RepL G F l vs) (h : vs[i]? = some v) : ∃ d, l[i]? = some d ∧ Rep G F d v := by
  have hi := (List.getElem?_eq_some_iff.mp h).1
  rw [r.length] at hi
  obtain ⟨w, h1, h2⟩ := r.get (List.getElem?_eq_getElem hi)
  rw [h] at h1; cases h1
  exact ⟨_, List.getElem?_eq_getElem hi, h2⟩
/-- for x in a list -/
theorem ls_for {i : Nat} (hw : LE G W te Te) (hb : LS G W t T) : LS G W (dFor i te t) (tFor (iSeq G.K Te) (gName i) T) := fun F0 H0 ρ F σ H N D' S E q => by
  refine hw.v S q (fun d v F1 H1 e1 r1 q1 => ?_) (E.xw S)
  cases d with
  | lst l =>
    obtain ⟨a, vs, rfl, h1, h2⟩ := r1
    refine .inl ⟨a, rfl, ⟨vs, sqL_mono e1.fh h1⟩, for_list (K := G.K) (a := a) (xs := vs) (fun j σ H => ∃ ρ F, SRep G F0 H0 F H σ ρ ∧ SqL G.K F a vs ∧ RepL G F l vs ∧ dEvery i t N.nx N.rt N.xc (l.drop j) ρ) ⟨ρ, F1, S.ext e1, h1, h2, q1⟩ (fun j σ' H' _ ⟨ρ', F', S', g1, _⟩ => sqL_mono S'.same g1) ?_ ?_⟩
    · rintro j x σ' H' hj ⟨ρ', F', S', g1, g2, g3⟩
      obtain ⟨d, hd, rd⟩ := at_of_len g2 hj
      rw [drop_at hd] at g3
      exact turn_step hb E (S'.set i (.val (.refl S'.same) rd)) g3 fun ρ2 F2 σ2 H2 S2 sF m => ⟨ρ2, F2, S2, sqL_mono sF g1, RepL.mono sF l g2, m⟩
    · rintro σ' H' ⟨ρ', F', S', g1, g2, g3⟩
      rw [g2.length, List.drop_length] at g3
      exact E.nx ρ' F' σ' H' S' g3
  | tup l =>
    obtain ⟨a, vs, rfl, h1, h2⟩ := r1
    have h1 := h1.1
    refine .inr ⟨a, rfl, ⟨vs, sqT_mono e1.fh h1⟩, for_tup (K := G.K) (a := a) (xs := vs) (fun j σ H => ∃ ρ F, SRep G F0 H0 F H σ ρ ∧ SqT G.K F a vs ∧ RepL G F l vs ∧ dEvery i t N.nx N.rt N.xc (l.drop j) ρ) ⟨ρ, F1, S.ext e1, h1, h2, q1⟩ (fun j σ' H' _ ⟨ρ', F', S', g1, _⟩ => sqT_mono S'.same g1) ?_ ?_⟩
    · rintro j x σ' H' hj ⟨ρ', F', S', g1, g2, g3⟩
      obtain ⟨d, hd, rd⟩ := at_of_len g2 hj
      rw [drop_at hd] at g3
      exact turn_step hb E (S'.set i (.val (.refl S'.same) rd)) g3 fun ρ2 F2 σ2 H2 S2 sF m => ⟨ρ2, F2, S2, sqT_mono sF g1, RepL.mono sF l g2, m⟩
    · rintro σ' H' ⟨ρ', F', S', g1, g2, g3⟩
      rw [g2.length, List.drop_length] at g3
      exact E.nx ρ' F' σ' H' S' g3
  | _ => exact q1.elim

theorem rangeD_at {lo hi : Int} {i : Nat} (h : i < (hi - lo).toNat) : (rangeD lo hi)[i]? = some (.int (lo + i)) := by
  unfold rangeD
  rw [List.getElem?_map, List.getElem?_range h]
  rfl
theorem rangeD_len {lo hi : Int} : (rangeD lo hi).length = (hi - lo).toNat := by
  unfold rangeD
  rw [List.length_map, List.length_range]
/-- range(a), range(a, b): as an iterable's reading -/
def kRng (R : It → Hp → Prop) (vs : List V) (H1 : Hp) : Prop := (∃ j : Int, vs = [.int j] ∧ (-(2 ^ 62) ≤ j ∧ j < 2 ^ 62) ∧ R (Itr 0 j.toNat) H1) ∨ ∃ i j : Int, vs = [.int i, .int j] ∧ (-(2 ^ 62) ≤ i ∧ i < 2 ^ 62 ∧ -(2 ^ 62) ≤ j ∧ j < 2 ^ 62) ∧ R (Itr i (j - i).toNat) H1
def iRng (ta : TA) : TI := fun σ H R => ta σ H fun vs H1 => kRng R vs H1
theorem fRange_q {xs : List D} {Q : DK} (h : fRange xs Q) : ∃ lo hi : Int, Q (.val (.lst (rangeD lo hi))) ∧ ((xs = [.int hi] ∧ lo = 0 ∧ -(2 ^ 62) ≤ hi ∧ hi < 2 ^ 62) ∨ (xs = [.int lo, .int hi] ∧ (-(2 ^ 62) ≤ lo ∧ lo < 2 ^ 62 ∧ -(2 ^ 62) ≤ hi ∧ hi < 2 ^ 62))) := by
  unfold fRange at h
  split at h
  · rename_i j
    exact ⟨0, j, h.2, .inl ⟨rfl, rfl, h.1⟩⟩
  · rename_i i j
    exact ⟨i, j, h.2, .inr ⟨rfl, h.1⟩⟩
  · exact h.elim
theorem iRng_of {F : Hp} {xs : List D} {vs : List V} {Q : DK} {R : It → Hp → Prop} {H1 : Hp} (r : RepL G F xs vs) (h : fRange xs Q) (hR : ∀ lo hi, Q (.val (.lst (rangeD lo hi))) → R (Itr lo (hi - lo).toNat) H1) : kRng R vs H1 := by
  obtain ⟨lo, hi, q, ⟨e, e0, b⟩ | ⟨e, b⟩⟩ := fRange_q h
  · subst e e0
    obtain ⟨v, rfl, h1⟩ := one_rep r
    refine .inl ⟨hi, by rw [rint h1], b, ?_⟩
    have z := hR 0 hi q
    rwa [Int.sub_zero] at z
  · subst e
    obtain ⟨v, w, rfl, h1, h2⟩ := two_rep r
    exact .inr ⟨lo, hi, by rw [rint h1, rint h2], b, hR lo hi q⟩
theorem ls_forR {i n : Nat} (ha : LA G W n ts Ts) (hb : LS G W t T) : LS G W (dFor i (dAs fRange ts) t) (tFor (iRng Ts) (gName i) T) := fun F0 H0 ρ F σ H N D' S E q =>
  ha F0 H0 ρ F σ H _ _ _ S q (fun ds vs F1 H1 e1 r1 l1 q1 => by
    refine iRng_of r1 q1 fun lo hi q2 => ?_
    refine for_range (lo := lo) (n := (hi - lo).toNat) (fun j σ H => ∃ ρ F, SRep G F0 H0 F H σ ρ ∧ dEvery i t N.nx N.rt N.xc ((rangeD lo hi).drop j) ρ) ⟨ρ, F1, S.ext e1, q2⟩ ?_ ?_
    · rintro j σ' H' hj ⟨ρ', F', S', g3⟩
      rw [drop_at (rangeD_at hj)] at g3
      exact turn_step hb E (S'.set i (.val (.refl S'.same) (show Rep G F' (.int (lo + j)) (.int (lo + j)) from rfl))) g3 fun ρ2 F2 σ2 H2 S2 sF m => ⟨ρ2, F2, S2, m⟩
    · rintro σ' H' ⟨ρ', F', S', g3⟩
      rw [← rangeD_len (lo := lo) (hi := hi), List.drop_length] at g3
      exact E.nx ρ' F' σ' H' S' g3) (E.xw S)
/-- a turn of a comprehension: D the new list -/
theorem lc_step {tt : DE} {TT' : TT} {i : Nat} {F0 H0 : Hp} {ρ : Env} {σ : Sg} {F1 H1 F H : Hp} {D : Addr} {acc : List V} {ys : List DL.D} {x : DL.D} {v : V} {k : Option DL.D → Prop} {P : Hp → Prop} (ht : LT G (fun _ _ _ _ => False) tt TT') (he : LE G (fun _ _ _ _ => False) te Te)
    (S : SRep G F0 H0 F1 H1 σ ρ) (e : Ext F1 H1 F H) (hD : H D = some (.lst acc)) (hF : F D = none) (hn : H1 D = none) (ra : RepL G F ys acc) (rx : Rep G F x v) (hi : i < σ.length) (hl : acc.length < 16777216) (q : oneLc i tt te ρ x k)
    (hP : ∀ F' H' acc' o, Ext F1 H1 F' H' → Same F F' → H' D = some (.lst acc') → F' D = none → RepL G F' (match o with | some y => ys ++ [y] | none => ys) acc' → k o → P H') :
    gName i v (wipe σ [i]) H fun σ2 H2 => wipe σ2 [i] = wipe σ [i] ∧ TT' σ2 H2 fun b H3 => if b = true then Te σ2 H3 fun y H4 => ∃ acc, H4 D = some (.lst acc) ∧ acc.length < sizeLine ∧ P (upd H4 D (.lst (acc ++ [y]))) else P H3 := by
  have e0 : (wipe σ [i]).set i (some v) = σ.set i (some v) := by
    show ((σ.set i none).set i (some v)) = _
    rw [List.set_set]
  show wipe ((wipe σ [i]).set i (some v)) [i] = wipe σ [i] ∧ _
  rw [e0]
  refine ⟨by show (σ.set i (some v)).set i none = σ.set i none; rw [List.set_set], ?_⟩
  have Sx : SRep G F0 H0 F H (σ.set i (some v)) (ρ.set i (.val x)) := (S.ext e).set i (.val (.refl e.fh) rx)
  refine ht F0 H0 _ F _ H _ _ _ Sx q (fun b F2 H2 e2 q2 => two_if q2 (fun z => ?_) fun z => ?_) .none
  · refine he.v (Sx.ext e2) z (fun y w F3 H3 e3 r3 q3 => ?_) .none
    have e23 := e2.trans e3
    have hF3 : F3 D = none := e23.hidden hF hD (fun _ z => nomatch z)
    refine ⟨acc, e23.h _ _ hD, by rw [sizeLine_eq]; exact hl, hP F3 _ _ (some y) ⟨e.f.trans e23.f, fun a o z => ?_, fun a o z => ?_, fun a o z => (e.trans e23).new a o z⟩ e23.f upd_same hF3 ((RepL.mono e23.f ys ra).append ⟨w, [], rfl, r3, rfl⟩) q3⟩
    · rw [upd_ne (fun h => by subst h; rw [hF3] at z; cases z)]; exact e23.fh a o z
    · rw [upd_ne (ne_of_none z hn)]; exact e23.h a o (e.h a o z)
  · exact hP F2 H2 acc none (e.trans e2) e2.f (e2.h _ _ hD) (e2.hidden hF hD (fun _ z => nomatch z)) (RepL.mono e2.f ys ra) z
theorem dEach_len {f : DL.D → (Option DL.D → Prop) → Prop} {l : List DL.D} : True := trivial
/-- the iterable is a list or a tuple -/
theorem le_lcA {tw tt : DE} {Tw : TE} {TT' : TT} {i : Nat} (hw : LE G W tw Tw) (ht : LT G (fun _ _ _ _ => False) tt TT') (he : LE G (fun _ _ _ _ => False) te Te) {F0 H0 : Hp} {ρ : Env} {F : Hp} {σ : Sg} {H : Hp} {Q : DK} {QX : DX} {QV : VK} (hN : i < σ.length) (S : SRep G F0 H0 F H σ ρ) (q : dLc i tw tt te ρ Q QX) (hq : ∀ s v F' H', Post G F H s v F' H' → Q s → QV v H') (hx : XWish G W F H σ QX) :
    tLc (iSeq G.K Tw) (gName i) TT' Te [i] σ H QV := by
  refine hw.v S q (fun d v F1 H1 e1 r1 q1 => ?_) hx
  have S1 := S.ext e1
  have hi := hN
  have fin : ∀ {D : Addr} {H' : Hp} {F' : Hp} {acc : List V} {ys : List DL.D}, H1 D = none → Ext F1 H1 F' H' → H' D = some (.lst acc) → F' D = none → RepL G F' ys acc → Q (.own ys) → QV (.ref D) H' := fun {D H' F' acc ys} hn e h1 h2 r q => hq (.own ys) _ F' H' ⟨e1.trans e, D, acc, rfl, h1, h2, e1.h.free hn, r⟩ q
  cases d with
  | lst l =>
    obtain ⟨a, vs, rfl, h1, h2⟩ := r1
    obtain ⟨hl, q1⟩ := q1
    refine .inl ⟨a, rfl, ⟨vs, sqL_mono e1.fh h1⟩, fun D hD => lc_list (K := G.K) (a := a) (xs := vs) (fun j H => ∃ F acc ys, Ext F1 H1 F H ∧ H D = some (.lst acc) ∧ F D = none ∧ RepL G F ys acc ∧ acc.length ≤ j ∧ dEach (oneLc i tt te ρ) (l.drop j) fun zs => Q (.own (ys ++ zs)))
      ⟨F1, [], [], ⟨Same.refl _, e1.fh.trans (same_upd hD), same_upd hD, fun _ _ z => .inl z⟩, upd_same, e1.fh.free hD, rfl, Nat.le_refl _, q1⟩ (fun j H' _ h => ?_) ?_ ?_⟩
    · obtain ⟨F', acc, ys, e, _⟩ := h
      exact sqL_mono e.fh (sqL_mono e.f h1)
    · rintro j x H' hj ⟨F', acc, ys, e, g1, g2, g3, g4, g5⟩
      obtain ⟨d, hd, rd⟩ := at_of_len h2 hj
      have hjl := (List.getElem?_eq_some_iff.mp hd).1
      rw [drop_at hd] at g5
      refine lc_step ht he S1 e g1 g2 hD g3 (Rep.mono e.f d rd) hi (by omega) g5 fun F2 H2 acc' o e2 sF k1 k2 k3 k4 => ⟨F2, acc', _, e2, k1, k2, k3, ?_, ?_⟩
      · have w := k3.length
        have w0 := g3.length
        cases o <;> simp at w <;> omega
      · cases o with
        | none => exact k4
        | some y => simpa using k4
    · rintro H' ⟨F', acc, ys, e, g1, g2, g3, g4, g5⟩
      rw [h2.length, List.drop_length] at g5
      have g5 : Q (.own (ys ++ [])) := g5
      rw [List.append_nil] at g5
      exact fin hD e g1 g2 g3 g5
  | tup l =>
    obtain ⟨a, vs, rfl, h1, h2⟩ := r1
    have h1 := h1.1
    obtain ⟨hl, q1⟩ := q1
    refine .inr ⟨a, rfl, ⟨vs, sqT_mono e1.fh h1⟩, fun D hD => lc_tup (K := G.K) (a := a) (xs := vs) (fun j H => ∃ F acc ys, Ext F1 H1 F H ∧ H D = some (.lst acc) ∧ F D = none ∧ RepL G F ys acc ∧ acc.length ≤ j ∧ dEach (oneLc i tt te ρ) (l.drop j) fun zs => Q (.own (ys ++ zs)))
      ⟨F1, [], [], ⟨Same.refl _, e1.fh.trans (same_upd hD), same_upd hD, fun _ _ z => .inl z⟩, upd_same, e1.fh.free hD, rfl, Nat.le_refl _, q1⟩ (fun j H' _ h => ?_) ?_ ?_⟩
    · obtain ⟨F', acc, ys, e, _⟩ := h
      exact sqT_mono e.fh (sqT_mono e.f h1)
    · rintro j x H' hj ⟨F', acc, ys, e, g1, g2, g3, g4, g5⟩
      obtain ⟨d, hd, rd⟩ := at_of_len h2 hj
      have hjl := (List.getElem?_eq_some_iff.mp hd).1
      rw [drop_at hd] at g5
      refine lc_step ht he S1 e g1 g2 hD g3 (Rep.mono e.f d rd) hi (by omega) g5 fun F2 H2 acc' o e2 sF k1 k2 k3 k4 => ⟨F2, acc', _, e2, k1, k2, k3, ?_, ?_⟩
      · have w := k3.length
        have w0 := g3.length
        cases o <;> simp at w <;> omega
      · cases o with
        | none => exact k4
        | some y => simpa using k4
    · rintro H' ⟨F', acc, ys, e, g1, g2, g3, g4, g5⟩
      rw [h2.length, List.drop_length] at g5
      have g5 : Q (.own (ys ++ [])) := g5
      rw [List.append_nil] at g5
      exact fin hD e g1 g2 g3 g5
  | _ => exact q1.elim
theorem le_lcRA {tt : DE} {TT' : TT} {i n : Nat} (ha : LA G W n ts Ts) (ht : LT G (fun _ _ _ _ => False) tt TT') (he : LE G (fun _ _ _ _ => False) te Te) {F0 H0 : Hp} {ρ : Env} {F : Hp} {σ : Sg} {H : Hp} {Q : DK} {QX : DX} {QV : VK} (hN : i < σ.length) (S : SRep G F0 H0 F H σ ρ) (q : dLc i (dAs fRange ts) tt te ρ Q QX) (hq : ∀ s v F' H', Post G F H s v F' H' → Q s → QV v H') (hx : XWish G W F H σ QX) :
    tLc (iRng Ts) (gName i) TT' Te [i] σ H QV :=
  ha F0 H0 ρ F σ H _ _ _ S q (fun ds vs F1 H1 e1 r1 l1 q1 => by
    refine iRng_of r1 q1 fun lo hi q2 => ?_
    obtain ⟨hl, q2⟩ := q2
    have S1 := S.ext e1
    have hii := hN
    intro D hD
    refine lc_range (lo := lo) (n := (hi - lo).toNat) (fun j H => ∃ F acc ys, Ext F1 H1 F H ∧ H D = some (.lst acc) ∧ F D = none ∧ RepL G F ys acc ∧ acc.length ≤ j ∧ dEach (oneLc i tt te ρ) ((rangeD lo hi).drop j) fun zs => Q (.own (ys ++ zs)))
      ⟨F1, [], [], ⟨Same.refl _, e1.fh.trans (same_upd hD), same_upd hD, fun _ _ z => .inl z⟩, upd_same, e1.fh.free hD, rfl, Nat.le_refl _, q2⟩ ?_ ?_
    · rintro j H' hj ⟨F', acc, ys, e, g1, g2, g3, g4, g5⟩
      have hjl : j < (rangeD lo hi).length := by rw [rangeD_len]; exact hj
      rw [drop_at (rangeD_at hj)] at g5
      refine lc_step ht he S1 e g1 g2 hD g3 (show Rep G F' (.int (lo + j)) (.int (lo + j)) from rfl) hii (by omega) g5 fun F2 H2 acc' o e2 sF k1 k2 k3 k4 => ⟨F2, acc', _, e2, k1, k2, k3, ?_, ?_⟩
      · have w := k3.length
        have w0 := g3.length
        cases o <;> simp at w <;> omega
      · cases o with
        | none => exact k4
        | some y => simpa using k4
    · rintro H' ⟨F', acc, ys, e, g1, g2, g3, g4, g5⟩
      rw [← rangeD_len (lo := lo) (hi := hi), List.drop_length] at g5
      have g5 : Q (.own (ys ++ [])) := g5
      rw [List.append_nil] at g5
      exact hq (.own ys) _ F' H' ⟨e1.trans e, D, acc, rfl, g1, g2, e1.h.free hD, g3⟩ g5) hx
theorem SRep.write {F0 H0 F H : Hp} {σ : Sg} {ρ : Env} {i : Nat} {l l' : List D} {p : Addr} {vs' : List V} (S : SRep G F0 H0 F H σ ρ) (hi : ρ[i]? = some (.own l)) (hp : σ[i]? = some (some (.ref p))) (r : RepL G F l' vs') :
    SRep G F0 H0 F (upd H p (.lst vs')) σ (ρ.set i (.own l')) := by
  obtain ⟨p', vs, k1, k2, k3, k4, k5⟩ := S.sl i _ hi
  rw [hp] at k1; cases k1
  have hil : i < ρ.length := (List.getElem?_eq_some_iff.mp hi).1
  refine ⟨by simpa using S.len, ⟨S.e.f, fun a o z => ?_, fun a o z => ?_, S.e.new⟩, fun j t q => ?_, fun j k t t' q z1 z2 w1 w2 y1 y2 => ?_⟩
  · rw [upd_ne (fun h => by subst h; rw [k3] at z; cases z)]; exact S.e.fh a o z
  · rw [upd_ne (fun h => by subst h; rw [k4] at z; cases z)]; exact S.e.h a o z
  · by_cases hj : i = j
    · subst hj
      rw [List.getElem?_set_self hil] at q; cases q
      exact ⟨p, vs', hp, upd_same, k3, k4, r⟩
    · rw [List.getElem?_set_ne hj] at q
      have z := S.sl j t q
      have np : ∀ {p'}, t.owns = true → σ[j]? = some (some (V.ref p')) → p' ≠ p := fun {p'} tw y e => by
        subst e
        exact hj (S.dis i j _ t p' hi q rfl tw hp y)
      cases t with
      | un => trivial
      | val d => exact z
      | own l => obtain ⟨p', ws, g1, g2, g3, g4, g5⟩ := z; exact ⟨p', ws, g1, by rw [upd_ne (np rfl g1)]; exact g2, g3, g4, g5⟩
      | ownd ks us => obtain ⟨p', ws, g1, g2, g3, g4, g5⟩ := z; exact ⟨p', ws, g1, by rw [upd_ne (np rfl g1)]; exact g2, g3, g4, g5⟩
  · have other : ∀ {j : Nat} {t : Sl}, (ρ.set i (.own l'))[j]? = some t → t.owns = true → ∃ t', ρ[j]? = some t' ∧ t'.owns = true := fun {j t} z tw => by
      by_cases hj : i = j
      · subst hj; exact ⟨_, hi, rfl⟩
      · rw [List.getElem?_set_ne hj] at z; exact ⟨t, z, tw⟩
    obtain ⟨s1, a1, b1⟩ := other z1 w1
    obtain ⟨s2, a2, b2⟩ := other z2 w2
    exact S.dis j k s1 s2 q a1 a2 b1 b2 y1 y2
theorem ls_app {i : Nat} (he : LE G W te Te) : LS G W (dApp i te) (tDrop (tBM G.K "list" rAppend (tVar i) (tCons Te tNil))) := fun F0 H0 ρ F σ H N D' S E q => by
  have q : (slotAt ρ i).owned fun l => te ρ (fun s => s.use fun d => l.length < 16777216 ∧ N.nx (ρ.set i (.own (l ++ [d])))) fun e => N.xc e ρ := q
  unfold slotAt at q
  cases hs : ρ[i]? with
  | none => rw [hs] at q; exact q.elim
  | some s =>
   rw [hs] at q
   cases s with
   | own l =>
    have hl := hs
    obtain ⟨p, vs, k1, k2, k3, k4, k5⟩ := S.sl i _ hl
    refine ⟨_, k1, .inl ⟨rfl, _, SqL.of k2⟩, ?_⟩
    refine he.v S q (fun d v F1 H1 e1 r1 q1 => ?_) (E.xw S)
    have S1 := S.ext e1
    refine ⟨p, vs, v, rfl, rfl, e1.h _ _ k2, by rw [k5.length, sizeLine_eq]; exact q1.1, E.nx _ F1 σ _ (S1.write hl k1 ((RepL.mono e1.f l k5).append (show RepL G F1 [d] [v] from ⟨v, [], rfl, r1, rfl⟩))) q1.2⟩
   | _ => exact q.elim
/-- a def's promise over data, as a promise of the hand layer -/
def spD (G : Gx) (f : DF) : Sp := fun vs H Q E => ∃ F ds QD QX, Same F H ∧ RepL G F ds vs ∧ f ds QD QX ∧ (∀ s v F' H', Post G F H s v F' H' → QD s → Q v H') ∧ ∀ x, QX x → ∀ cls d F' H', Ext F H F' H' → XRep G F' x cls d H' → E cls d H'
theorem le_call {n : Nat} {f : DF} (ha : LA G W n ts Ts) : LE G W (dCall f ts) (tCallS (spD G f) (WE W) Ts) := fun F0 H0 ρ F σ H Q QX QV S q hq hx =>
  ha F0 H0 ρ F σ H _ _ _ S q (fun ds vs F1 H1 e1 r1 l1 q1 => ⟨F1, ds, Q, QX, e1.fh, r1, q1, fun s v F2 H2 p q2 => hq s v F2 H2 (p.after e1) q2, hx.ext e1⟩) hx
theorem start_get {N : List Str} {vs : List V} {i : Nat} {v : V} (h : vs[i]? = some v) : (L2.start N vs)[i]? = some (some v) := by
  have hi := (List.getElem?_eq_some_iff.mp h).1
  unfold L2.start
  rw [List.getElem?_append_left (by simpa using hi), List.getElem?_map, h]
  rfl
theorem sRep_start {F H : Hp} {N : List Str} {np n : Nat} {ds : List D} {vs : List V} (e : Same F H) (r : RepL G F ds vs) (hN : N.length = n) (hp : ds.length = np) (hnp : np ≤ n) : SRep G F H F H (L2.start N vs) (ds.map Sl.val ++ List.replicate (n - np) .un) := by
  have rl := r.length
  refine ⟨?_, .refl e, fun i s q => ?_, fun i j s t p h1 h2 w1 w2 _ _ => ?_⟩
  · unfold L2.start
    simp only [List.length_append, List.length_map, List.length_replicate]
    omega
  · by_cases hi : i < (ds.map Sl.val).length
    · rw [List.getElem?_append_left hi, List.getElem?_map] at q
      cases hd : ds[i]? with
      | none => rw [hd] at q; cases q
      | some d =>
        rw [hd] at q; cases q
        obtain ⟨v, h1, h2⟩ := r.get hd
        exact ⟨v, start_get h1, h2⟩
    · rw [List.getElem?_append_right (by omega)] at q
      rw [List.getElem?_replicate] at q
      split at q
      · cases q; trivial
      · cases q
  · have no : ∀ {i : Nat} {s : Sl}, (ds.map Sl.val ++ List.replicate (n - np) Sl.un)[i]? = some s → s.owns = true → False := fun {i s} q w => by
      by_cases hi : i < (ds.map Sl.val).length
      · rw [List.getElem?_append_left hi, List.getElem?_map] at q
        cases hd : ds[i]? with
        | none => rw [hd] at q; cases q
        | some d => rw [hd] at q; cases q; cases w
      · rw [List.getElem?_append_right (by omega), List.getElem?_replicate] at q
        split at q
        · cases q; cases w
        · cases q
    exact (no h1 w1).elim
end
/-- what a body must be: a walk with its reading over data -/
def JSs (X : Cx) (G : Gx) (W : WX) (st : List Stmt) (t : DS) : Prop := ∃ T, PSs X st T ∧ LS G W t T
def JS (X : Cx) (G : Gx) (W : WX) (st : Stmt) (t : DS) : Prop := ∃ T, PS X st T ∧ LS G W t T
def JE (X : Cx) (G : Gx) (W : WX) (e : Expr) (t : DE) : Prop := ∃ T, PE X e T ∧ LE G W t T
def JT (X : Cx) (G : Gx) (W : WX) (e : Expr) (t : DE) : Prop := ∃ T, PT X e T ∧ LT G W t T
def JW (X : Cx) (G : Gx) (W : WX) (e : Expr) (t : DE) : Prop := ∃ T, PW X e T ∧ LT G W t T
def JA (X : Cx) (G : Gx) (W : WX) (n : Nat) (es : List Expr) (t : DA) : Prop := ∃ T, PA X es T ∧ LA G W n t T
def JO (X : Cx) (G : Gx) (W : WX) (e : Option Expr) (t : DO) : Prop := ∃ T, PO X e T ∧ LO G W t T
/-- a def that keeps a promise over data, by its global name -/
structure Fn1 (P : Program) (w : World) (G : Gx) (mg : Str → Option Value) (base : Heap) (k : Nat) (x : Str) (f : DF) : Prop where
  ex : ∃ (a : Addr) (fd : FuncData) (ps : List Str), mg x = some (.ref a) ∧ PySem.W.keepIn G.K (.ref a) = true ∧ Binds G.K fd ps [] ∧ FnOk P w G.K mg base (L2.CX P w) k a fd ps (spD G f)
/-- a def of the text, by its global name -/
structure DefAt (G : Gx) (mg : Str → Option Value) (x : Str) (st : Stmt) : Prop where
  ex : ∃ (a : Addr) (fd : FuncData), mg x = some (.ref a) ∧ FunD G.K x x (defArgs st) (defBody st) (defScope st) [] [] a fd
/-- THE RULE for a def -/
theorem fnOk_mk {P : Program} {w : World} {G : Gx} {mg : Str → Option Value} {base : Heap} {k np n : Nat} {x : Str} {st : Stmt} {N ps : List Str} {t : DS} {a : Addr} {fd : FuncData} (F : FunD G.K x x (defArgs st) (defBody st) (defScope st) [] [] a fd) (S : FnScope N ps (defScope st)) (hN : N.length = n) (hp : ps.length = np) (hnp : np ≤ n)
    (hb : ∀ (f : Addr) (cdv : Value) (A : Around) (outer : List PySem.Env) (s : Shared) (H : Hp) (E : XK), Room k (A.deeper (envOfC x (defScope st) s.heap.objs.size f cdv)) →
      JSs (cxOf (L2.CX P w) P w G.K mg base N x (defScope st) f cdv A outer s H E) G (fun cls d _ H => E cls d H) (defBody st) t) : FnOk P w G.K mg base (L2.CX P w) (k + 1) a fd ps (spD G (dFun np n t)) := by
  refine F.ok S (fun vs H Q E h => ?_) fun cdv A outer s H vs Q E hr h => ?_
  · obtain ⟨F', ds, QD, QX, _, r, ⟨hl, _⟩, _⟩ := h
    rw [r.length, hl, hp]
  · obtain ⟨F', ds, QD, QX, e, r, ⟨hl, q⟩, hQ, hX⟩ := h
    obtain ⟨T, hT, hL⟩ := hb a cdv A outer s H E hr
    refine ⟨T, hT, hL F' H _ F' _ H ⟨_, _, _, _, _⟩ _ (sRep_start e r hN hl hnp) (ERel.mk (fun ρ F1 σ H1 S1 q1 => ?_) (fun ρ F1 σ H1 S1 q1 => ?_) (fun ρ F1 σ H1 S1 q1 => ?_) (fun s v F1 H1 p q1 => ?_) (fun x ρ F1 σ H1 cls d S1 q1 r1 => ?_)) q⟩
    · exact hQ (.val .non) .non F1 H1 (.val S1.e rfl) q1
    · exact q1.elim
    · exact q1.elim
    · exact hQ s v F1 H1 p q1
    · exact hX x q1 cls d F1 H1 S1.e r1
theorem fn1_mk {P : Program} {w : World} {G : Gx} {mg : Str → Option Value} {base : Heap} {k np n : Nat} {x : Str} {st : Stmt} {N ps : List Str} {t : DS} (A : DefAt G mg x st) (S : FnScope N ps (defScope st)) (hN : N.length = n) (hp : ps.length = np) (hnp : np ≤ n)
    (hbind : ∀ (kV doc pm : Value) (an : Option Addr) (cdv ct : Value) (us : List Value), us.length = ps.length → bindArgs (PySem.W.fnOf x x (defArgs st) (defBody st) (defScope st) .none kV doc pm an cdv ct) ⟨us, []⟩ = pure (ps.zip us))
    (hb : ∀ (f : Addr) (cdv : Value) (A : Around) (outer : List PySem.Env) (s : Shared) (H : Hp) (E : XK), Room k (A.deeper (envOfC x (defScope st) s.heap.objs.size f cdv)) →
      JSs (cxOf (L2.CX P w) P w G.K mg base N x (defScope st) f cdv A outer s H E) G (fun cls d _ H => E cls d H) (defBody st) t) : Fn1 P w G mg base (k + 1) x (dFun np n t) := by
  obtain ⟨a, fd, hm, F⟩ := A.ex
  exact ⟨a, fd, ps, hm, F.kp, F.bindsN hbind, fnOk_mk F S hN hp hnp hb⟩
end DL

/- DLe -/
namespace DL
open PySem PySem.Spec PyProof.Rows L2
/-- where a derivation stands -/
structure Cxt (X : Cx) (G : Gx) (W : WX) (k : Nat) : Prop where
  K : X.K = G.K
  calm : X.calm = true
  nd : X.N.Nodup
  room : Room k X.A
  hx : ∀ σ, PassesAt (L2.CX X.prog X.w) X σ (WE W σ)
  own : PassesOwn (model X.prog X.w) X.A X.env X.xe
  tk : Takes X W
abbrev W0 : WX := fun _ _ _ _ => False
section
variable {X : Cx} {G : Gx} {W : WX} {k : Nat} {a b c e : Expr} {es : List Expr} {ta tb tc te : DE} {ts : DA} {t u : DS} {pos p p2 p3 : Pos} {n i : Nat} {x : Str}
theorem Cxt.units (C : Cxt X G W k) : X.A.units + 64 < cLine := C.room.units
/-- within a comprehension -/
theorem Cxt.blk (C : Cxt X G W k) (s : Shared) (H : Hp) (scope : Scope) (cenv : PySem.Env) (fp : List Addr) : Cxt (X.blk s H scope cenv fp) G W0 k :=
  ⟨C.K, C.calm, C.nd, C.room, fun σ pins H s e s' I h => by
    obtain ⟨_, _, _, _, _, _, _, _, _, _, _, _, z⟩ := h
    exact z.elim, PassesOwn.never, takes0⟩
theorem Cxt.blkq (C : Cxt X G W k) (scope : Scope) (q : Shared × Hp × Addr × List (Str × Addr) × List Addr) : Cxt (X.blk q.1 q.2.1 scope (compEnvC scope q.2.2.2.1 q.2.2.1 X.env) q.2.2.2.2) G W0 k := C.blk _ _ _ _ _
theorem j_v {i : Nat} {x : Str} {pos : Pos} (hN : X.N[i]? = some x := by rfl) (hv : Vis X.env.scope x := by first | exact Or.inl rfl | exact Or.inr (Or.inl rfl) | exact Or.inr (Or.inr rfl)) (hd : (x == ("__debug__" : Str)) = false := by decide)
    (hcd : (x == ("__classdict__" : Str)) = false := by decide) : JE X G W (.Name x pos) (dVar i) := ⟨_, pe_var hN hv hd hcd, le_var⟩
theorem j_i {i : Int} {j : Nat} : JE X G W (.Constant (.int i) j pos) (dC (.int i)) := ⟨_, pe_int, le_c fun _ => rfl⟩
theorem j_b {b : Bool} {j : Nat} : JE X G W (.Constant (.bool b) j pos) (dC (.bl b)) := ⟨_, pe_bl, le_c fun _ => rfl⟩
theorem j_n {j : Nat} : JE X G W (.Constant .none j pos) (dC .non) := ⟨_, pe_non, le_c fun _ => rfl⟩
theorem j_s {s : List Nat} {y : Str} {j : Nat} (h : y = ⟨s.toArray⟩ := by rfl) : JE X G W (.Constant (.str y) j pos) (dC (.str s)) := ⟨_, pe_str, le_c fun _ => by rw [h]; rfl⟩
theorem j_op {op : Operator} {r : R2} {f : D → D → DK → Prop} (ho : OpR X (binaryOp op) r) (hl : LR2 G f r) (ha : JE X G W a ta) (hb : JE X G W b tb) : JE X G W (.BinOp a op b pos) (dOp f ta tb) :=
  let ⟨_, p, l⟩ := ha; let ⟨_, q, m⟩ := hb; ⟨_, pe_op ho p q, le_op hl l m⟩
theorem j_add (C : Cxt X G W k) (ha : JE X G W a ta) (hb : JE X G W b tb) : JE X G W (.BinOp a .Add b pos) (dOp oAdd ta tb) := j_op op_addD (by rw [C.K]; exact lr_add) ha hb
theorem j_sub (ha : JE X G W a ta) (hb : JE X G W b tb) : JE X G W (.BinOp a .Sub b pos) (dOp oSub ta tb) := j_op op_subD lr_sub ha hb
theorem j_mul (ha : JE X G W a ta) (hb : JE X G W b tb) : JE X G W (.BinOp a .Mult b pos) (dOp oMul ta tb) := j_op op_mulD lr_mul ha hb
theorem j_div (ha : JE X G W a ta) (hb : JE X G W b tb) : JE X G W (.BinOp a .FloorDiv b pos) (dOp oDiv ta tb) := j_op op_divD lr_div ha hb
theorem j_mod (ha : JE X G W a ta) (hb : JE X G W b tb) : JE X G W (.BinOp a .Mod b pos) (dOp oMod ta tb) := j_op op_modN lr_mod ha hb
theorem j_pow (ha : JE X G W a ta) (hb : JE X G W b tb) : JE X G W (.BinOp a .Pow b pos) (dOp oPow ta tb) := j_op op_pow lr_pow ha hb
theorem j_shl (ha : JE X G W a ta) (hb : JE X G W b tb) : JE X G W (.BinOp a .LShift b pos) (dOp oShl ta tb) := j_op op_shlW lr_shl ha hb
theorem j_neg (ha : JE X G W a ta) : JE X G W (.UnaryOp .USub a pos) (dUn oNeg ta) := let ⟨_, p, l⟩ := ha; ⟨_, pe_un un_neg p, le_un lr_neg l⟩
theorem j_weak {e : Expr} {t t' : DE} (h : ∀ r Q Y, t' r Q Y → t r Q Y) (J : JE X G W e t) : JE X G W e t' := by
  obtain ⟨T, p, l⟩ := J
  exact ⟨T, p, fun F0 H0 ρ F σ H Q QX QV a b c d => l F0 H0 ρ F σ H Q QX QV a (h _ _ _ b) c d⟩
theorem jc_pow {i j v : Int} (ha : JE X G W a (dC (.int i))) (hb : JE X G W b (dC (.int j))) (h : (decide (0 ≤ j) && (decide (j ≤ 1000000) && (decide (i.natAbs < 2 ^ 64) && decide (i ^ j.toNat = v)))) = true) : JE X G W (.BinOp a .Pow b pos) (dC (.int v)) := by
  simp only [Bool.and_eq_true, decide_eq_true_eq] at h
  obtain ⟨h1, h2, h3, h4⟩ := h
  refine j_weak (fun r Q Y q => ?_) (j_pow ha hb)
  subst h4
  exact ⟨⟨h1, h2, h3⟩, q⟩
theorem jc_mul {i j v : Int} (ha : JE X G W a (dC (.int i))) (hb : JE X G W b (dC (.int j))) (h : (decide (bits i + bits j ≤ 134217728) && decide (i * j = v)) = true) : JE X G W (.BinOp a .Mult b pos) (dC (.int v)) := by
  simp only [Bool.and_eq_true, decide_eq_true_eq] at h
  obtain ⟨h1, h4⟩ := h
  refine j_weak (fun r Q Y q => ?_) (j_mul ha hb)
  subst h4
  exact ⟨.inr (.inr h1), q⟩
theorem jc_add {i j v : Int} (C : Cxt X G W k) (ha : JE X G W a (dC (.int i))) (hb : JE X G W b (dC (.int j))) (h : decide (i + j = v) = true) : JE X G W (.BinOp a .Add b pos) (dC (.int v)) := by
  have h4 := of_decide_eq_true h
  refine j_weak (fun r Q Y q => ?_) (j_add C ha hb)
  subst h4
  exact q
theorem jc_sub {i j v : Int} (ha : JE X G W a (dC (.int i))) (hb : JE X G W b (dC (.int j))) (h : decide (i - j = v) = true) : JE X G W (.BinOp a .Sub b pos) (dC (.int v)) := by
  have h4 := of_decide_eq_true h
  refine j_weak (fun r Q Y q => ?_) (j_sub ha hb)
  subst h4
  exact q
theorem jc_neg {i v : Int} (ha : JE X G W a (dC (.int i))) (h : decide (-i = v) = true) : JE X G W (.UnaryOp .USub a pos) (dC (.int v)) := by
  have h4 := of_decide_eq_true h
  refine j_weak (fun r Q Y q => ?_) (j_neg ha)
  subst h4
  exact q
theorem j_cmp {op : CmpOp} {r : R2} {f : D → D → DK → Prop} (ho : OpR X (compareOp op) r) (hl : LR2 G f r) (ha : JE X G W a ta) (hb : JE X G W b tb) (hm : behindInMarks op b = false) : JE X G W (.Compare a [op] [b] pos) (dOp f ta tb) :=
  let ⟨_, p, l⟩ := ha; let ⟨_, q, m⟩ := hb; ⟨_, pe_cmpR ho p q hm, le_op hl l m⟩
theorem j_lt (ha : JE X G W a ta) (hb : JE X G W b tb) : JE X G W (.Compare a [.Lt] [b] pos) (dOp (cB bLt) ta tb) := j_cmp op_lt lr_cmp ha hb (nomark _)
theorem j_le (ha : JE X G W a ta) (hb : JE X G W b tb) : JE X G W (.Compare a [.LtE] [b] pos) (dOp (cB bLe) ta tb) := j_cmp op_le lr_cmp ha hb (nomark _)
theorem j_gt (ha : JE X G W a ta) (hb : JE X G W b tb) : JE X G W (.Compare a [.Gt] [b] pos) (dOp (cB bGt) ta tb) := j_cmp op_gt lr_cmp ha hb (nomark _)
theorem j_ge (ha : JE X G W a ta) (hb : JE X G W b tb) : JE X G W (.Compare a [.GtE] [b] pos) (dOp (cB bGe) ta tb) := j_cmp op_ge lr_cmp ha hb (nomark _)
theorem j_eq (C : Cxt X G W k) (ha : JE X G W a ta) (hb : JE X G W b tb) : JE X G W (.Compare a [.Eq] [b] pos) (dOp (cB bEq) ta tb) := j_cmp (op_eqD C.units) (by rw [C.K]; exact lr_eq) ha hb (nomark _)
theorem j_ne (C : Cxt X G W k) (ha : JE X G W a ta) (hb : JE X G W b tb) : JE X G W (.Compare a [.NotEq] [b] pos) (dOp (cB bNe) ta tb) := j_cmp (op_neD C.units) (by rw [C.K]; exact lr_ne) ha hb (nomark _)
theorem j_isN {j : Nat} (ha : JE X G W a ta) : JE X G W (.Compare a [.Is] [.Constant .none j p] pos) (dUn oIsN ta) := let ⟨_, p, l⟩ := ha; ⟨_, pe_cmp (pc_isN p), le_isN l⟩
theorem j_notN {j : Nat} (ha : JE X G W a ta) : JE X G W (.Compare a [.IsNot] [.Constant .none j p] pos) (dUn oNotN ta) := let ⟨_, p, l⟩ := ha; ⟨_, pe_cmp (pc_notN p), le_notN l⟩
theorem j_isB (ha : JE X G W a ta) (hb : JE X G W b tb) : JE X G W (.Compare a [.Is] [b] pos) (dOp oIsB ta tb) := j_cmp op_isBl lr_isB ha hb (nomark _)
theorem j_notB (ha : JE X G W a ta) (hb : JE X G W b tb) : JE X G W (.Compare a [.IsNot] [b] pos) (dOp oNotB ta tb) := j_cmp op_notBl lr_notB ha hb (nomark _)
theorem j_ix (C : Cxt X G W k) (ha : JE X G W a ta) (hb : JE X G W b tb) (hs : PlainIx b := by exact fun _ _ => rfl) : JE X G W (.Subscript a b pos) (dOp oIx ta tb) :=
  let ⟨_, p, l⟩ := ha; let ⟨_, q, m⟩ := hb; ⟨_, pe_ix ix_seq p q hs, le_op (by rw [C.K]; exact lr_ix) l m⟩
theorem j_view (ha : JE X G W a ta) : JE X G W a (dView ta) := let ⟨_, p, l⟩ := ha; ⟨_, p, le_view l⟩
theorem ja_nil : JA X G W 0 [] dNil := ⟨_, pa_nil, la_nil⟩
theorem ja_cons (ha : JE X G W e te) (hr : JA X G W n es ts) (hs : starEach (e :: es) X.env = (false, eval e X.env) :: starEach es X.env := by rfl) : JA X G W (n + 1) (e :: es) (dCons te ts) :=
  let ⟨_, p, l⟩ := ha; let ⟨_, q, m⟩ := hr; ⟨_, pa_cons p q hs, la_cons l m⟩
/-- a module's constant -/
theorem j_gint {i : Int} (hm : ∃ t, X.mg x = some (.int i t)) (hg : Gl X x := by rfl) (hd : (x == ("__debug__" : Str)) = false := by decide) : JE X G W (.Name x pos) (dC (.int i)) :=
  let ⟨t, hm⟩ := hm; ⟨_, pe_glob (v := .int i) hg hm ⟨t, rfl⟩ hd, le_c fun _ => rfl⟩
theorem intsL {F : Hp} : ∀ ns : List Int, RepL G F (ns.map D.int) (ns.map V.int)
  | [] => rfl
  | n :: ns => ⟨V.int n, _, rfl, rfl, intsL ns⟩
theorem j_gtup {ns : List Int} {ds : List D} (hm : ∃ a, X.mg x = some (.ref a) ∧ ∀ H, SqT G.K H a (ns.map V.int)) (hds : ds = ns.map D.int := by rfl) (hn4 : Nat.ble 4 ns.length = true := by rfl) (hg : Gl X x := by rfl) (hd : (x == ("__debug__" : Str)) = false := by decide) : JE X G W (.Name x pos) (dC (.tup ds)) :=
  let ⟨a, hm, hs⟩ := hm; ⟨_, pe_glob (v := .ref a) hg hm rfl hd, le_c fun F => by subst hds; exact ⟨a, _, rfl, ⟨hs F, fun k => by rw [List.length_map] at k; have := Nat.le_of_ble_eq_true hn4; omega⟩, intsL ns⟩⟩
theorem j_bits {apos : Pos} (ha : JE X G W a ta) (hbase : attributeBase a "bit_length" X.env (eval a X.env) = eval a X.env := by rfl) (hline : (apos.endLine == pos.line) = true := by rfl) : JE X G W (.Call (.Attribute a "bit_length" apos) [] [] pos) (dUn oBits ta) :=
  let ⟨_, p, l⟩ := ha; ⟨_, pe_bits p hbase hline, le_bits l⟩
/-- a comparison by its rule -/
def JOp (X : Cx) (G : Gx) (op : CmpOp) (f : D → D → (Bool → Prop) → Prop) : Prop := ∃ r, OpR X (compareOp op) r ∧ LR2 G (cB f) r
theorem o_lt (C : Cxt X G W k) : JOp X G .Lt bLt := ⟨_, op_lt, lr_cmp⟩
theorem o_le (C : Cxt X G W k) : JOp X G .LtE bLe := ⟨_, op_le, lr_cmp⟩
theorem o_gt (C : Cxt X G W k) : JOp X G .Gt bGt := ⟨_, op_gt, lr_cmp⟩
theorem o_ge (C : Cxt X G W k) : JOp X G .GtE bGe := ⟨_, op_ge, lr_cmp⟩
theorem o_eq (C : Cxt X G W k) : JOp X G .Eq bEq := ⟨_, op_eqD C.units, by rw [C.K]; exact lr_eq⟩
theorem o_ne (C : Cxt X G W k) : JOp X G .NotEq bNe := ⟨_, op_neD C.units, by rw [C.K]; exact lr_ne⟩
theorem j_chain {op op' : CmpOp} {f g : D → D → (Bool → Prop) → Prop} (h1 : JOp X G op f) (h2 : JOp X G op' g) (ha : JE X G W a ta) (hb : JE X G W b tb) (hc : JE X G W c tc) (hm : lastMarks [op, op'] [b, c] = false := by with_unfolding_all rfl) : JE X G W (.Compare a [op, op'] [b, c] pos) (dChain f g ta tb tc) :=
  let ⟨_, o1, l1⟩ := h1; let ⟨_, o2, l2⟩ := h2; let ⟨_, p, l⟩ := ha; let ⟨_, q, m⟩ := hb; let ⟨_, r, n⟩ := hc; ⟨_, pe_chain o1 o2 p q r hm, le_chain l1 l2 l m n⟩
theorem jt_chain {op op' : CmpOp} {f g : D → D → (Bool → Prop) → Prop} (h1 : JOp X G op f) (h2 : JOp X G op' g) (ha : JE X G W a ta) (hb : JE X G W b tb) (hc : JE X G W c tc) (hm : lastMarks [op, op'] [b, c] = false := by with_unfolding_all rfl) : JT X G W (.Compare a [op, op'] [b, c] pos) (dChain f g ta tb tc) :=
  let ⟨_, o1, l1⟩ := h1; let ⟨_, o2, l2⟩ := h2; let ⟨_, p, l⟩ := ha; let ⟨_, q, m⟩ := hb; let ⟨_, r, n⟩ := hc; ⟨_, pt_chain o1 o2 p q r hm, lt_val (le_chain l1 l2 l m n)⟩
variable {d : Expr} {td : DE}
theorem j_chain3 {op op' op'' : CmpOp} {f g h : D → D → (Bool → Prop) → Prop} (h1 : JOp X G op f) (h2 : JOp X G op' g) (h3 : JOp X G op'' h) (ha : JE X G W a ta) (hb : JE X G W b tb) (hc : JE X G W c tc) (hd : JE X G W d td) (hm : lastMarks [op, op', op''] [b, c, d] = false := by with_unfolding_all rfl) : JE X G W (.Compare a [op, op', op''] [b, c, d] pos) (dChain3 f g h ta tb tc td) :=
  let ⟨_, o1, l1⟩ := h1; let ⟨_, o2, l2⟩ := h2; let ⟨_, o3, l3⟩ := h3; let ⟨_, p, l⟩ := ha; let ⟨_, q, m⟩ := hb; let ⟨_, r, n⟩ := hc; let ⟨_, s, o⟩ := hd; ⟨_, pe_chain3 o1 o2 o3 p q r s hm, le_chain3 l1 l2 l3 l m n o⟩
theorem jt_chain3 {op op' op'' : CmpOp} {f g h : D → D → (Bool → Prop) → Prop} (h1 : JOp X G op f) (h2 : JOp X G op' g) (h3 : JOp X G op'' h) (ha : JE X G W a ta) (hb : JE X G W b tb) (hc : JE X G W c tc) (hd : JE X G W d td) (hm : lastMarks [op, op', op''] [b, c, d] = false := by with_unfolding_all rfl) : JT X G W (.Compare a [op, op', op''] [b, c, d] pos) (dChain3 f g h ta tb tc td) :=
  let ⟨_, o1, l1⟩ := h1; let ⟨_, o2, l2⟩ := h2; let ⟨_, o3, l3⟩ := h3; let ⟨_, p, l⟩ := ha; let ⟨_, q, m⟩ := hb; let ⟨_, r, n⟩ := hc; let ⟨_, s, o⟩ := hd; ⟨_, pt_chain3 o1 o2 o3 p q r s hm, lt_val (le_chain3 l1 l2 l3 l m n o)⟩
theorem Cxt.units65 (C : Cxt X G W k) : X.A.units + 65 < cLine := by have := C.room.un; omega
theorem j_in (C : Cxt X G W k) (ha : JE X G W a ta) (hb : JE X G W b tb) (hm : behindInMarks .In b = false := by rfl) : JE X G W (.Compare a [.In] [b] pos) (dOp (cB bIn) ta tb) := j_cmp (op_inD C.units65) (by rw [C.K]; exact lr_in) ha hb hm
theorem j_notin (C : Cxt X G W k) (ha : JE X G W a ta) (hb : JE X G W b tb) (hm : behindInMarks .NotIn b = false := by rfl) : JE X G W (.Compare a [.NotIn] [b] pos) (dOp (cB bNotIn) ta tb) := j_cmp (op_notInD C.units65) (by rw [C.K]; exact lr_notIn) ha hb hm
theorem jt_in (C : Cxt X G W k) (ha : JE X G W a ta) (hb : JE X G W b tb) (hm : behindInMarks .In b = false := by rfl) : JT X G W (.Compare a [.In] [b] pos) (dOp (cB bIn) ta tb) := let ⟨_, p, l⟩ := ha; let ⟨_, q, m⟩ := hb; ⟨_, pt_cmpR (op_inD C.units65) p q hm, lt_val (le_op (by rw [C.K]; exact lr_in) l m)⟩
theorem jt_notin (C : Cxt X G W k) (ha : JE X G W a ta) (hb : JE X G W b tb) (hm : behindInMarks .NotIn b = false := by rfl) : JT X G W (.Compare a [.NotIn] [b] pos) (dOp (cB bNotIn) ta tb) := let ⟨_, p, l⟩ := ha; let ⟨_, q, m⟩ := hb; ⟨_, pt_cmpR (op_notInD C.units65) p q hm, lt_val (le_op (by rw [C.K]; exact lr_notIn) l m)⟩
theorem j_tup {kk : Nat} (h : JA X G W n es ts) (h16 : Nat.ble n 16777216 = true := by rfl) : JE X G W (.Tuple es kk pos) (dTup ts) := let ⟨_, p, l⟩ := h; ⟨_, pe_tup p, le_tup l h16⟩
theorem j_lst (h : JA X G W n es ts) (h16 : Nat.ble n 16777216 = true := by rfl) : JE X G W (.List es pos) (dLst ts) := let ⟨_, p, l⟩ := h; ⟨_, pe_lst p, le_lst l h16⟩
theorem jo_none : JO X G W none dNoPart := ⟨_, po_none, lo_none⟩
theorem jo_some (ha : JE X G W a ta) : JO X G W (some a) (dPart ta) := let ⟨_, p, l⟩ := ha; ⟨_, po_some p, lo_some l⟩
theorem j_sl {lo hi : Option Expr} {tl th : DO} (C : Cxt X G W k) (ha : JE X G W a ta) (hl : JO X G W lo tl) (hh : JO X G W hi th) : JE X G W (.Subscript a (.Slice lo hi none p2) pos) (dSl ta tl th) :=
  let ⟨_, p, l⟩ := ha; let ⟨_, q, m⟩ := hl; let ⟨_, r, o⟩ := hh; ⟨_, pe_slice (by have z := @sl_list X; rw [C.K] at z; exact z) p q r, le_sl l m o⟩
theorem j_call {f : DF} {j : Nat} (C : Cxt X G W k) (h : Fn1 X.prog X.w G X.mg X.base j x f) (ha : JA X G W n (e :: es) ts) (hj : j ≤ k := by decide) (hg : Gl X x := by rfl) (hdb : (x == ("__debug__" : Str)) = false := by decide)
    (he : starEach (e :: es) X.env = (false, eval e X.env) :: starEach es X.env := by rfl) (hpl : (backTo pos (starEach es X.env)).any (·.1) = false := by rfl) : JE X G W (.Call (.Name x p) (e :: es) [] pos) (dCall f ts) := by
  obtain ⟨a, fd, ps, hm, hk, hb, F⟩ := h.ex
  obtain ⟨T, q, l⟩ := ha
  exact ⟨_, pe_callS (by rw [C.K]; exact F) (C.room.mono hj) hg hm (by rw [C.K]; exact hk) (by rw [C.K]; exact hb) C.hx q hdb he hpl, le_call l⟩
theorem j_bi {r : List V → Hp → VK → Prop} {f : List D → DK → Prop} {id : String} (hc : CallR X (.builtin id) r) (hl : LRs G f r) (hg : Gl X x) (hm : X.mg x = none) (hv : bootBuiltins x = some (.builtin id)) (ha : JA X G W n (e :: es) ts) (hn : x ≠ "__name__" := by decide) (hdb : (x == ("__debug__" : Str)) = false := by decide)
    (he : starEach (e :: es) X.env = (false, eval e X.env) :: starEach es X.env := by rfl) (hpl : (backTo pos (starEach es X.env)).any (·.1) = false := by rfl) : JE X G W (.Call (.Name x p) (e :: es) [] pos) (dAs f ts) :=
  let ⟨_, q, l⟩ := ha; ⟨_, pe_callB hc hg hm hv q hn hdb he hpl, le_as hl l⟩
theorem boot_blt (x : Str) (v : Value) (h : bootBuiltins x = some v) : bootBuiltins x = some v := h
theorem boot_abs : bootBuiltins "abs" = some (.builtin "abs") := by decide +kernel
theorem boot_max : bootBuiltins "max" = some (.builtin "max") := by decide +kernel
theorem boot_min : bootBuiltins "min" = some (.builtin "min") := by decide +kernel
theorem boot_divmod : bootBuiltins "divmod" = some (.builtin "divmod") := by decide +kernel
theorem boot_isinstance : bootBuiltins "isinstance" = some (.builtin "isinstance") := by decide +kernel
theorem boot_int' : bootBuiltins "int" = some (.type "int") := by decide +kernel
theorem j_len (C : Cxt X G W k) (hm : X.mg "len" = none) (ha : JA X G W n [e] ts) (hg : Gl X "len" := by rfl) (he : starEach [e] X.env = [(false, eval e X.env)] := by rfl) : JE X G W (.Call (.Name "len" p) [e] [] pos) (dAs fLen ts) :=
  j_bi call_len_seq (by rw [C.K]; exact lr_len) hg hm PySem.boot_len ha (he := he)
theorem j_abs (hm : X.mg "abs" = none) (ha : JA X G W n [e] ts) (hg : Gl X "abs" := by rfl) (he : starEach [e] X.env = [(false, eval e X.env)] := by rfl) : JE X G W (.Call (.Name "abs" p) [e] [] pos) (dAs fAbs ts) :=
  j_bi call_abs lr_abs hg hm boot_abs ha (he := he)
theorem j_max (C : Cxt X G W k) (hm : X.mg "max" = none) (ha : JA X G W n (a :: [b]) ts) (hg : Gl X "max" := by rfl) (he : starEach (a :: [b]) X.env = (false, eval a X.env) :: starEach [b] X.env := by rfl) (hpl : (backTo pos (starEach [b] X.env)).any (·.1) = false := by rfl) : JE X G W (.Call (.Name "max" p) [a, b] [] pos) (dAs fMax ts) :=
  j_bi (call_max2 C.calm) lr_max hg hm boot_max ha (he := he) (hpl := hpl)
theorem j_min (C : Cxt X G W k) (hm : X.mg "min" = none) (ha : JA X G W n (a :: [b]) ts) (hg : Gl X "min" := by rfl) (he : starEach (a :: [b]) X.env = (false, eval a X.env) :: starEach [b] X.env := by rfl) (hpl : (backTo pos (starEach [b] X.env)).any (·.1) = false := by rfl) : JE X G W (.Call (.Name "min" p) [a, b] [] pos) (dAs fMin ts) :=
  j_bi (call_min2 C.calm) lr_min hg hm boot_min ha (he := he) (hpl := hpl)
theorem j_divmod (hm : X.mg "divmod" = none) (ha : JA X G W n (a :: [b]) ts) (hg : Gl X "divmod" := by rfl) (he : starEach (a :: [b]) X.env = (false, eval a X.env) :: starEach [b] X.env := by rfl) (hpl : (backTo pos (starEach [b] X.env)).any (·.1) = false := by rfl) : JE X G W (.Call (.Name "divmod" p) [a, b] [] pos) (dAs fDivmod ts) :=
  j_bi call_divmodD lr_divmod hg hm boot_divmod ha (he := he) (hpl := hpl)
theorem j_int (hm : X.mg "int" = none) (ha : JA X G W n [e] ts) (hg : Gl X "int" := by rfl) (he : starEach [e] X.env = [(false, eval e X.env)] := by rfl) : JE X G W (.Call (.Name "int" p) [e] [] pos) (dAs fInt ts) :=
  let ⟨_, q, l⟩ := ha; ⟨_, pe_callTy call_int1 hg hm boot_int' q (he := he), le_as lr_int1 l⟩
theorem j_list (C : Cxt X G W k) (hm : X.mg "list" = none) (ha : JA X G W n [e] ts) (hg : Gl X "list" := by rfl) (he : starEach [e] X.env = [(false, eval e X.env)] := by rfl) : JE X G W (.Call (.Name "list" p) [e] [] pos) (dAs fList ts) :=
  let ⟨_, q, l⟩ := ha; ⟨_, pe_callTy call_list_of hg hm (by decide +kernel) q (he := he), by rw [C.K]; exact le_as lr_list l⟩
/-- isinstance(x, T), T a built-in class -/
theorem j_isi {T : String} {P : D → Bool} {y : Str} (C : Cxt X G W k) (hP : IsiOk T P) (hm : X.mg "isinstance" = none) (hmT : X.mg y = none) (hvT : bootBuiltins y = some (.type T)) (ha : JE X G W a ta) (hg : Gl X "isinstance" := by rfl) (hgT : Gl X y := by rfl) (hny : y ≠ "__name__" := by decide) (hdy : (y == ("__debug__" : Str)) = false := by decide)
    (h1 : starEach (a :: [.Name y p2]) X.env = (false, eval a X.env) :: starEach [.Name y p2] X.env := by rfl) (h2 : starEach [.Name y p2] X.env = (false, eval (.Name y p2) X.env) :: starEach [] X.env := by rfl) (hpl : (backTo pos (starEach [.Name y p2] X.env)).any (·.1) = false := by rfl) :
    JE X G W (.Call (.Name "isinstance" p) [a, .Name y p2] [] pos) (dUn (oIsi P) ta) := by
  obtain ⟨T', q, l⟩ := ha
  refine ⟨_, pe_callB call_isi hg hm boot_isinstance (pa_cons q (pa_cons (pe_bltn (v := .ty T) hgT hmT hvT rfl hny hdy) pa_nil h2) h1) (he := h1) (hpl := hpl), ?_⟩
  rw [C.K]
  exact le_isi hP l
theorem jt_val {op : List CmpOp} {bs : List Expr} (h : JE X G W (.Compare a op bs pos) ta) (he : ∀ whole, isTrue (.Compare a op bs pos) X.env whole = (do let v ← whole; standAt pos; holding [v] (truthy v)) := by intro _; rfl) : JT X G W (.Compare a op bs pos) ta := let ⟨_, p, l⟩ := h; ⟨_, pt_val p he, lt_val l⟩
theorem jt_call {f : Expr} {kw : List Keyword} (h : JE X G W (.Call f es kw pos) ta) (he : ∀ whole, isTrue (.Call f es kw pos) X.env whole = (do let v ← whole; standAt pos; holding [v] (truthy v)) := by intro _; rfl) : JT X G W (.Call f es kw pos) ta := let ⟨_, p, l⟩ := h; ⟨_, pt_val p he, lt_val l⟩
theorem jt_any (h : JE X G W a ta) (he : ∀ whole, isTrue a X.env whole = (do let v ← whole; standAt a.pos; holding [v] (truthy v)) := by intro _; rfl) : JT X G W a ta := let ⟨_, p, l⟩ := h; ⟨_, pt_val p he, lt_val l⟩
theorem jt_cmp {op : CmpOp} {r : R2} {f : D → D → DK → Prop} (ho : OpR X (compareOp op) r) (hl : LR2 G f r) (ha : JE X G W a ta) (hb : JE X G W b tb) (hm : behindInMarks op b = false) : JT X G W (.Compare a [op] [b] pos) (dOp f ta tb) :=
  let ⟨_, p, l⟩ := ha; let ⟨_, q, m⟩ := hb; ⟨_, pt_cmpR ho p q hm, lt_val (le_op hl l m)⟩
theorem jt_lt (ha : JE X G W a ta) (hb : JE X G W b tb) : JT X G W (.Compare a [.Lt] [b] pos) (dOp (cB bLt) ta tb) := jt_cmp op_lt lr_cmp ha hb (nomark _)
theorem jt_le (ha : JE X G W a ta) (hb : JE X G W b tb) : JT X G W (.Compare a [.LtE] [b] pos) (dOp (cB bLe) ta tb) := jt_cmp op_le lr_cmp ha hb (nomark _)
theorem jt_gt (ha : JE X G W a ta) (hb : JE X G W b tb) : JT X G W (.Compare a [.Gt] [b] pos) (dOp (cB bGt) ta tb) := jt_cmp op_gt lr_cmp ha hb (nomark _)
theorem jt_ge (ha : JE X G W a ta) (hb : JE X G W b tb) : JT X G W (.Compare a [.GtE] [b] pos) (dOp (cB bGe) ta tb) := jt_cmp op_ge lr_cmp ha hb (nomark _)
theorem jt_eq (C : Cxt X G W k) (ha : JE X G W a ta) (hb : JE X G W b tb) : JT X G W (.Compare a [.Eq] [b] pos) (dOp (cB bEq) ta tb) := jt_cmp (op_eqD C.units) (by rw [C.K]; exact lr_eq) ha hb (nomark _)
theorem jt_ne (C : Cxt X G W k) (ha : JE X G W a ta) (hb : JE X G W b tb) : JT X G W (.Compare a [.NotEq] [b] pos) (dOp (cB bNe) ta tb) := jt_cmp (op_neD C.units) (by rw [C.K]; exact lr_ne) ha hb (nomark _)
theorem jt_isN {j : Nat} (ha : JE X G W a ta) : JT X G W (.Compare a [.Is] [.Constant .none j p] pos) (dUn oIsN ta) := let ⟨_, p, l⟩ := ha; ⟨_, pt_cmp (pc_isN p), lt_valB (le_isN l)⟩
theorem jt_notN {j : Nat} (ha : JE X G W a ta) : JT X G W (.Compare a [.IsNot] [.Constant .none j p] pos) (dUn oNotN ta) := let ⟨_, p, l⟩ := ha; ⟨_, pt_cmp (pc_notN p), lt_valB (le_notN l)⟩
theorem jt_isB (ha : JE X G W a ta) (hb : JE X G W b tb) : JT X G W (.Compare a [.Is] [b] pos) (dOp oIsB ta tb) := jt_cmp op_isBl lr_isB ha hb (nomark _)
theorem jt_notB (ha : JE X G W a ta) (hb : JE X G W b tb) : JT X G W (.Compare a [.IsNot] [b] pos) (dOp oNotB ta tb) := jt_cmp op_notBl lr_notB ha hb (nomark _)
theorem jt_not (ha : JT X G W a ta) : JT X G W (.UnaryOp .Not a pos) (dNot ta) := let ⟨_, p, l⟩ := ha; ⟨_, pt_not p, lt_not l⟩
theorem jt_w (h : JW X G W a ta) : JT X G W a ta := let ⟨_, p, l⟩ := h; ⟨_, p.pt, l⟩
theorem jw_and1 (ha : JT X G W a ta) : JW X G W (.BoolOp .And [a] pos) ta := let ⟨_, p, l⟩ := ha; ⟨_, pw_and1 p, l⟩
theorem jw_or1 (ha : JT X G W a ta) : JW X G W (.BoolOp .Or [a] pos) ta := let ⟨_, p, l⟩ := ha; ⟨_, pw_or1 p, l⟩
theorem jw_and (ha : JT X G W a ta) (hb : JW X G W (.BoolOp .And (b :: es) pos) tb) : JW X G W (.BoolOp .And (a :: b :: es) pos) (dAnd ta tb) := let ⟨_, p, l⟩ := ha; let ⟨_, q, m⟩ := hb; ⟨_, pw_and p q, lt_and l m⟩
theorem jw_or (ha : JT X G W a ta) (hb : JW X G W (.BoolOp .Or (b :: es) pos) tb) : JW X G W (.BoolOp .Or (a :: b :: es) pos) (dOr ta tb) := let ⟨_, p, l⟩ := ha; let ⟨_, q, m⟩ := hb; ⟨_, pw_or p q, lt_or l m⟩
theorem jt_view (h : JT X G W a ta) : JT X G W a (dViewT ta) := by
  obtain ⟨_, p, l⟩ := h
  refine ⟨_, p, fun F0 H0 ρ F σ H k QX QV S q hq hx => ?_⟩
  obtain ⟨F1, S1, sF, hF1⟩ := S.view
  have hF1' : ∀ a o, F1 a = some o → F a = some o ∨ (F a = none ∧ (∃ p u, p = a ∧ H p = some u ∧ ((∃ vs, u = HO.lst vs) ∨ ∃ kvs, u = HO.dT kvs))) := fun a o z => (hF1 a o z).imp id fun y => ⟨y.1, y.2.1⟩
  refine l F0 H0 (view ρ) F1 σ H _ _ QV S1 q (fun b F2 H2 e q2 => ?_) (fun x qx cls d F2 H2 e r => ?_)
  · obtain ⟨F3, e3, keep, old⟩ := hide sF hF1' e
    exact hq b F3 H2 e3 q2
  · obtain ⟨im, qx⟩ := qx
    obtain ⟨F3, e3, keep, old⟩ := hide sF hF1' e
    refine hx x qx cls d F3 H2 e3 ⟨r.1, r.2.imp id fun ⟨dd, fs, vs, h1, h2, h3, h4⟩ => ⟨dd, fs, vs, h1, (keep _ _ h2).resolve_right (fun z => by rcases z with ⟨_, z⟩ | ⟨_, z⟩ <;> cases z), RepL.imm keep _ im h3, h4⟩⟩
theorem j_one {op : BoolOp} (ha : JE X G W a ta) : JE X G W (.BoolOp op [a] pos) ta := let ⟨_, p, l⟩ := ha; ⟨_, pe_one p, l⟩
theorem j_and (ha : JE X G W a ta) (hb : JE X G W (.BoolOp .And (b :: es) pos) tb) : JE X G W (.BoolOp .And (a :: b :: es) pos) (dAnd ta tb) := let ⟨_, p, l⟩ := ha; let ⟨_, q, m⟩ := hb; ⟨_, pe_and p q, le_and l m⟩
theorem j_or (ha : JE X G W a ta) (hb : JE X G W (.BoolOp .Or (b :: es) pos) tb) : JE X G W (.BoolOp .Or (a :: b :: es) pos) (dOr ta tb) := let ⟨_, p, l⟩ := ha; let ⟨_, q, m⟩ := hb; ⟨_, pe_or p q, le_or l m⟩
theorem j_not (ha : JE X G W a ta) : JE X G W (.UnaryOp .Not a pos) (dNot ta) := let ⟨_, p, l⟩ := ha; ⟨_, pe_not p, le_not l⟩
theorem j_ite (hc : JT X G W c tc) (ha : JE X G W a ta) (hb : JE X G W b tb) : JE X G W (.IfExp c a b pos) (dIte tc ta tb) := let ⟨_, p, l⟩ := hc; let ⟨_, q, m⟩ := ha; let ⟨_, r, o⟩ := hb; ⟨_, pe_ifExp p q r, le_ite l m o⟩
variable {st : Stmt} {sts : List Stmt}
theorem js_nil : JSs X G W [] dNext := ⟨_, pss_nil, ls_next⟩
/-- a named tail of a block -/
theorem js_weak {t' : DS} (h : ∀ n q b c x r, t' n q b c x r → t n q b c x r) (J : JSs X G W sts t) : JSs X G W sts t' := by
  obtain ⟨T, p, l⟩ := J
  exact ⟨T, p, fun F0 H0 ρ F σ H N D' S E q => l F0 H0 ρ F σ H N D' S E (h _ _ _ _ _ _ q)⟩
theorem js_one (h : JS X G W st t) : JSs X G W [st] t := let ⟨_, p, l⟩ := h; ⟨_, pss_one p, l⟩
theorem js_cons (h : JS X G W st t) (hr : JSs X G W sts u) : JSs X G W (st :: sts) (dSeq t u) := let ⟨_, p, l⟩ := h; let ⟨_, q, m⟩ := hr; ⟨_, pss_cons p q, ls_seq l m⟩
theorem js_cut (h : JS X G W st t) (hr : JSs X G W sts u) : JSs X G W (st :: sts) (dCut t u) := let ⟨_, p, l⟩ := h; let ⟨_, q, m⟩ := hr; ⟨_, pss_cons p q, ls_cut l m⟩
theorem js_frz (h : JSs X G W sts t) : JSs X G W sts (dFrz i t) := let ⟨_, p, l⟩ := h; ⟨_, p, ls_frz l⟩
theorem s_set (C : Cxt X G W k) (he : JE X G W e te) (hi : X.N[i]? = some x := by rfl) (hx : Loc X.env.scope x := by first | exact Or.inl rfl | exact Or.inr rfl) (hs : swapsWith e (some (.Name x p)) pos.line X.env = pure false := by rfl) (hf : X.fn x = true ∨ X.env.scope.names.lookup x = some .local := by first | exact .inl rfl | exact .inr rfl) :
    JS X G W (.Assign [.Name x p] e pos) (dSet i te) := let ⟨_, q, l⟩ := he; ⟨_, ps_set C.nd hi hx q hs hf, ls_set l⟩
theorem s_setV (C : Cxt X G W k) (he : JE X G W e te) (hi : X.N[i]? = some x := by rfl) (hx : Loc X.env.scope x := by first | exact Or.inl rfl | exact Or.inr rfl) (hs : swapsWith e (some (.Name x p)) pos.line X.env = pure false := by rfl) (hf : X.fn x = true ∨ X.env.scope.names.lookup x = some .local := by first | exact .inl rfl | exact .inr rfl) :
    JS X G W (.Assign [.Name x p] e pos) (dSetV i te) := let ⟨_, q, l⟩ := he; ⟨_, ps_set C.nd hi hx q hs hf, ls_setV l⟩
theorem s_drop (he : JE X G W e te) (hs : swapsWith e none pos.line X.env = pure false := by rfl) : JS X G W (.Expr e pos) (dDrop te) := let ⟨_, q, l⟩ := he; ⟨_, ps_expr q hs, ls_drop l⟩
theorem s_ret (he : JE X G W e te) : JS X G W (.Return (some e) pos) (dRet te) := let ⟨_, q, l⟩ := he; ⟨_, ps_ret q, ls_ret l⟩
theorem s_retOwn (hN : X.N[i]? = some x := by rfl) (hv : Vis X.env.scope x := by first | exact Or.inl rfl | exact Or.inr (Or.inl rfl) | exact Or.inr (Or.inr rfl)) (hd : (x == ("__debug__" : Str)) = false := by decide) (hcd : (x == ("__classdict__" : Str)) = false := by decide) :
    JS X G W (.Return (some (.Name x p)) pos) (dRetOwn i) := ⟨_, ps_ret (pe_var hN hv hd hcd), ls_retOwn⟩
theorem s_retN : JS X G W (.Return none pos) dRetN := ⟨_, ps_retN, ls_retN⟩
theorem s_pass : JS X G W (.Pass pos) dPass := ⟨_, ps_pass, ls_next⟩
theorem s_break : JS X G W (.Break pos) dBreak := ⟨_, ps_break, ls_break⟩
theorem s_cont : JS X G W (.Continue pos) dCont := ⟨_, ps_continue, ls_cont⟩
theorem s_never : JS X G W st dNever := ⟨_, ps_never, ls_never⟩
theorem s_if (hc : JT X G W c tc) {A B : List Stmt} (ha : JSs X G W A t) (hb : JSs X G W B u) : JS X G W (.If c A B pos) (dIf tc t u) := let ⟨_, p, l⟩ := hc; let ⟨_, q, m⟩ := ha; let ⟨_, r, o⟩ := hb; ⟨_, ps_if p q r, ls_if l m o⟩
theorem s_while (C : Cxt X G W k) (hc : JT X G W c tc) (hb : JSs X G W sts t) : JS X G W (.While c sts [] pos) (dWhile tc t) := let ⟨_, p, l⟩ := hc; let ⟨_, q, m⟩ := hb; ⟨_, ps_while C.own p q, ls_while l m⟩
theorem s_for (C : Cxt X G W k) (hw : JE X G W e te) (hb : JSs X G W sts t) (hi : X.N[i]? = some x := by rfl) (hx : Loc X.env.scope x := by first | exact Or.inl rfl | exact Or.inr rfl) (hs : ∀ x, foldedSetIterable e X.env x = pure x := by intro _; rfl) (hf : X.fn x = true ∨ X.env.scope.names.lookup x = some .local := by first | exact .inl rfl | exact .inr rfl) :
    JS X G W (.For (.Name x p) e sts [] pos) (dFor i te t) := by
  obtain ⟨_, q, l⟩ := hw
  obtain ⟨_, r, m⟩ := hb
  refine ⟨_, ps_for C.own C.calm (pi_seq q) (pg_name C.nd hi hx hf) r hs, ?_⟩
  rw [C.K]
  exact ls_for l m
theorem pi_rng {X : Cx} {tg : Expr} {es : List Expr} {ta : TA} {p pos : Pos} (hg : Gl X "range") (hm : X.mg "range" = none) (ha : PA X es ta) (h2 : (es.length = 1 ∧ ∃ a, es = [a] ∧ starEach [a] X.env = [(false, eval a X.env)]) ∨ ∃ a b, es = [a, b] ∧ starEach [a, b] X.env = [(false, eval a X.env), (false, eval b X.env)] ∧ starEach [b] X.env = [(false, eval b X.env)]) :
    PI X tg (.Call (.Name "range" p) es [] pos) (iRng ta) := by
  refine ⟨fun pins s σ H R I h => ?_⟩
  rcases h2 with ⟨_, a, rfl, hs⟩ | ⟨a, b, rfl, hs, hs2⟩
  · refine Call_ (ld_blt I hg hm boot_range (PyProof.Rows.callWith_type1 (thn (ha.run pos pins s σ H _ I h) fun us s1 ⟨vs, H1, I1, r1, q1⟩ => ?_) hs rfl))
    rcases q1 with ⟨j, e, ⟨q1, q2⟩, q⟩ | ⟨i, j, e, ⟨q1, q2, q3, q4⟩, q⟩
    · subst e
      cases r1 with
      | cons r rr =>
        cases rr
        obtain ⟨t, rfl⟩ := r
        exact call_range_1 (range_it I1 (by omega) (by omega) q1 q2 (by simpa using q))
    · subst e
      cases r1 with
      | cons r rr =>
        cases rr with
        | cons r' rr =>
          cases rr
          obtain ⟨t, rfl⟩ := r
          obtain ⟨t', rfl⟩ := r'
          exact call_range_2 (range_it I1 q1 q2 q3 q4 q)
  · refine Call_ (ld_blt I hg hm boot_range (PyProof.Rows.callWith_type1 (thn (ha.run pos pins s σ H _ I h) fun us s1 ⟨vs, H1, I1, r1, q1⟩ => ?_) (by rw [hs, hs2]) (by rw [hs2]; rfl)))
    rcases q1 with ⟨j, e, ⟨q1, q2⟩, q⟩ | ⟨i, j, e, ⟨q1, q2, q3, q4⟩, q⟩
    · subst e
      cases r1 with
      | cons r rr =>
        cases rr
        obtain ⟨t, rfl⟩ := r
        exact call_range_1 (range_it I1 (by omega) (by omega) q1 q2 (by simpa using q))
    · subst e
      cases r1 with
      | cons r rr =>
        cases rr with
        | cons r' rr =>
          cases rr
          obtain ⟨t, rfl⟩ := r
          obtain ⟨t', rfl⟩ := r'
          exact call_range_2 (range_it I1 q1 q2 q3 q4 q)
/-- a walked range: JR of its arguments -/
def JR (X : Cx) (G : Gx) (W : WX) (n : Nat) (tg it : Expr) (ts : DA) : Prop := ∃ T, PI X tg it (iRng T) ∧ LA G W n ts T
theorem jr_1 {tg : Expr} (hm : X.mg "range" = none) (ha : JA X G W n [a] ts) (hg : Gl X "range" := by rfl) (hs : starEach [a] X.env = [(false, eval a X.env)] := by rfl) : JR X G W n tg (.Call (.Name "range" p) [a] [] pos) ts :=
  let ⟨_, q, l⟩ := ha; ⟨_, pi_rng hg hm q (.inl ⟨rfl, a, rfl, hs⟩), l⟩
theorem jr_2 {tg : Expr} (hm : X.mg "range" = none) (ha : JA X G W n [a, b] ts) (hg : Gl X "range" := by rfl) (hs : starEach [a, b] X.env = [(false, eval a X.env), (false, eval b X.env)] := by rfl) (hs2 : starEach [b] X.env = [(false, eval b X.env)] := by rfl) : JR X G W n tg (.Call (.Name "range" p) [a, b] [] pos) ts :=
  let ⟨_, q, l⟩ := ha; ⟨_, pi_rng hg hm q (.inr ⟨a, b, rfl, hs, hs2⟩), l⟩
theorem s_forR {it : Expr} (C : Cxt X G W k) (hw : JR X G W n (.Name x p) it ts) (hb : JSs X G W sts t) (hi : X.N[i]? = some x := by rfl) (hx : Loc X.env.scope x := by first | exact Or.inl rfl | exact Or.inr rfl) (hs : ∀ x, foldedSetIterable it X.env x = pure x := by intro _; rfl) (hf : X.fn x = true ∨ X.env.scope.names.lookup x = some .local := by first | exact .inl rfl | exact .inr rfl) :
    JS X G W (.For (.Name x p) it sts [] pos) (dFor i (dAs fRange ts) t) := by
  obtain ⟨_, q, l⟩ := hw
  obtain ⟨_, r, m⟩ := hb
  exact ⟨_, ps_for C.own C.calm q (pg_name C.nd hi hx hf) r hs, ls_forR l m⟩
/-- the tests of a comprehension -/
def JI (X : Cx) (G : Gx) (ifs : List Expr) (t : DE) : Prop := ∃ T, PTs X ifs T ∧ LT G W0 t T
theorem ji_nil : JI X G [] dYes := ⟨_, pts_nil, fun F0 H0 ρ F σ H k QX QV S q hq _ => hq true F H (.refl S.same) q⟩
theorem ji_one (h : JT X G W0 a ta) : JI X G [a] ta := let ⟨_, p, l⟩ := h; ⟨_, pts_one p, l⟩
/-- one reading for all blocks -/
theorem pe_uni {I : Type} {Y : I → Cx} {e : Expr} {t : DE} {W : WX} (h : ∀ i, JE (Y i) G W e t) : ∃ T, (∀ i, PE (Y i) e T) ∧ LE G W t T := by
  classical
  let T : I → TE := fun i => Classical.choose (h i)
  have hT : ∀ i, PE (Y i) e (T i) ∧ LE G W t (T i) := fun i => Classical.choose_spec (h i)
  exact ⟨fun σ H Q => ∀ i, T i σ H Q, fun i => ⟨fun pins s σ H Q J q => (hT i).1.run pins s σ H Q J (q i)⟩, fun F0 H0 ρ F σ H Q QX QV S q hq hx i => (hT i).2 F0 H0 ρ F σ H Q QX QV S q hq hx⟩
theorem pts_uni {I : Type} {Y : I → Cx} {ifs : List Expr} {t : DE} (h : ∀ i, JI (Y i) G ifs t) : ∃ T, (∀ i, PTs (Y i) ifs T) ∧ LT G W0 t T := by
  classical
  let T : I → TT := fun i => Classical.choose (h i)
  have hT : ∀ i, PTs (Y i) ifs (T i) ∧ LT G W0 t (T i) := fun i => Classical.choose_spec (h i)
  exact ⟨fun σ H Q => ∀ i, T i σ H Q, fun i => ⟨fun pins s σ H Q J q => (hT i).1.run pins s σ H Q J (q i)⟩, fun F0 H0 ρ F σ H Q QX QV S q hq hx i => (hT i).2 F0 H0 ρ F σ H Q QX QV S q hq hx⟩
abbrev BI := Shared × Hp × Addr × List (Str × Addr) × List Addr
abbrev blkOf (X : Cx) (scope : Scope) (q : BI) : Cx := X.blk q.1 q.2.1 scope (compEnvC scope q.2.2.2.1 q.2.2.1 X.env) q.2.2.2.2
section
variable {scope : Scope} {elt iter : Expr} {ifs : List Expr} {tt : DE} {sp : Pos}
theorem LE.len {t : DE} {T : TE} (N : Nat) (h : ∀ F0 H0 (ρ : Env) F σ H (Q : DK) (QX : DX) (QV : VK), σ.length = N → SRep G F0 H0 F H σ ρ → t ρ Q QX → (∀ s v F' H', Post G F H s v F' H' → Q s → QV v H') → XWish G W F H σ QX → T σ H QV) : LE G W t (fun σ H Q => σ.length = N → T σ H Q) :=
  fun F0 H0 ρ F σ H Q QX QV S q hq hx hN => h F0 H0 ρ F σ H Q QX QV hN S q hq hx
theorem PE.len {e : Expr} {T : TE} (h : PE X e T) : PE X e (fun σ H Q => σ.length = X.N.length → T σ H Q) := ⟨fun pins s σ H Q I q => h.run pins s σ H Q I (q I.len)⟩
theorem j_lc (C : Cxt X G W k) (hw : JE X G W iter te) {el : DE} (ok : BlkOk X.N X.env.scope scope [(x, i)]) (ht : ∀ q : BI, JI (blkOf X scope q) G ifs tt) (he : ∀ q : BI, JE (blkOf X scope q) G W0 elt el)
    (hx : ∀ q : BI, Loc (blkOf X scope q).env.scope x := by exact fun _ => Or.inl rfl) (hf : ∀ q : BI, (blkOf X scope q).fn x = true ∨ (blkOf X scope q).env.scope.names.lookup x = some .local := by first | exact fun _ => .inr rfl | exact fun _ => .inl rfl)
    (hi : X.N[i]? = some x := by rfl) (hs : ∀ x, foldedSetIterable iter X.env x = pure x := by intro _; rfl) : JE X G W (.ListComp elt [⟨.Name x p, iter, ifs, 0⟩] scope pos) (dLc i te tt el) := by
  obtain ⟨Tw, q, l⟩ := hw
  obtain ⟨TT', h1, l1⟩ := pts_uni ht
  obtain ⟨Te, h2, l2⟩ := pe_uni he
  have hil : i < X.N.length := (List.getElem?_eq_some_iff.mp hi).1
  refine ⟨_, PE.len (pe_lc (own := [(x, i)]) C.calm C.nd (pi_seq q) ok (fun s H C' cl fp => pg_name (i := i) C.nd hi (hx (s, H, C', cl, fp)) (hf (s, H, C', cl, fp))) (fun s H C' cl fp => h1 (s, H, C', cl, fp)) (fun s H C' cl fp => h2 (s, H, C', cl, fp)) hs), LE.len _ ?_⟩
  intro F0 H0 ρ F σ H Q QX QV hN S qq hq hxx
  rw [C.K]
  exact le_lcA l l1 l2 (by rw [hN]; exact hil) S qq hq hxx
theorem j_lcR {tsR : DA} (C : Cxt X G W k) (hw : JR X G W n (.Name x p) iter tsR) {el : DE} (ok : BlkOk X.N X.env.scope scope [(x, i)]) (ht : ∀ q : BI, JI (blkOf X scope q) G ifs tt) (he : ∀ q : BI, JE (blkOf X scope q) G W0 elt el)
    (hx : ∀ q : BI, Loc (blkOf X scope q).env.scope x := by exact fun _ => Or.inl rfl) (hf : ∀ q : BI, (blkOf X scope q).fn x = true ∨ (blkOf X scope q).env.scope.names.lookup x = some .local := by first | exact fun _ => .inr rfl | exact fun _ => .inl rfl)
    (hi : X.N[i]? = some x := by rfl) (hs : ∀ x, foldedSetIterable iter X.env x = pure x := by intro _; rfl) : JE X G W (.ListComp elt [⟨.Name x p, iter, ifs, 0⟩] scope pos) (dLc i (dAs fRange tsR) tt el) := by
  obtain ⟨Tw, q, l⟩ := hw
  obtain ⟨TT', h1, l1⟩ := pts_uni ht
  obtain ⟨Te, h2, l2⟩ := pe_uni he
  have hil : i < X.N.length := (List.getElem?_eq_some_iff.mp hi).1
  refine ⟨_, PE.len (pe_lc (own := [(x, i)]) C.calm C.nd q ok (fun s H C' cl fp => pg_name (i := i) C.nd hi (hx (s, H, C', cl, fp)) (hf (s, H, C', cl, fp))) (fun s H C' cl fp => h1 (s, H, C', cl, fp)) (fun s H C' cl fp => h2 (s, H, C', cl, fp)) hs), LE.len _ ?_⟩
  intro F0 H0 ρ F σ H Q QX QV hN S qq hq hxx
  exact le_lcRA l l1 l2 (by rw [hN]; exact hil) S qq hq hxx
/-- y = [..] on one line -/
theorem s_setLcV {y : Nat} {yn : Str} {py spos : Pos} (C : Cxt X G W k) (hw : JE X G W iter te) {el : DE} (ok : BlkOk X.N X.env.scope scope [(x, i)]) (ht : ∀ q : BI, JI (blkOf X scope q) G ifs tt) (he : ∀ q : BI, JE (blkOf X scope q) G W0 elt el)
    (hsw : swapsWith (.ListComp elt [⟨.Name x p, iter, ifs, 0⟩] scope pos) (some (.Name yn py)) spos.line X.env = pure true)
    (hx : ∀ q : BI, Loc (blkOf X scope q).env.scope x := by exact fun _ => Or.inl rfl) (hf : ∀ q : BI, (blkOf X scope q).fn x = true ∨ (blkOf X scope q).env.scope.names.lookup x = some .local := by first | exact fun _ => .inr rfl | exact fun _ => .inl rfl)
    (hi : X.N[i]? = some x := by rfl) (hy : X.N[y]? = some yn := by rfl) (hyl : X.env.scope.names.lookup yn = some .local := by rfl) (hs : ∀ x, foldedSetIterable iter X.env x = pure x := by intro _; rfl) : JS X G W (.Assign [.Name yn py] (.ListComp elt [⟨.Name x p, iter, ifs, 0⟩] scope pos) spos) (dSetV y (dLc i te tt el)) := by
  obtain ⟨Tw, q, l⟩ := hw
  obtain ⟨TT', h1, l1⟩ := pts_uni ht
  obtain ⟨Te, h2, l2⟩ := pe_uni he
  have hil : i < X.N.length := (List.getElem?_eq_some_iff.mp hi).1
  have z := ps_setLc (i := y) (own := [(x, i)]) C.calm C.nd hy hyl hsw (pi_seq q) ok (fun s H C' cl fp => pg_name (i := i) C.nd hi (hx (s, H, C', cl, fp)) (hf (s, H, C', cl, fp))) (fun s H C' cl fp => h1 (s, H, C', cl, fp)) (fun s H C' cl fp => h2 (s, H, C', cl, fp)) hs
  refine ⟨fun D σ H => σ.length = X.N.length → _, ⟨fun pins s σ H D I h => z.run pins s σ H D I (h I.len)⟩, fun F0 H0 ρ F σ H N D' S E qq hN => ?_⟩
  rw [C.K]
  exact le_lcA l l1 l2 (by rw [hN]; exact hil) S qq (fun s v F1 H1 p q1 => by
    obtain ⟨F2, p2⟩ := p.view
    exact E.nx _ F2 _ H1 (S.set y p2) q1) (E.xw S)
theorem s_setLcRV {tsR : DA} {y : Nat} {yn : Str} {py spos : Pos} (C : Cxt X G W k) (hw : JR X G W n (.Name x p) iter tsR) {el : DE} (ok : BlkOk X.N X.env.scope scope [(x, i)]) (ht : ∀ q : BI, JI (blkOf X scope q) G ifs tt) (he : ∀ q : BI, JE (blkOf X scope q) G W0 elt el)
    (hsw : swapsWith (.ListComp elt [⟨.Name x p, iter, ifs, 0⟩] scope pos) (some (.Name yn py)) spos.line X.env = pure true)
    (hx : ∀ q : BI, Loc (blkOf X scope q).env.scope x := by exact fun _ => Or.inl rfl) (hf : ∀ q : BI, (blkOf X scope q).fn x = true ∨ (blkOf X scope q).env.scope.names.lookup x = some .local := by first | exact fun _ => .inr rfl | exact fun _ => .inl rfl)
    (hi : X.N[i]? = some x := by rfl) (hy : X.N[y]? = some yn := by rfl) (hyl : X.env.scope.names.lookup yn = some .local := by rfl) (hs : ∀ x, foldedSetIterable iter X.env x = pure x := by intro _; rfl) : JS X G W (.Assign [.Name yn py] (.ListComp elt [⟨.Name x p, iter, ifs, 0⟩] scope pos) spos) (dSetV y (dLc i (dAs fRange tsR) tt el)) := by
  obtain ⟨Tw, q, l⟩ := hw
  obtain ⟨TT', h1, l1⟩ := pts_uni ht
  obtain ⟨Te, h2, l2⟩ := pe_uni he
  have hil : i < X.N.length := (List.getElem?_eq_some_iff.mp hi).1
  have z := ps_setLc (i := y) (own := [(x, i)]) C.calm C.nd hy hyl hsw q ok (fun s H C' cl fp => pg_name (i := i) C.nd hi (hx (s, H, C', cl, fp)) (hf (s, H, C', cl, fp))) (fun s H C' cl fp => h1 (s, H, C', cl, fp)) (fun s H C' cl fp => h2 (s, H, C', cl, fp)) hs
  refine ⟨fun D σ H => σ.length = X.N.length → _, ⟨fun pins s σ H D I h => z.run pins s σ H D I (h I.len)⟩, fun F0 H0 ρ F σ H N D' S E qq hN => ?_⟩
  exact le_lcRA l l1 l2 (by rw [hN]; exact hil) S qq (fun s v F1 H1 p q1 => by
    obtain ⟨F2, p2⟩ := p.view
    exact E.nx _ F2 _ H1 (S.set y p2) q1) (E.xw S)
/-- .. a list of the def's own -/
theorem s_setLc {y : Nat} {yn : Str} {py spos : Pos} (C : Cxt X G W k) (hw : JE X G W iter te) {el : DE} (ok : BlkOk X.N X.env.scope scope [(x, i)]) (ht : ∀ q : BI, JI (blkOf X scope q) G ifs tt) (he : ∀ q : BI, JE (blkOf X scope q) G W0 elt el)
    (hsw : swapsWith (.ListComp elt [⟨.Name x p, iter, ifs, 0⟩] scope pos) (some (.Name yn py)) spos.line X.env = pure true)
    (hx : ∀ q : BI, Loc (blkOf X scope q).env.scope x := by exact fun _ => Or.inl rfl) (hf : ∀ q : BI, (blkOf X scope q).fn x = true ∨ (blkOf X scope q).env.scope.names.lookup x = some .local := by first | exact fun _ => .inr rfl | exact fun _ => .inl rfl)
    (hi : X.N[i]? = some x := by rfl) (hy : X.N[y]? = some yn := by rfl) (hyl : X.env.scope.names.lookup yn = some .local := by rfl) (hs : ∀ x, foldedSetIterable iter X.env x = pure x := by intro _; rfl) : JS X G W (.Assign [.Name yn py] (.ListComp elt [⟨.Name x p, iter, ifs, 0⟩] scope pos) spos) (dSet y (dLc i te tt el)) := by
  obtain ⟨Tw, q, l⟩ := hw
  obtain ⟨TT', h1, l1⟩ := pts_uni ht
  obtain ⟨Te, h2, l2⟩ := pe_uni he
  have hil : i < X.N.length := (List.getElem?_eq_some_iff.mp hi).1
  have z := ps_setLc (i := y) (own := [(x, i)]) C.calm C.nd hy hyl hsw (pi_seq q) ok (fun s H C' cl fp => pg_name (i := i) C.nd hi (hx (s, H, C', cl, fp)) (hf (s, H, C', cl, fp))) (fun s H C' cl fp => h1 (s, H, C', cl, fp)) (fun s H C' cl fp => h2 (s, H, C', cl, fp)) hs
  refine ⟨fun D σ H => σ.length = X.N.length → _, ⟨fun pins s σ H D I h => z.run pins s σ H D I (h I.len)⟩, fun F0 H0 ρ F σ H N D' S E qq hN => ?_⟩
  rw [C.K]
  exact le_lcA l l1 l2 (by rw [hN]; exact hil) S qq (fun s v F1 H1 p q1 => E.nx _ F1 _ H1 (S.set y p) q1) (E.xw S)
theorem s_setLcR {tsR : DA} {y : Nat} {yn : Str} {py spos : Pos} (C : Cxt X G W k) (hw : JR X G W n (.Name x p) iter tsR) {el : DE} (ok : BlkOk X.N X.env.scope scope [(x, i)]) (ht : ∀ q : BI, JI (blkOf X scope q) G ifs tt) (he : ∀ q : BI, JE (blkOf X scope q) G W0 elt el)
    (hsw : swapsWith (.ListComp elt [⟨.Name x p, iter, ifs, 0⟩] scope pos) (some (.Name yn py)) spos.line X.env = pure true)
    (hx : ∀ q : BI, Loc (blkOf X scope q).env.scope x := by exact fun _ => Or.inl rfl) (hf : ∀ q : BI, (blkOf X scope q).fn x = true ∨ (blkOf X scope q).env.scope.names.lookup x = some .local := by first | exact fun _ => .inr rfl | exact fun _ => .inl rfl)
    (hi : X.N[i]? = some x := by rfl) (hy : X.N[y]? = some yn := by rfl) (hyl : X.env.scope.names.lookup yn = some .local := by rfl) (hs : ∀ x, foldedSetIterable iter X.env x = pure x := by intro _; rfl) : JS X G W (.Assign [.Name yn py] (.ListComp elt [⟨.Name x p, iter, ifs, 0⟩] scope pos) spos) (dSet y (dLc i (dAs fRange tsR) tt el)) := by
  obtain ⟨Tw, q, l⟩ := hw
  obtain ⟨TT', h1, l1⟩ := pts_uni ht
  obtain ⟨Te, h2, l2⟩ := pe_uni he
  have hil : i < X.N.length := (List.getElem?_eq_some_iff.mp hi).1
  have z := ps_setLc (i := y) (own := [(x, i)]) C.calm C.nd hy hyl hsw q ok (fun s H C' cl fp => pg_name (i := i) C.nd hi (hx (s, H, C', cl, fp)) (hf (s, H, C', cl, fp))) (fun s H C' cl fp => h1 (s, H, C', cl, fp)) (fun s H C' cl fp => h2 (s, H, C', cl, fp)) hs
  refine ⟨fun D σ H => σ.length = X.N.length → _, ⟨fun pins s σ H D I h => z.run pins s σ H D I (h I.len)⟩, fun F0 H0 ρ F σ H N D' S E qq hN => ?_⟩
  exact le_lcRA l l1 l2 (by rw [hN]; exact hil) S qq (fun s v F1 H1 p q1 => E.nx _ F1 _ H1 (S.set y p) q1) (E.xw S)
end
/-- several names as targets -/
def JG (X : Cx) (is : List Nat) (es : List Expr) : Prop := PGs X es (gNs is)
theorem jg_nil : JG X [] [] := pgs_nil
theorem jg_cons {is : List Nat} (C : Cxt X G W k) (hr : JG X is es) (hi : X.N[i]? = some x := by rfl) (hx : Loc X.env.scope x := by first | exact Or.inl rfl | exact Or.inr rfl) (hf : X.fn x = true ∨ X.env.scope.names.lookup x = some .local := by first | exact .inl rfl | exact .inr rfl)
    (hs : (assignEach (.Name x p :: es) X.env).map (·.2) = assign (.Name x p) X.env :: (assignEach es X.env).map (·.2) := by rfl) : JG X (i :: is) (.Name x p :: es) := pgs_cons (pg_name C.nd hi hx hf) hr hs
theorem s_unp {is : List Nat} {kk m : Nat} (C : Cxt X G W k) (he : JE X G W e te) (hg : JG X is es) (hn : (assignEach es X.env).length = m := by rfl) (hm : m = is.length := by rfl) (hst : (assignEach es X.env).findIdx? (·.1) = none := by rfl)
    (hs : swapsWithSole [.Tuple es kk p] e pos.line X.env = pure false := by rfl) (hw : swappedStores [.Tuple es kk p] e X.env = pure none := by rfl) (h1 : (assignEach [.Tuple es kk p] X.env).map (·.2) = [assign (.Tuple es kk p) X.env] := by rfl) :
    JS X G W (.Assign [.Tuple es kk p] e pos) (dUnp is te) := by
  obtain ⟨_, q, l⟩ := he
  refine ⟨_, ps_asg q (pg_tup C.calm hg hn hst) hs hw h1, ?_⟩
  rw [C.K]
  exact ls_unp l hm
theorem s_unpL {is : List Nat} {kk m : Nat} (C : Cxt X G W k) (he : JE X G W e te) (hg : JG X is es) (hn : (assignEach es X.env).length = m := by rfl) (hm : m = is.length := by rfl) (hst : (assignEach es X.env).findIdx? (·.1) = none := by rfl)
    (hs : swapsWithSole [.Tuple es kk p] e pos.line X.env = pure false := by rfl) (hw : swappedStores [.Tuple es kk p] e X.env = pure none := by rfl) (h1 : (assignEach [.Tuple es kk p] X.env).map (·.2) = [assign (.Tuple es kk p) X.env] := by rfl) :
    JS X G W (.Assign [.Tuple es kk p] e pos) (dUnpL is te) := by
  obtain ⟨_, q, l⟩ := he
  refine ⟨_, ps_asg q (pg_unl C.calm hg hn hst) hs hw h1, ?_⟩
  rw [C.K]
  exact ls_unpL l hm
theorem s_par2 {i j : Nat} {x y : Str} {px py pt pt2 : Pos} {kt k2 : Nat} (C : Cxt X G W k) (ha : JA X G W 2 [a, b] ts) (hij : i ≠ j := by decide) (hi : X.N[i]? = some x := by rfl) (hj : X.N[j]? = some y := by rfl) (hx : X.env.scope.names.lookup x = some .local := by rfl) (hy : X.env.scope.names.lookup y = some .local := by rfl)
    (hw : swappedStores [.Tuple [.Name x px, .Name y py] kt pt] (.Tuple [a, b] k2 pt2) X.env = pure (some [x, y]) := by rfl) (hs : swapsWithSole [.Tuple [.Name x px, .Name y py] kt pt] (.Tuple [a, b] k2 pt2) pos.line X.env = pure false := by rfl) :
    JS X G W (.Assign [.Tuple [.Name x px, .Name y py] kt pt] (.Tuple [a, b] k2 pt2) pos) (dPar [i, j] ts) := let ⟨_, q, l⟩ := ha; ⟨_, ps_par C.calm C.nd hi hj hij hx hy q hw hs, ls_par2 l⟩
theorem s_par3 {i j l : Nat} {x y z : Str} {px py pz pt pt2 : Pos} {kt k2 : Nat} (C : Cxt X G W k) (ha : JA X G W 3 [a, b, c] ts) (hij : i ≠ j := by decide) (hil : i ≠ l := by decide) (hjl : j ≠ l := by decide) (hi : X.N[i]? = some x := by rfl) (hj : X.N[j]? = some y := by rfl) (hl : X.N[l]? = some z := by rfl)
    (hx : X.env.scope.names.lookup x = some .local := by rfl) (hy : X.env.scope.names.lookup y = some .local := by rfl) (hz : X.env.scope.names.lookup z = some .local := by rfl)
    (hw : swappedStores [.Tuple [.Name x px, .Name y py, .Name z pz] kt pt] (.Tuple [a, b, c] k2 pt2) X.env = pure (some [x, y, z]) := by rfl) (hs : swapsWithSole [.Tuple [.Name x px, .Name y py, .Name z pz] kt pt] (.Tuple [a, b, c] k2 pt2) pos.line X.env = pure false := by rfl) :
    JS X G W (.Assign [.Tuple [.Name x px, .Name y py, .Name z pz] kt pt] (.Tuple [a, b, c] k2 pt2) pos) (dPar [i, j, l] ts) := let ⟨_, q, m⟩ := ha; ⟨_, ps_par3 C.calm C.nd hi hj hl hij hil hjl hx hy hz q hw hs, ls_par3 m⟩
theorem s_parN {is : List Nat} {fs : List Expr} {kk k2 m : Nat} {pt2 : Pos} (C : Cxt X G W k) (ha : JA X G W n fs ts) (hg : JG X is es) (hnl : n = is.length := by rfl) (h16 : Nat.ble n 16777216 = true := by rfl) (hn : (assignEach es X.env).length = m := by rfl) (hm : m = n := by rfl) (hst : (assignEach es X.env).findIdx? (·.1) = none := by rfl)
    (hs : swapsWithSole [.Tuple es kk p] (.Tuple fs k2 pt2) pos.line X.env = pure false := by rfl) (hw : swappedStores [.Tuple es kk p] (.Tuple fs k2 pt2) X.env = pure none := by rfl) (h1 : (assignEach [.Tuple es kk p] X.env).map (·.2) = [assign (.Tuple es kk p) X.env] := by rfl) :
    JS X G W (.Assign [.Tuple es kk p] (.Tuple fs k2 pt2) pos) (dPar is ts) := by
  obtain ⟨_, q, l⟩ := ha
  subst hm
  refine ⟨_, ps_asg (pe_tup q) (pg_tup C.calm hg hn hst) hs hw h1, ?_⟩
  rw [C.K]
  exact ls_parN l hnl h16
theorem s_app {pa : Pos} (C : Cxt X G W k) (he : JE X G W e te) (hN : X.N[i]? = some x := by rfl) (hv : Vis X.env.scope x := by first | exact Or.inl rfl | exact Or.inr (Or.inl rfl)) (hd : (x == ("__debug__" : Str)) = false := by decide) (hcd : (x == ("__classdict__" : Str)) = false := by decide)
    (hbase : attributeBase (.Name x p) "append" X.env (eval (.Name x p) X.env) = eval (.Name x p) X.env := by rfl)
    (hfew : ((backTo p2 (starEach [e] X.env)).all (fun x => !x.1) && (backToKw p2 (keywordEach [] X.env)).all (fun x => x.1.isSome)
      && decide ([e].length + ([] : List Keyword).length + (if ([] : List Keyword).isEmpty then 0 else 1) < 30)) = true := by rfl)
    (hline : (pa.endLine == p2.line) = true := by rfl) (hst : starEach [e] X.env = [(false, eval e X.env)] := by rfl)
    (hs : swapsWith (.Call (.Attribute (.Name x p) "append" pa) [e] [] p2) none pos.line X.env = pure false := by rfl) : JS X G W (.Expr (.Call (.Attribute (.Name x p) "append" pa) [e] [] p2) pos) (dApp i te) := by
  obtain ⟨_, q, l⟩ := he
  refine ⟨_, ps_expr (pe_bm PySem.F.plainAttrs_list PySem.F.slot_list_append PySem.F.type_list_append mt_append (pe_var hN hv hd hcd) (pa_cons q pa_nil hst) hbase hfew hline hst) hs, ?_⟩
  rw [C.K]
  exact ls_app l
theorem s_aug (C : Cxt X G W k) (he : JE X G W e te) (hi : X.N[i]? = some x := by rfl) (hx : Loc X.env.scope x := by first | exact Or.inl rfl | exact Or.inr rfl) (hf : X.fn x = true ∨ X.env.scope.names.lookup x = some .local := by first | exact .inl rfl | exact .inr rfl) :
    JS X G W (.AugAssign (.Name x p) .Add e pos) (dAug i iAdd te) := by
  obtain ⟨Te, q, l⟩ := he
  refine ⟨_, ps_aug C.nd hi hx q ip_add hf, fun F0 H0 ρ F σ H N D' S E qq => ?_⟩
  have qq : (slotAt ρ i).datum fun d => te ρ (fun s => s.use fun y => iAdd d y fun s => N.nx (ρ.set i s)) fun e => N.xc e ρ := qq
  unfold slotAt at qq
  cases hs : ρ[i]? with
  | none => rw [hs] at qq; exact qq.elim
  | some s =>
    rw [hs] at qq
    cases s with
    | val d =>
      obtain ⟨v, h1, h2⟩ := S.sl i _ hs
      refine ⟨v, h1, l.v S qq (fun y u F1 H1 e1 r1 q1 => ?_) (E.xw S)⟩
      cases d <;> cases y <;> first | exact q1.elim | skip
      exact ⟨_, _, h2, r1, E.nx _ F1 _ H1 ((S.ext e1).set i (s := .val (.int _)) (.val (.refl e1.fh) (show Rep G F1 (.int _) (.int _) from rfl))) q1⟩
    | _ => exact qq.elim
theorem cxt_def {P : Program} {w : World} {G : Gx} {mg : Str → Option Value} {base : Heap} {N : List Str} {x : Str} {sc : Scope} {f : Addr} {cdv : Value} {A : Around} {outer : List PySem.Env} {s : Shared} {H : Hp} {E : XK} {k : Nat} (hN : N.Nodup) (hr : Room k (A.deeper (envOfC x sc s.heap.objs.size f cdv))) :
    Cxt (cxOf (L2.CX P w) P w G.K mg base N x sc f cdv A outer s H E) G (fun cls d _ H => E cls d H) k := by
  have tk : Takes (cxOf (L2.CX P w) P w G.K mg base N x sc f cdv A outer s H E) (fun cls d _ H => E cls d H) := takes_of rfl rfl rfl rfl
  exact ⟨rfl, rfl, hN, hr, fun σ => passAt tk σ, passes_of rfl, tk⟩
end
end DL
namespace DL
open PySem PySem.Spec PyProof.Rows L2
theorem bt_int : bootBuiltins "int" = some (.type "int") := by decide +kernel
theorem bt_bool : bootBuiltins "bool" = some (.type "bool") := by decide +kernel
theorem bt_tuple : bootBuiltins "tuple" = some (.type "tuple") := by decide +kernel
theorem bt_list : bootBuiltins "list" = some (.type "list") := by decide +kernel
theorem bt_str : bootBuiltins "str" = some (.type "str") := by decide +kernel
end DL

/- DLf -/
namespace DL
open PySem PySem.Spec PyProof.Rows L2
/-- what of the heap is looked at -/
def asX (g : Addr → Option Obj) (n : Nat) : List Addr := He.asD g n ++ [cStatics]
/-- the defs, the facts, and a check of the written part -/
def hookX (n : Nat) (fa : List He.Fa) (fn : List He.DefD) (chk : PySem.W.Frag → Bool) : PySem.W.Hook where
  α := He.AlD × Bool
  obs := fun s => (He.obsD fa fn (He.frG s.heap.get? (asX s.heap.get? n)), chk (He.frG s.heap.get? (asX s.heap.get? n)))
  val := fun _ => (He.valD fn, true)
  says := fun _ h => ∃ K : PySem.W.Frag, K.In h ∧ He.SaysD fa fn K ∧ chk K = true
  of := fun _ s e => ⟨He.frG s.heap.get? (asX s.heap.get? n), He.frG_in, congrArg Prod.fst e, congrArg Prod.snd e⟩
  keeps := fun _ _ _ ⟨K, hK, c⟩ k => ⟨K, PySem.W.Frag.In.keeps hK k, c⟩
def obX (n : Nat) (fa : List He.Fa) (fn : List He.DefD) (chk : PySem.W.Frag → Bool) (g : Addr → Option Obj) : He.AlD × Bool := (He.obsD fa fn (He.frG g (asX g n)), chk (He.frG g (asX g n)))
theorem obX_eq {n : Nat} {fa : List He.Fa} {fn : List He.DefD} {chk : PySem.W.Frag → Bool} {g : Addr → Option Obj} {s : Shared} (h : ∀ a, g a = s.heap.get? a) : obX n fa fn chk g = (hookX n fa fn chk).obs s := by
  have e : g = s.heap.get? := funext h
  rw [e] <;> rfl
theorem ints_rep {G : Gx} {F : Hp} : ∀ ns : List Int, RepL G F (ns.map D.int) (ns.map V.int)
  | [] => rfl
  | n :: ns => ⟨V.int n, _, rfl, rfl, ints_rep ns⟩
/-- the law's promise from its reading over data -/
theorem law_sp {G : Gx} {f : DF} {ns : List Int} {H : Hp} {a : Addr} (h : f [.lst (ns.map D.int)] (fun s => s = .val (.bl true)) fun _ => False) (hS : SqL G.K H a (ns.map V.int)) : spD G f [.ref a] H (fun v _ => v = .bl true) fun _ _ _ => False := by
  refine ⟨H, [.lst (ns.map D.int)], _, _, Same.refl _, ⟨.ref a, [], rfl, ⟨a, _, rfl, hS, ints_rep ns⟩, rfl⟩, h, fun s v F' H' p e => ?_, fun x q => q.elim⟩
  subst e
  exact p.v
/-- a law's end: F gives the written part, the function object, the promise over every base -/
theorem walk_ofX {l : PySem.W.OpenLaw} {n k : Nat} {q : Program} {loose : List Str} {XP : (Str → Option Value) → Heap → Prop} {YP : World → Heap → Prop} {d : DefRec} {CX : World → CXT} {x : Str}
    (hn : l.most = some n) (hn2 : n ≤ sizeLine) (hdf : d.params.defaults = []) (hr : Room k callerA)
    (F : ∀ (w : World) (mg : Str → Option Value) (fa : Addr) (h : Heap), YP w h → h.Ns mainGlobals mg → mg d.name = some (.ref fa) →
      ∃ (K : PySem.W.Frag) (fd : FuncData) (sp : Sp), K.In h ∧ (∀ (s : Shared) (u : Value), BindsTo s fd ⟨[u], []⟩ [(x, u)]) ∧
        (∀ (H : Hp) (a : Addr) (ns : List Int), ns.length ≤ n → (∀ z ∈ ns, bits z ≤ 1048576) → SqL K H a (ns.map V.int) → sp [.ref a] H (fun v _ => v = .bl true) fun _ _ _ => False) ∧
        ∀ base : Heap, K.In base → base.Ns mainGlobals mg → FnOk l.prog w K mg base (CX w) k fa fd [x] sp)
    (hCX : ∀ (w : World) (H : Hp) (s : Shared) (e : Value) (s' : Shared), CX w [] H s (fun _ _ _ => False) e s' → False) :
    PySem.W.WalkO q loose XP YP l.row.toRowW d [] (fun f vs => PySem.call f vs) := by
  refine Att.attach_callB hn hdf fun w s₀ s₁ mg mb fa o pm cd doc a vs ns G Y ho hd hcd hmg hobj hints hlen hbits hg => ?_
  obtain ⟨K, fd, sp, KX, hb, hsp, hF⟩ := F w mg fa _ Y G.T.g hmg
  exact law_call KX G.T.g G.T.b G.T.builtins G.T.nolimit hg hobj hints (Nat.le_trans hlen hn2) hr hF hb (fun H hO hS => hsp H a ns hlen (fun z hz => by rw [bits_eq]; exact hbits z hz) hS) fun H e s' => hCX w H s₁ e s'
theorem cx_none {P : Program} {w : World} {H : Hp} {s : Shared} {e : Value} {s' : Shared} (h : L2.CX P w [] H s (fun _ _ _ => False) e s') : False := by
  obtain ⟨_, _, _, _, _, _, _, _, _, _, _, _, z⟩ := h
  exact z.elim
theorem defAt {G : Gx} {mg : Str → Option Value} {h : Heap} {fa : List He.Fa} {fn : List He.DefD} {x : Str} {st : Stmt} (X : G.K.In h) (N : h.Ns mainGlobals mg) (c : He.SaysD fa fn G.K) (i j : Nat) (hi : fn[i]? = some ⟨(x, none), x, x, defArgs st, defBody st, defScope st, [], []⟩) (hj : fa[j]? = some (.glo x)) : DefAt G mg x st := by
  obtain ⟨fd, F⟩ := c.def_ i hi
  exact ⟨_, fd, He.glo_ok X N (c.fact j hj), F⟩
end DL

/- DLx -/
namespace DL
open PySem PySem.Spec PyProof.Rows L2
theorem exK_ok {P : Program} {w : World} {H : Hp} {h : Heap} {a : Addr} {cls : Value} {d : Option Addr} {oe : Obj} {vs : Array Value} (e : h.get? a = some oe) (z : Zc cls d oe) (dt : oe.data = .fields vs) : ObjOk P w H h a (ExK cls d a) :=
  ⟨⟨oe, vs, e, z, dt⟩, ⟨oe, e⟩, fun _ _ ⟨o, v, q, r⟩ k => ⟨o, v, k o q, r⟩⟩
section
variable {X : Cx} {pins : List (Addr × Obj)} {σ : Sg} {H : Hp} {s : Shared}
/-- a pinned exception, new since the entry, is told by the abstract heap -/
theorem track {a : Addr} {oe : Obj} {vs : Array Value} {cls : Value} {d : Option Addr} (I : Inv X ((a, oe) :: pins) σ H s) (z : Zc cls d oe) (hd : oe.data = .fields vs) (n0 : X.s_0.heap.get? a = none) (np : ∀ p ∈ X.pn ++ pins, p.1 ≠ a) :
    H a = none ∧ Inv X pins σ (upd H a (ExK cls d a)) s := by
  obtain ⟨ha, hn, nL, nF, nc⟩ := I.pin (a, oe) (List.mem_append_right _ List.mem_cons_self)
  have ne0 : ∀ b o, X.s_0.heap.get? b = some o → b ≠ a := fun b o e q => by rw [q, n0] at e; cases e
  have nx : ∀ {b : Addr} {u : HO}, H b = some u → b ≠ a := fun {b u} e => ne_of_none e hn
  refine ⟨hn, I.ok, I.os, I.bare, ⟨I.base.keep, I.base.slot, fun b o e n hb => ?_, I.base.there, fun b xs e => ?_, fun b o u e => ?_, fun b ps e => ?_⟩, I.loc, I.cell, ?_, fun x c e => ?_, fun p hp => ?_, fun b u e => ?_, I.len⟩
  · rw [upd_ne (ne0 b o e)]; exact I.base.free b o e n hb
  · have q := I.base.tups b xs e
    rw [upd_ne (nx q)]; exact q
  · have q := I.base.frzs b o u e
    rw [upd_ne (nx q)]; exact q
  · obtain ⟨m, q⟩ := I.base.tbls b ps e
    exact ⟨m, by rw [upd_ne (nx q)]; exact q⟩
  · rw [upd_ne (Ne.symm nL)]; exact I.free
  · have hc : c ≠ a := fun q => by
      obtain ⟨v, o, ho, hdc⟩ := I.cell x c e
      rw [q] at ho
      have ho' : s.heap.get? a = some o := ho
      have : oe = o := Option.some.inj (ha.symm.trans ho')
      subst this
      exact nc _ hdc
    rw [upd_ne hc]; exact I.freeC x c e
  · have hp' : p ∈ X.pn ++ ((a, oe) :: pins) := by
      rcases List.mem_append.mp hp with h | h
      · exact List.mem_append_left _ h
      · exact List.mem_append_right _ (List.mem_cons_of_mem _ h)
    obtain ⟨e, n, ne, nf, dd⟩ := I.pin p hp'
    exact ⟨e, by rw [upd_ne (np p hp)]; exact n, ne, nf, dd⟩
  · by_cases hb : b = a
    · subst hb
      rw [upd_same] at e; cases e
      exact exK_ok ha z hd
    · rw [upd_ne hb] at e
      exact (I.hok b u e).stay (fun c v _ q => q) (fun c q => by rw [upd_ne (nx q)]; exact q) fun c xs q => by rw [upd_ne (nx q)]; exact q
theorem unsuiteP {a : Addr} {oe : Obj} (I : Inv (X.suite a ((a, oe) :: (X.pn ++ pins))) [] σ H s) (ok : X.Ok) : Inv X ((a, oe) :: pins) σ H s :=
  ⟨ok, I.os, I.bare, I.base, I.loc, I.cell, I.free, I.freeC, fun p hp => I.pin p (by
    have hp' : p ∈ X.pn ++ ((a, oe) :: pins) := hp
    refine List.mem_append_left _ ?_
    rcases List.mem_append.mp hp' with h | h
    · exact List.mem_cons_of_mem _ (List.mem_append_left _ h)
    · rcases List.mem_cons.mp h with h | h
      · rw [h]; exact List.mem_cons_self
      · exact List.mem_cons_of_mem _ (List.mem_append_right _ h)), I.hok, I.len⟩
end
/-- what the clause 'except x as n: suite' wishes, where the exception is kept behind it -/
def wKeep (K : PySem.W.Frag) (c : Value) (i m : Nat) (ts : Addr → Value → Option Addr → TS) (D : Ends) : WX := fun cls d σ H =>
  PySem.W.exmOne K cls c = some true ∧ ∀ a, H a = none → σ.length = m → ts a cls d { nx := fun σ' H' => H' a = none → D.nx (σ'.set i none) (upd H' a (ExK cls d a)), rt := fun _ _ => False, bk := fun _ _ => False, ct := fun _ _ => False } (σ.set i (some (.ref a))) H
section
variable {X : Cx} {x n : Str} {c : Value} {i : Nat} {body suite : List Stmt} {b₀ : Stmt} {np pos pos' : Pos} {tb : WX → TS} {ts : Addr → Value → Option Addr → TS}
theorem ps_try_keep (hs : X.stack = X.env :: X.outer) (hf : X.env.frame = some X.env.locals) (hex : X.ex = []) (hN : X.N.Nodup) (hi : X.N[i]? = some n) (hln : X.env.kindOf n = some .local) (hc : Names X x c)
    (hb : ∀ (W : WX) (pn : List (Addr × Obj)) (xe : Value → Shared → Prop), Takes (X.tr pn xe) W → PassesOwn (model X.prog X.w) X.A X.env xe → PSs (X.tr pn xe) body (tb W))
    (hsu : ∀ (a : Addr) (oe : Obj) (cls : Value) (d : Option Addr) (pn : List (Addr × Obj)), Zc cls d oe → (∃ vs, oe.data = .fields vs) → PSs (X.suite a ((a, oe) :: pn)) (b₀ :: suite) (ts a cls d)) :
    PS X (.Try body [.ExceptHandler (some (.Name x np)) (some n) (b₀ :: suite) pos'] [] [] pos) (fun D σ H => tb (wKeep X.K c i X.N.length ts D) D σ H) := by
  refine ⟨fun pins s σ H D I h => ?_⟩
  have ok := I.ok
  have hfr : X.A.frames = some (X.env :: X.outer) := by rw [ok.frames, hs]
  have hloc : Loc X.env.scope n := .inl hln
  refine wpAny_Try_except ?_
  refine wpAny_mono ((hb (wKeep X.K c i X.N.length ts D) (X.pn ++ pins) (fun e s₁ => wpAny (model X.prog X.w) X.A (noteFrame e X.env) (fun _ s₂ => wpAny (model X.prog X.w) X.A (setFlight e none) (fun _ s₃ =>
    wpAny (model X.prog X.w) X.A (handleBy e X.env [.ExceptHandler (some (.Name x np)) (some n) (b₀ :: suite) pos']) (SP X pins D) X.xe s₃) X.xe s₂) X.xe s₁) (fun u s' xx => ?_) PassesOwn.looking).run [] s σ H D (I.toTry _) h) (fun f s1 hsp => ?_) (fun e s1 he => he)
  · obtain ⟨a, B, sI, pins', σ', H', cls, d, rfl, J', nb, up, sky, na, os, ag, hb1, hyes⟩ := xx
    have J : Inv X pins σ' H' sI := J'.ofTry ok
    have sky' : Sky B (X.env :: X.outer) a (Zc cls d) X.env.locals s'.heap := by rw [← hs]; exact sky
    have Ba : B.get? a = none := by
      rcases sky' with ⟨_, z, _⟩ | ⟨_, z, _⟩ | ⟨_, z, _⟩ <;> exact z
    show wpAny (model X.prog X.w) X.A (noteFrame (.ref a) X.env) _ _ _
    refine Sky.land Zc.steady hfr hf sky' fun h3 fl3 up3 => ?_
    have J3 : Inv X pins σ' H' { s' with heap := h3 } := J.landed nb fl3.1 (up.trans up3) os ag
    obtain ⟨oe3, vs3, he3, hz3, hd3⟩ := fl3.there
    have notFr : ∀ {h : Heap} {o : Obj} {vs : Array Value}, h.FunFrames B (X.env :: X.outer) → h.get? a = some o → o.data = .fields vs → a ∉ frs (X.env :: X.outer) := fun {h o vs} ff e dd hm => by
      obtain ⟨_, o', e', hnf⟩ := ff.mem hm
      rw [e] at e'; cases e'
      exact hnf _ dd
    have nfr := notFr fl3.2.2.1 he3 hd3
    have nL : a ≠ X.env.locals := fun z => nfr (List.mem_filterMap.mpr ⟨X.env, List.mem_cons_self, by rw [hf, z]⟩)
    have nF : a ∉ X.fs := fun hm => by
      obtain ⟨e, he, q⟩ := List.mem_filterMap.mp hm
      exact nfr (List.mem_filterMap.mpr ⟨e, List.mem_cons_of_mem _ he, q⟩)
    have sIa : sI.heap.get? a = none := by
      cases e : sI.heap.get? a with
      | none => rfl
      | some o =>
        have z := nb a o e (by rw [hs]; exact nfr)
        rw [Ba] at z; cases z
    have n0 : X.s_0.heap.get? a = none := by
      cases e : X.s_0.heap.get? a with
      | none => rfl
      | some o =>
        obtain ⟨o', z⟩ := J.base.there a o e (by rw [hex]; exact fun z => nomatch z)
        rw [sIa] at z; cases z
    have npin : ∀ p ∈ X.pn ++ pins, p.1 ≠ a := fun p hp z => by
      have q := (J.pin p hp).1
      rw [z, sIa] at q; cases q
    have S3 := J3.suite he3 hd3 na nL nF
    refine wpAny_handleBy_cons (codeAny_handlers_test ?_) (by intro q; cases q)
    have LT : PySem.W.Looks (model X.prog X.w) h3 (typeOf (.ref a)) cls := fun A Q E s k q => wpAny_typeOf_ref (k _ _ he3) (by rw [hz3.1]; exact q)
    have LM := PySem.W.exm_one (M := model X.prog X.w) (J3.kIn) LT hb1
    have test : ∀ {Q : Value → Shared → Prop} {E : Value → Shared → Prop}, Q c { s' with heap := h3 } → wpAny (model X.prog X.w) (X.A.mark (some (.ref a))) (eval (.Name x np) X.env) Q E { s' with heap := h3 } := fun {Q E} q => by
      obtain ⟨hg, hdbg, hm | ⟨hm, hv, hnn⟩⟩ := hc
      · exact ld_glob (X := X.suite a ((a, oe3) :: (X.pn ++ pins))) S3 hg hm q hdbg
      · exact ld_blt (X := X.suite a ((a, oe3) :: (X.pn ++ pins))) S3 hg hm hv q hnn hdbg
    refine test (LM.here ?_)
    refine codeAny_handlers_suite_as ?_
    refine HandSPX.lands_againZ fl3 fun h4 fl4 up4 => ?_
    have J4 : Inv X pins σ' H' { s' with heap := h4 } := J.landed nb fl4.1 ((up.trans up3).trans up4) os ag
    obtain ⟨oe4, vs4, he4, hz4, hd4⟩ := fl4.there
    have S4 := J4.suite he4 hd4 na nL nF
    refine store_ok (X := X.suite a ((a, oe4) :: (X.pn ++ pins))) (v := .ref a) S4 hN hi hloc rfl (fun s5 S5 => ?_) (.inr hln)
    refine wpAny_mono ((hsu a oe4 cls d (X.pn ++ pins) hz4 ⟨_, hd4⟩).run [] s5 _ H' _ S5 (hyes a na J.len)) (fun f s6 hsp => ?_) (fun _ _ z => False.elim z)
    cases f with
    | next =>
      obtain ⟨σ6, H6, S6, q6⟩ := hsp
      exact gone_ok (unsuiteP S6 ok) hN hi hln fun s7 J7 => by
        obtain ⟨z1, z2⟩ := track J7 hz4 hd4 n0 npin
        exact ⟨_, _, z2, q6 z1⟩
    | brk =>
      obtain ⟨σ6, H6, S6, q6⟩ := hsp
      exact False.elim q6
    | cont =>
      obtain ⟨σ6, H6, S6, q6⟩ := hsp
      exact False.elim q6
    | ret u =>
      obtain ⟨v6, σ6, H6, S6, r6, q6⟩ := hsp
      exact False.elim q6
  · cases f with
    | next =>
      obtain ⟨σ', H', J', q⟩ := hsp
      exact wpAny_execs_nil ⟨σ', H', J'.ofTry ok, q⟩
    | brk =>
      obtain ⟨σ', H', J', q⟩ := hsp
      exact ⟨σ', H', J'.ofTry ok, q⟩
    | cont =>
      obtain ⟨σ', H', J', q⟩ := hsp
      exact ⟨σ', H', J'.ofTry ok, q⟩
    | ret u =>
      obtain ⟨v, σ', H', J', r, q⟩ := hsp
      exact ⟨v, σ', H', J'.ofTry ok, r, q⟩
end
/-- what a class must say so that its instances can be asked -/
structure KxC (K : PySem.W.Frag) (C : Addr) : Prop where
  cl : (PySem.W.clsIn K C).isSome = true
  hg : PySem.W.findIn K (.ref C) "__getattribute__" = some (some (.builtin "BaseException.__getattribute__"))
  hk : PySem.W.findIn K (.ref C) "__getattr__" = some none
  hs : PySem.W.subIn K (.ref C) (.type "BaseException") = some true
  hd : PySem.W.hasDictIn K C = true
  ha : PySem.W.findIn K (.ref C) "__class__" = some (some (.builtin "object.__class__"))
  hn : PySem.W.specialIn K (.builtin "object.__class__") "__get__" = some (some (.builtin "getset_descriptor.__get__"))
  ht : PySem.W.takesIn K (.builtin "object.__class__") = some true
  hm : PySem.W.mroIn K C (.type "object") = some true
/-- a value's type: TyX, or a kept exception's class -/
inductive TyK (K : PySem.W.Frag) (H : Hp) : V → Value → Prop where
  | base {x : V} {t : Value} (h : TyX K H x t) : TyK K H x t
  | exc {a C : Addr} (C1 : KxC K C) (e : H a = some (ExK (.ref C) none a)) : TyK K H (.ref a) (.ref C)
  | excD {a C dd : Addr} {fs : List (Str × V)} (C1 : KxC K C) (e : H a = some (ExK (.ref C) (some dd) a)) (e2 : H dd = some (.xd fs)) : TyK K H (.ref a) (.ref C)
def rIsK (K : PySem.W.Frag) : List V → Hp → VK → Prop := fun xs H Q => ∃ (x c : V) (t u : Value) (b : Bool), xs = [x, c] ∧ ClsV c u ∧ TyK K H x t ∧ PySem.W.kitOne K t u = some b ∧ Q (.bl b) H
def rIsKT (K : PySem.W.Frag) : List V → Hp → VK → Prop := fun xs H Q => ∃ (x : V) (tp : Addr) (cs : List V) (t : Value) (us : List Value) (b : Bool), xs = [x, .ref tp] ∧ H tp = some (.tup cs) ∧ Paired ClsV cs us ∧ TyK K H x t ∧ PySem.W.kitAny K t us = some b ∧ Q (.bl b) H
section
variable {X : Cx} {pins : List (Addr × Obj)} {σ : Sg} {H : Hp} {s : Shared}
theorem exK_at {P : Program} {w : World} {h : Heap} {a : Addr} {cls : Value} {d : Option Addr} (hok : HOk P w H h) (e : H a = some (ExK cls d a)) : ∃ (oe : Obj) (vs : Array Value), h.get? a = some oe ∧ Zc cls d oe ∧ oe.data = .fields vs := by
  have x : ObjOk P w H h a (ExK cls d a) := hok a _ e
  exact x.1
theorem xd_at {P : Program} {w : World} {h : Heap} {a : Addr} {fs : List (Str × V)} (hok : HOk P w H h) (e : H a = some (.xd fs)) : ∃ mA, h.Ns1 a mA ∧ ∀ f, RelO (fs.lookup f) (mA f) := hok a _ e
theorem kit_ofK {x : V} {u t : Value} (I : Inv X pins σ H s) (rx : RelV x u) (ty : TyK X.K H x t) : ∃ P : Heap → Prop, PySem.W.KitX X.K u t P ∧ P s.heap ∧ u ≠ .builtin "__main__.__loader__#opaque" := by
  cases ty with
  | base b => exact kit_of I rx b
  | @exc a C C1 e =>
    cases (show u = Value.ref a from rx)
    obtain ⟨oe, vs, h1, h2, h3⟩ := exK_at I.hok e
    exact ⟨_, PySem.W.kitx_exc (ox := oe) (od := none) C1.cl C1.hg C1.hk C1.hs C1.ha C1.hn C1.ht C1.hm, ⟨h1, h2.1, by unfold PySem.W.notCls; rw [h3] <;> rfl, by rw [h2.2]; trivial⟩, fun z => nomatch z⟩
  | @excD a C dd fs C1 e e2 =>
    cases (show u = Value.ref a from rx)
    obtain ⟨oe, vs, h1, h2, h3⟩ := exK_at I.hok e
    obtain ⟨mA, ⟨od, es, ep, ho, _⟩, _⟩ := xd_at I.hok e2
    exact ⟨_, PySem.W.kitx_exc (ox := oe) (od := some od) C1.cl C1.hg C1.hk C1.hs C1.ha C1.hn C1.ht C1.hm, ⟨h1, h2.1, by unfold PySem.W.notCls; rw [h3] <;> rfl, by rw [h2.2]; exact ho⟩, fun z => nomatch z⟩
theorem call_isK : CallR X (.builtin "isinstance") (rIsK X.K) := by
  intro pins s σ H xs us Q I r h
  obtain ⟨x, c, t, u, b, rfl, k, ty, e, q⟩ := h
  obtain ⟨u1, u2, rfl, r1, r2⟩ := vals2 r
  have e2 := k.eq r2
  subst e2
  obtain ⟨P, Z, p, hx⟩ := kit_ofK I r1 ty
  exact PySem.W.kia_one Z I.kIn p e hx fun tk => ⟨.bl b, H, I.tok tk, rfl, q⟩
theorem call_isKT : CallR X (.builtin "isinstance") (rIsKT X.K) := by
  intro pins s σ H xs us Q I r h
  obtain ⟨x, tp, cs, t, ws, b, rfl, hT, k, ty, e, q⟩ := h
  obtain ⟨u1, u2, rfl, r1, r2⟩ := vals2 r
  cases (show u2 = Value.ref tp from r2)
  obtain ⟨P, Z, p, hx⟩ := kit_ofK I r1 ty
  obtain ⟨_, its, rv, o, h1, h2, n, h3⟩ := (show ObjOk X.prog X.w H s.heap tp (.tup cs) from I.hok tp _ hT)
  have e3 := ClsV.all k rv
  subst e3
  obtain ⟨oc, od, dt, sl⟩ := o
  simp only at h2 h3
  subst h2 h3
  exact PySem.W.kia_tup Z I.kIn p h1 e hx fun tk => ⟨.bl b, H, I.tok tk, rfl, q⟩
/-- e.f of a kept exception -/
def tXk (K : PySem.W.Frag) (f : Str) (te : TE) : TE := fun σ H Q => te σ H fun x H1 => ∃ (a C dd : Addr) (fs : List (Str × V)) (v : V), x = .ref a ∧ KxC K C ∧ PySem.W.findIn K (.ref C) f = some none ∧ H1 a = some (ExK (.ref C) (some dd) a) ∧ H1 dd = some (.xd fs) ∧ fs.lookup f = some v ∧ Q v H1
theorem pe_xk {e : Expr} {te : TE} {pos : Pos} {n : Str} (he : PE X e te) (hb : attributeBase e n X.env (eval e X.env) = eval e X.env := by rfl) : PE X (.Attribute e n pos) (tXk X.K n te) := by
  refine ⟨fun pins s σ H Q I h => ?_⟩
  refine attr_of hb (thn (he.run pins s σ H _ I h) fun u s1 hh => ?_)
  obtain ⟨x, H1, I1, rx, a, C, dd, fs, v, ex, T, hno, ea, ed, l, q⟩ := hh
  subst ex
  obtain rfl : u = Value.ref a := rx
  obtain ⟨oe, vs, ha, hz, hd⟩ := exK_at I1.hok ea
  obtain ⟨mA, hns, hr⟩ := xd_at I1.hok ed
  obtain ⟨od, ho, hl⟩ := lookIn_ns hns
  obtain ⟨u, hu, ru⟩ := RelO.some_of (v := v) (o := mA n) (by rw [← l]; exact hr n)
  have J : PySem.W.InstAt s1.heap a oe C (some od) := ⟨ha, hz.1, by unfold PySem.W.notCls; rw [hd] <;> rfl, by rw [hz.2]; exact ho⟩
  exact HandSPX.exc_get I1.kIn J T.hg T.hk T.hs (PySem.W.findObj_own T.hd hno rfl (by rw [hl, hu])) (handed_of ru) ⟨v, H1, I1.tok _, ru, q⟩
end

/-- the classes of refusals by their numbers: their fields -/
def XF : Nat → List Str := fun c => ([["turn"], ["form"], ["number", "most"], ["number"], ["form"], ["turn"], [], ["form"], ["number"], [], ["point"], [], ["form", "measure", "ground"], ["form", "measure", "ways"], []] : List (List Str)).getD c []
structure XTab (G : Gx) : Prop where
  kx : ∀ c, c < 11 → KxC G.K (G.cm c)
  one : ∀ c j, c < 11 → j < 11 → PySem.W.kitOne G.K (.ref (G.cm c)) (.ref (G.cm j)) = some (c == j)
  ve : ∀ c, c < 11 → PySem.W.kitOne G.K (.ref (G.cm c)) (.type "ValueError") = some true
  n1 : ∀ j, j < 11 → PySem.W.kitOne G.K (.type "NoneType") (.ref (G.cm j)) = some false
  ex : ∀ c, c < 11 → PySem.W.exmOne G.K (.ref (G.cm c)) (.ref (G.cm 11)) = some true
  nf : ∀ c f, c < 11 → f ∈ XF c → PySem.W.findIn G.K (.ref (G.cm c)) f = some none
  fn : ∀ c, c < 11 → G.fnm c = XF c
theorem nve (K : PySem.W.Frag) : PySem.W.kitOne K (.type "NoneType") (.type "ValueError") = some false := by
  unfold PySem.W.kitOne
  rw [if_neg (by decide)]
  show (if PySem.W.kitMeta "ValueError" = true then PySem.W.subIn K (.type "NoneType") (.type "ValueError") else none) = some false
  rw [if_pos (by decide +kernel)]
  exact (by decide +kernel : (fastBuiltinMro "NoneType").map (·.contains (Value.type "ValueError")) = some false)
section
variable {G : Gx} {W : WX} {ta : DE} {Ta : TE}
theorem obj_ty {F H : Hp} {c : Nat} {us : List D} {v : V} (T : XTab G) (hc : c < 11) (e : Same F H) (r : Rep G F (.obj c us) v) : TyK G.K H v (.ref (G.cm c)) := by
  obtain ⟨a, rfl, ⟨h0, _⟩ | ⟨_, d, h1, h2⟩⟩ := r
  · omega
  · rcases h2 with ⟨_, rfl⟩ | ⟨dd, fs, vs, rfl, h3, _⟩
    · exact .exc (T.kx c hc) (e _ _ h1)
    · exact .excD (T.kx c hc) (e _ _ h1) (e _ _ h3)
/-- p tells which classes u takes -/
structure IsxOk (G : Gx) (u : Value) (p : Nat → Bool) : Prop where
  c : ∀ c, c < 11 → PySem.W.kitOne G.K (.ref (G.cm c)) u = some (p c)
  n : PySem.W.kitOne G.K (.type "NoneType") u = some false
structure IsxsOk (G : Gx) (us : List Value) (p : Nat → Bool) : Prop where
  c : ∀ c, c < 11 → PySem.W.kitAny G.K (.ref (G.cm c)) us = some (p c)
  n : PySem.W.kitAny G.K (.type "NoneType") us = some false
theorem isx_cls (T : XTab G) {j : Nat} (hj : j < 11) : IsxOk G (.ref (G.cm j)) fun c => c == j := ⟨fun c hc => T.one c j hc hj, T.n1 j hj⟩
theorem isx_ve (T : XTab G) : IsxOk G (.type "ValueError") fun _ => true := ⟨fun c hc => T.ve c hc, nve _⟩
theorem isxs_nil : IsxsOk G [] fun _ => false := ⟨fun _ _ => rfl, rfl⟩
theorem isxs_cons {u : Value} {us : List Value} {p q : Nat → Bool} (h : IsxOk G u p) (hs : IsxsOk G us q) : IsxsOk G (u :: us) fun c => p c || q c := by
  refine ⟨fun c hc => ?_, ?_⟩
  · unfold PySem.W.kitAny
    rw [h.c c hc]
    show (match some (p c) with | some true => some true | some false => PySem.W.kitAny G.K (.ref (G.cm c)) us | none => none) = some (p c || q c)
    cases p c with
    | true => rfl
    | false => exact hs.c c hc
  · unfold PySem.W.kitAny
    rw [h.n]
    exact hs.n
theorem le_isx {u : Value} {c : V} {p : Nat → Bool} (T : XTab G) (hp : IsxOk G u p) (hc : ClsV c u) (ha : LE G W ta Ta) : LE G W (dUn (oIsX p) ta) (tCB (rIsK G.K) (tCons Ta (tCons (tC c) tNil))) := fun F0 H0 ρ F σ H Q QX QV S q hq hx =>
  ha.v S q (fun x v F1 H1 e1 r1 q1 => by
    cases x with
    | non => exact ⟨v, c, .type "NoneType", u, false, rfl, hc, .base (by rw [show v = V.non from r1]; exact .base .non), hp.n, hq _ _ F1 H1 (.val e1 (show Rep G F1 (.bl _) (.bl _) from rfl)) q1⟩
    | obj k us => exact ⟨v, c, .ref (G.cm k), u, p k, rfl, hc, obj_ty T q1.1 e1.fh r1, hp.c k q1.1, hq _ _ F1 H1 (.val e1 (show Rep G F1 (.bl _) (.bl _) from rfl)) q1.2⟩
    | _ => exact q1.elim) hx
theorem le_isxs {us : List Value} {cs : List V} {Ts : TA} {p : Nat → Bool} (T : XTab G) (hp : IsxsOk G us p) (hc : Paired ClsV cs us) (hT : ∀ (σ : Sg) (H : Hp) (Q : List V → Hp → Prop), Q cs H → Ts σ H Q) (hl : cs.length ≤ sizeLine) (ha : LE G W ta Ta) :
    LE G W (dUn (oIsX p) ta) (tCB (rIsKT G.K) (tCons Ta (tCons (tTup Ts) tNil))) := fun F0 H0 ρ F σ H Q QX QV S q hq hx =>
  ha.v S q (fun x v F1 H1 e1 r1 q1 => hT σ H1 _ ⟨hl, fun tp htp => by
    have e2 : Ext F1 H1 (upd F1 tp (.tup cs)) (upd H1 tp (.tup cs)) := .put e1.fh htp
    cases x with
    | non => exact ⟨v, tp, cs, .type "NoneType", us, false, rfl, upd_same, hc, .base (by rw [show v = V.non from r1]; exact .base .non), hp.n, hq _ _ _ _ (.val (e1.trans e2) (show Rep G _ (.bl _) (.bl _) from rfl)) q1⟩
    | obj k ws => exact ⟨v, tp, cs, .ref (G.cm k), us, p k, rfl, upd_same, hc, obj_ty T q1.1 e2.fh (Rep.mono e2.f (.obj k ws) r1), hp.c k q1.1, hq _ _ _ _ (.val (e1.trans e2) (show Rep G _ (.bl _) (.bl _) from rfl)) q1.2⟩
    | _ => exact q1.elim⟩) hx
theorem le_xf {cs : List Nat} {i : Nat} {f : Str} (T : XTab G) (hf : (cs.all fun c => decide (c < 11) && decide ((XF c)[i]? = some f)) = true) (ha : LE G W ta Ta) : LE G W (dUn (oXf cs i) ta) (tXk G.K f Ta) := fun F0 H0 ρ F σ H Q QX QV S q hq hx =>
  ha.v S q (fun x v F1 H1 e1 r1 q1 => by
    cases x with
    | obj c us =>
      obtain ⟨hc, q1⟩ := q1
      have h1 := List.all_eq_true.mp hf c (by simpa using hc)
      rw [Bool.and_eq_true, decide_eq_true_eq, decide_eq_true_eq] at h1
      cases hd : us[i]? with
      | none => rw [hd] at q1; exact q1.elim
      | some d =>
        rw [hd] at q1
        obtain ⟨a, rfl, ⟨h0, _⟩ | ⟨_, dd, h3, h4⟩⟩ := r1
        · omega
        · rcases h4 with ⟨rfl, _⟩ | ⟨dd, fs, vs, rfl, h5, h6, h7⟩
          · simp at hd
          · obtain ⟨w, hw, rw'⟩ := h6.get hd
            refine ⟨a, G.cm c, dd, fs, w, rfl, T.kx c h1.1, T.nf c f h1.1 (List.mem_of_getElem? h1.2), e1.fh _ _ h3, e1.fh _ _ h5, h7 i f w (by rw [T.fn c h1.1]; exact h1.2) hw, hq _ _ F1 H1 (.val e1 rw') q1⟩
    | _ => exact q1.elim) hx
end

section
variable {X : Cx} {G : Gx} {W : WX} {k : Nat} {a e : Expr} {es : List Expr} {ta te : DE} {ts : DA} {t : DS} {pos p p2 p3 : Pos} {n i : Nat} {x : Str}
theorem j_isxr {y : Str} {u : Value} {c : V} {pr : Nat → Bool} (C : Cxt X G W k) (T : XTab G) (hp : IsxOk G u pr) (hcv : ClsV c u) (hm : X.mg "isinstance" = none) (hc : PE X (.Name y p2) (tC c)) (ha : JE X G W a ta) (hg : Gl X "isinstance" := by rfl)
    (h1 : starEach (a :: [.Name y p2]) X.env = (false, eval a X.env) :: starEach [.Name y p2] X.env := by rfl) (h2 : starEach [.Name y p2] X.env = (false, eval (.Name y p2) X.env) :: starEach [] X.env := by rfl) (hpl : (backTo pos (starEach [.Name y p2] X.env)).any (·.1) = false := by rfl) :
    JE X G W (.Call (.Name "isinstance" p) [a, .Name y p2] [] pos) (dUn (oIsX pr) ta) := by
  obtain ⟨T', q, l⟩ := ha
  refine ⟨_, pe_callB call_isK hg hm boot_isinstance (pa_cons q (pa_cons hc pa_nil h2) h1) (he := h1) (hpl := hpl), ?_⟩
  rw [C.K]
  exact le_isx T hp hcv l
/-- isinstance(x, C), C a class of refusals -/
theorem j_isx {y : Str} {j : Nat} (C : Cxt X G W k) (T : XTab G) (hm : X.mg "isinstance" = none) (hy : X.mg y = some (.ref (G.cm j))) (ha : JE X G W a ta) (hj : j < 11 := by decide) (hg : Gl X "isinstance" := by rfl) (hgT : Gl X y := by rfl) (hdy : (y == ("__debug__" : Str)) = false := by decide)
    (h1 : starEach (a :: [.Name y p2]) X.env = (false, eval a X.env) :: starEach [.Name y p2] X.env := by rfl) (h2 : starEach [.Name y p2] X.env = (false, eval (.Name y p2) X.env) :: starEach [] X.env := by rfl) (hpl : (backTo pos (starEach [.Name y p2] X.env)).any (·.1) = false := by rfl) :
    JE X G W (.Call (.Name "isinstance" p) [a, .Name y p2] [] pos) (dUn (oIsX fun c => c == j) ta) :=
  j_isxr C T (isx_cls T hj) (.own _) hm (pe_glob (v := .ref (G.cm j)) hgT hy rfl hdy) ha hg h1 h2 hpl
theorem j_isve {y : Str} (C : Cxt X G W k) (T : XTab G) (hm : X.mg "isinstance" = none) (hmT : X.mg y = none) (hvT : bootBuiltins y = some (.type "ValueError")) (ha : JE X G W a ta) (hg : Gl X "isinstance" := by rfl) (hgT : Gl X y := by rfl) (hny : y ≠ "__name__" := by decide) (hdy : (y == ("__debug__" : Str)) = false := by decide)
    (h1 : starEach (a :: [.Name y p2]) X.env = (false, eval a X.env) :: starEach [.Name y p2] X.env := by rfl) (h2 : starEach [.Name y p2] X.env = (false, eval (.Name y p2) X.env) :: starEach [] X.env := by rfl) (hpl : (backTo pos (starEach [.Name y p2] X.env)).any (·.1) = false := by rfl) :
    JE X G W (.Call (.Name "isinstance" p) [a, .Name y p2] [] pos) (dUn (oIsX fun _ => true) ta) :=
  j_isxr C T (isx_ve T) (.ty _) hm (pe_bltn (v := .ty "ValueError") hgT hmT hvT rfl hny hdy) ha hg h1 h2 hpl
/-- a row of classes -/
structure JCs (X : Cx) (G : Gx) (es : List Expr) (m : Nat) (pr : Nat → Bool) : Prop where
  ex : ∃ (us : List Value) (cs : List V) (T : TA), PA X es T ∧ IsxsOk G us pr ∧ Paired ClsV cs us ∧ (∀ (σ : Sg) (H : Hp) (Q : List V → Hp → Prop), Q cs H → T σ H Q) ∧ cs.length = m
theorem jcs_nil : JCs X G [] 0 fun _ => false := ⟨[], [], _, pa_nil, isxs_nil, .nil, fun _ _ _ q => q, rfl⟩
theorem jcs_cons {y : Str} {j m : Nat} {pr : Nat → Bool} (T : XTab G) (hy : X.mg y = some (.ref (G.cm j))) (h : JCs X G es m pr) (hj : j < 11 := by decide) (hgT : Gl X y := by rfl) (hdy : (y == ("__debug__" : Str)) = false := by decide)
    (hs : starEach (.Name y p2 :: es) X.env = (false, eval (.Name y p2) X.env) :: starEach es X.env := by rfl) : JCs X G (.Name y p2 :: es) (m + 1) fun c => (c == j) || pr c := by
  obtain ⟨us, cs, T', q, h1, h2, h3, h4⟩ := h.ex
  exact ⟨_, .ref (G.cm j) :: cs, _, pa_cons (pe_glob (v := .ref (G.cm j)) hgT hy rfl hdy) q hs, isxs_cons (isx_cls T hj) h1, .cons (.own _) h2, fun σ H Q q' => h3 σ H _ q', by simp [h4]⟩
/-- isinstance(x, (C, D, ..)) -/
theorem j_isxs {m kk : Nat} {pr : Nat → Bool} (C : Cxt X G W k) (T : XTab G) (hm : X.mg "isinstance" = none) (hc : JCs X G es m pr) (ha : JE X G W a ta) (hm16 : Nat.ble m 16777216 = true := by rfl) (hg : Gl X "isinstance" := by rfl)
    (h1 : starEach (a :: [.Tuple es kk p2]) X.env = (false, eval a X.env) :: starEach [.Tuple es kk p2] X.env := by rfl) (h2 : starEach [.Tuple es kk p2] X.env = (false, eval (.Tuple es kk p2) X.env) :: starEach [] X.env := by rfl) (hpl : (backTo pos (starEach [.Tuple es kk p2] X.env)).any (·.1) = false := by rfl) :
    JE X G W (.Call (.Name "isinstance" p) [a, .Tuple es kk p2] [] pos) (dUn (oIsX pr) ta) := by
  obtain ⟨T', q, l⟩ := ha
  obtain ⟨us, cs, T2, q2, g1, g2, g3, g4⟩ := hc.ex
  refine ⟨_, pe_callB call_isKT hg hm boot_isinstance (pa_cons q (pa_cons (pe_tup q2) pa_nil h2) h1) (he := h1) (hpl := hpl), ?_⟩
  rw [C.K]
  exact le_isxs T g1 g2 g3 (by rw [g4]; exact small16 hm16) l
/-- x.f of a kept exception -/
theorem j_xf {cs : List Nat} {f : Str} (C : Cxt X G W k) (T : XTab G) (ha : JE X G W a ta) (hf : (cs.all fun c => decide (c < 11) && decide ((XF c)[i]? = some f)) = true := by decide +kernel) (hb : attributeBase a f X.env (eval a X.env) = eval a X.env := by rfl) : JE X G W (.Attribute a f pos) (dUn (oXf cs i) ta) := by
  obtain ⟨T', q, l⟩ := ha
  refine ⟨_, pe_xk q hb, ?_⟩
  rw [C.K]
  exact le_xf T hf l
/-- a class's __init__ stores its parameters under their names -/
def spInit (G : Gx) (c : Nat) : Sp := fun vs H Q _ => ∃ (a : Addr) (ws : List V), vs = .ref a :: ws ∧ ws.length = (XF c).length ∧ OexC G.K (G.cm c) ∧ (∀ f ∈ XF c, PySem.W.findIn G.K (.ref (G.cm c)) f = some none) ∧ H a = some (exo a (G.cm c) none) ∧
  ∀ H' d fs, H d = none → d ≠ a → H' a = some (exo a (G.cm c) (some d)) → H' d = some (exd d fs) → (∀ b, b ≠ a → b ≠ d → H' b = H b) → (∀ (i : Nat) f v, (XF c)[i]? = some f → ws[i]? = some v → fs.lookup f = some v) → Q .non H'
structure XMk (P : Program) (w : World) (G : Gx) (mg : Str → Option Value) (base : Heap) (c : Nat) (x : Str) : Prop where
  mgx : mg x = some (.ref (G.cm c))
  oex : OexC G.K (G.cm c)
  ex : ∃ (fI : Addr) (fd : FuncData) (ps : List Str), PySem.W.findIn G.K (.ref (G.cm c)) "__init__" = some (some (.ref fI)) ∧ PySem.W.typeIn G.K (.ref fI) = some (.type "function") ∧ Binds G.K fd ps [] ∧ FnOk P w G.K mg base (L2.CX P w) 1 fI fd ps (spInit G c)
theorem s_raise {c : Nat} (C : Cxt X G W k) (T : XTab G) (h : XMk X.prog X.w G X.mg X.base c x) (ha : JA X G W n (e :: es) ts) (hc : c < 11 := by decide) (hn : n = (XF c).length := by rfl) (hk : 2 ≤ k := by decide) (hg : Gl X x := by rfl) (hdb : (x == ("__debug__" : Str)) = false := by decide)
    (he : starEach (e :: es) X.env = (false, eval e X.env) :: starEach es X.env := by rfl) (hpl : (backTo pos (starEach es X.env)).any (·.1) = false := by rfl) : JS X G W (.Raise (some (.Call (.Name x p) (e :: es) [] pos)) none p2) (dRaise c ts) := by
  obtain ⟨fI, fd, ps, h1, h2, h3, F⟩ := h.ex
  obtain ⟨Ts, q, l⟩ := ha
  refine ⟨_, ps_raise C.calm C.tk (pmk_oex (k := 1) (dvs := []) (ds := []) (by rw [C.K]; exact h.oex) (by rw [C.K]; exact h1) (by rw [C.K]; exact h2) (by rw [C.K]; exact F) (C.room.mono hk) (by rw [C.K]; exact h3) .nil (fun _ _ _ _ _ _ _ z => by
    obtain ⟨_, _, _, _, _, _, _, _, _, _, _, _, z⟩ := z
    exact z.elim) hg h.mgx q hdb he hpl), fun F0 H0 ρ F σ H N D' S E q => ?_⟩
  refine l F0 H0 ρ F σ H _ _ _ S q (fun ds vs F1 H1 e1 r1 l1 q1 => ?_) (E.xw S)
  have hvl : vs.length = (XF c).length := by rw [r1.length, l1, hn]
  have h4 : (XF c).length ≤ 2 := by
    have : ∀ c : Nat, c < 11 → (XF c).length ≤ 2 := by decide
    exact this c hc
  refine ⟨by omega, fun a hna => ⟨a, vs, by rw [List.append_nil], hvl, h.oex, fun f hf => T.nf c f hc hf, upd_same, fun H' d fs hd hda ha' hd' ho hf => ?_⟩⟩
  have hd1 : H1 d = none := by rw [upd_ne hda] at hd; exact hd
  have sHH : Same H1 (upd (L2.del H' a) d (.xd fs)) := fun b o z => by
    have hbd : b ≠ d := fun y => by rw [y, hd1] at z; cases z
    have hba : b ≠ a := fun y => by rw [y, hna] at z; cases z
    rw [upd_ne hbd, L2.del_ne hba, ho b hba hbd, upd_ne hba]
    exact z
  have ex : Ext F1 H1 (upd F1 d (.xd fs)) (upd (L2.del H' a) d (.xd fs)) := by
    refine ⟨same_upd (e1.fh.free hd1), fun b o z => ?_, sHH, fun b o z => ?_⟩
    · by_cases hb : b = d
      · subst hb; rw [upd_same] at z ⊢; exact z
      · rw [upd_ne hb] at z
        exact sHH b o (e1.fh b o z)
    · by_cases hb : b = d
      · subst hb; exact .inr (.inl hd1)
      · rw [upd_ne hb] at z; exact .inl z
  refine ⟨rfl, d, fs, ha', hd', hd1, ?_⟩
  exact E.xc ⟨c, ds⟩ ρ _ σ _ (.ref (G.cm c)) (some d) ((S.ext e1).ext ex) q1 ⟨rfl, .inr ⟨d, fs, vs, rfl, upd_same, RepL.mono ex.f ds r1, fun i f v z1 z2 => hf i f v (by rw [← T.fn c hc]; exact z1) z2⟩⟩
/-- a class made with a text -/
structure XTx (G : Gx) (mg : Str → Option Value) (c : Nat) (x : Str) : Prop where
  mgx : mg x = some (.ref (G.cm c))
  ex : PySem.W.excIn G.K (G.cm c) He.veBase "ValueError.__new__" = true
  kp : PySem.W.keepIn G.K (.ref (G.cm c)) = true
  sb : PySem.W.subIn G.K (.ref (G.cm c)) (.type "BaseException") = some true
  ty : PySem.W.typeIn G.K (.ref (G.cm c)) = some (.type "type")
theorem s_raiseT {c j : Nat} {m : Str} (C : Cxt X G W k) (h : XTx G X.mg c x) (hg : Gl X x := by rfl) (hdb : (x == ("__debug__" : Str)) = false := by decide) :
    JS X G W (.Raise (some (.Call (.Name x p) [.Constant (.str m) j p3] [] pos)) none p2) (dRaise c dNil) := by
  refine ⟨_, ps_raise C.calm C.tk (pmk_own PySem.F.excBase_ValueError (by rw [C.K]; exact h.ex) h.mgx (by rw [C.K]; exact h.kp) (raises_own (by rw [C.K]; exact h.sb) (by rw [C.K]; exact h.ty)) hg hdb), fun F0 H0 ρ F σ H N D' S E q => ?_⟩
  exact E.xc ⟨c, []⟩ ρ F σ H (.ref (G.cm c)) none S q ⟨rfl, .inl ⟨rfl, rfl⟩⟩
theorem Cxt.tr (C : Cxt X G W k) {W' : WX} {pn : List (Addr × Obj)} {xe : Value → Shared → Prop} (tk : Takes (X.tr pn xe) W') (po : PassesOwn (model X.prog X.w) X.A X.env xe) : Cxt (X.tr pn xe) G W' k :=
  ⟨C.K, C.calm, C.nd, C.room, fun σ => passAt tk σ, po, tk⟩
theorem unset {F0 H0 F H : Hp} {σ : Sg} {ρ : Env} (S : SRep G F0 H0 F H σ ρ) (i : Nat) : SRep G F0 H0 F H (σ.set i none) (ρ.set i .un) := by
  have old : ∀ {j : Nat} {s : Sl}, (ρ.set i Sl.un)[j]? = some s → (s = .un) ∨ (i ≠ j ∧ ρ[j]? = some s) := fun {j s} q => by
    by_cases hj : i = j
    · subst hj
      by_cases hi : i < ρ.length
      · rw [List.getElem?_set_self hi] at q; cases q; exact .inl rfl
      · rw [List.getElem?_eq_none (by simpa using hi)] at q; cases q
    · rw [List.getElem?_set_ne hj] at q; exact .inr ⟨hj, q⟩
  refine ⟨by simpa using S.len, S.e, fun j s q => ?_, fun j l s t p h1 h2 w1 w2 z1 z2 => ?_⟩
  · rcases old q with rfl | ⟨hj, q'⟩
    · trivial
    · rw [List.getElem?_set_ne hj]; exact S.sl j s q'
  · rcases old h1 with rfl | ⟨n1, q1⟩
    · cases w1
    · rcases old h2 with rfl | ⟨n2, q2⟩
      · cases w2
      · rw [List.getElem?_set_ne n1] at z1
        rw [List.getElem?_set_ne n2] at z2
        exact S.dis j l s t p q1 q2 w1 w2 z1 z2
theorem s_try {j : Nat} {body : List Stmt} {nm y : Str} {np py pn' sp pos' : Pos} (C : Cxt X G W k) (T : XTab G) (hF : X.mg "FormError" = some (.ref (G.cm 11)))
    (hb : ∀ (W' : WX) (pn : List (Addr × Obj)) (xe : Value → Shared → Prop), Cxt (X.tr pn xe) G W' k → JSs (X.tr pn xe) G W' body t)
    (hs : X.stack = X.env :: X.outer := by rfl) (hf : X.env.frame = some X.env.locals := by rfl) (hex : X.ex = [] := by rfl) (hi : X.N[i]? = some nm := by rfl) (hj : X.N[j]? = some y := by rfl) (hij : i ≠ j := by decide) (hln : X.env.kindOf nm = some .local := by rfl) (hvn : Vis X.env.scope nm := by exact Or.inl rfl) (hly : Loc X.env.scope y := by exact Or.inl rfl)
    (hgF : Gl X "FormError" := by rfl) (hdn : (nm == ("__debug__" : Str)) = false := by decide) (hcn : (nm == ("__classdict__" : Str)) = false := by decide) (hsw : swapsWith (.Name nm pn') (some (.Name y py)) sp.line X.env = pure false := by rfl) (hfn : X.fn y = true ∨ X.env.scope.names.lookup y = some .local := by first | exact .inl rfl | exact .inr rfl) :
    JS X G W (.Try body [.ExceptHandler (some (.Name "FormError" np)) (some nm) [.Assign [.Name y py] (.Name nm pn') sp] pos'] [] [] pos) (dTry i j t) := by
  classical
  let TB : WX → TS := fun W' D σ H => ∀ (pn : List (Addr × Obj)) (xe : Value → Shared → Prop) (C' : Cxt (X.tr pn xe) G W' k), Classical.choose (hb W' pn xe C') D σ H
  refine ⟨_, ps_try_keep (i := i) (tb := TB) (ts := fun _ _ _ => tAsg (tVar i) (gName j)) hs hf hex C.nd hi hln (c := .ref (G.cm 11)) ⟨hgF, by decide, .inl hF⟩ (fun W' pn xe tk po => ⟨fun pins s σ H D I q => ?_⟩) (fun a oe cls d pn _ _ => pss_one (ps_set C.nd hj hly (pe_var hi hvn hdn hcn) hsw hfn)), fun F0 H0 ρ F σ H N D' S E q => ?_⟩
  · exact (Classical.choose_spec (hb W' pn xe (C.tr tk po))).1.run pins s σ H D I (q pn xe (C.tr tk po))
  · intro pn xe C'
    refine (Classical.choose_spec (hb _ pn xe C')).2 F0 H0 ρ F σ H { N with xc := fun e r' => e.cls < 11 ∧ N.nx ((r'.set j (.val (.obj e.cls e.fs))).set i .un) } D' S (ERel.mk E.nx E.bk E.ct E.rt fun x ρ' F' σ' H' cls d S' hq hr => ?_) q
    obtain ⟨hc, hq⟩ := hq
    obtain ⟨rfl, hr⟩ := hr
    refine ⟨by rw [C.K]; exact T.ex _ hc, fun a ha hl => ?_⟩
    have hil : i < σ'.length := by rw [hl]; exact (List.getElem?_eq_some_iff.mp hi).1
    refine ⟨.ref a, List.getElem?_set_self hil, fun _ => ?_⟩
    have e2 : Ext F' H' (upd F' a (ExK (.ref (G.cm x.cls)) d a)) (upd H' a (ExK (.ref (G.cm x.cls)) d a)) := .put S'.e.fh ha
    have rp : Rep G (upd F' a (ExK (.ref (G.cm x.cls)) d a)) (.obj x.cls x.fs) (.ref a) := by
      refine ⟨a, rfl, .inr ⟨hc, d, upd_same, ?_⟩⟩
      rcases hr with h0 | ⟨dd, fs, vs, h1, h2, h3, h4⟩
      · exact .inl h0
      · exact .inr ⟨dd, fs, vs, h1, e2.f _ _ h2, RepL.mono e2.f x.fs h3, h4⟩
    have eσ : (((σ'.set i (some (.ref a))).set j (some (.ref a))).set i none) = (σ'.set j (some (.ref a))).set i none := by
      rw [List.set_comm _ _ hij, List.set_set]
    have S2 := unset ((S'.ext e2).set j (s := .val (.obj x.cls x.fs)) (v := .ref a) (.val (.refl e2.fh) rp)) i
    rw [← eσ] at S2
    exact E.nx _ _ _ _ S2 hq
end
section
variable {G : Gx} {P : Program} {w : World} {mg : Str → Option Value} {base : Heap} {fI : Addr} {fd : FuncData} {q : Str} {args : Arguments} {body : List Stmt} {sc : Scope} {c : Nat}
theorem init1 {f : Str} (F : FunD G.K "__init__" q args body sc [] [] fI fd) (S : FnScope ["self", f] ["self", f] sc) (hx : XF c = [f])
    (hb : ∀ (cdv : Value) (A : Around) (outer : List PySem.Env) (s : Shared) (H : Hp) (E : XK), PSs (cxOf (L2.CX P w) P w G.K mg base ["self", f] q sc fI cdv A outer s H E) body (tOst G.K f (tVar 0) (tVar 1))) : FnOk P w G.K mg base (L2.CX P w) 1 fI fd ["self", f] (spInit G c) := by
  refine F.ok S (fun vs H Q E h => ?_) fun cdv A outer s H vs Q E _ h => ?_
  · obtain ⟨a, ws, rfl, hl, _⟩ := h
    rw [hx] at hl
    show ws.length + 1 = 2
    rw [hl]; rfl
  · obtain ⟨a, ws, rfl, hl, T, hno, ha, hq⟩ := h
    rw [hx] at hl hno hq
    obtain ⟨v, rfl⟩ : ∃ v, ws = [v] := by
      match ws, hl with
      | [v], _ => exact ⟨v, rfl⟩
    refine ⟨_, hb cdv A outer s H E, v, rfl, .ref a, rfl, a, G.cm c, rfl, T, hno f List.mem_cons_self, .inl ⟨ha, fun dx hdx hda => ?_⟩⟩
    refine hq _ dx [(f, v)] hdx hda upd_same (by rw [upd_ne hda, upd_same]) (fun b h1 h2 => by rw [upd_ne h1, upd_ne h2]) fun i g u e1 e2 => ?_
    match i, e1, e2 with
    | 0, e1, e2 =>
      cases e1; cases e2
      simp [List.lookup]
    | i + 1, e1, _ => exact absurd e1 (by simp)
theorem init2 {f g : Str} (F : FunD G.K "__init__" q args body sc [] [] fI fd) (S : FnScope ["self", f, g] ["self", f, g] sc) (hx : XF c = [f, g]) (hfg : (f == g) = false)
    (hb : ∀ (cdv : Value) (A : Around) (outer : List PySem.Env) (s : Shared) (H : Hp) (E : XK), PSs (cxOf (L2.CX P w) P w G.K mg base ["self", f, g] q sc fI cdv A outer s H E) body (tSeq (tOst G.K f (tVar 0) (tVar 1)) (tOst G.K g (tVar 0) (tVar 2)))) : FnOk P w G.K mg base (L2.CX P w) 1 fI fd ["self", f, g] (spInit G c) := by
  refine F.ok S (fun vs H Q E h => ?_) fun cdv A outer s H vs Q E _ h => ?_
  · obtain ⟨a, ws, rfl, hl, _⟩ := h
    rw [hx] at hl
    show ws.length + 1 = 3
    rw [hl]; rfl
  · obtain ⟨a, ws, rfl, hl, T, hno, ha, hq⟩ := h
    rw [hx] at hl hno hq
    obtain ⟨v, u, rfl⟩ : ∃ v u, ws = [v, u] := by
      match ws, hl with
      | [v, u], _ => exact ⟨v, u, rfl⟩
    refine ⟨_, hb cdv A outer s H E, v, rfl, .ref a, rfl, a, G.cm c, rfl, T, hno f List.mem_cons_self, .inl ⟨ha, fun dx hdx hda => ?_⟩⟩
    refine ⟨u, rfl, .ref a, rfl, a, G.cm c, rfl, T, hno g (List.mem_cons_of_mem _ List.mem_cons_self), .inr ⟨dx, [(f, v)], upd_same, by rw [upd_ne hda, upd_same], by show 1 ≤ 900; decide, ?_⟩⟩
    refine hq _ dx [(g, u), (f, v)] hdx hda (by rw [upd_ne (Ne.symm hda), upd_same]) upd_same (fun b h1 h2 => by rw [upd_ne h2, upd_ne h1, upd_ne h2]) fun i x z e1 e2 => ?_
    match i, e1, e2 with
    | 0, e1, e2 =>
      cases e1; cases e2
      simp [List.lookup, hfg]
    | 1, e1, e2 =>
      cases e1; cases e2
      simp [List.lookup]
    | i + 2, e1, _ => exact absurd e1 (by simp)
end

/-- the numbered classes' names -/
def CN : Nat → Str := fun c => (["NoTurn", "NoShape", "TooGreat", "NoRoot", "NotLevel", "NotOwn", "Apart", "NotPlain", "NoMeasure", "Nought", "NoAnswer", "FormError", "Bowl", "Saddle", "Shape"] : List Str).getD c "law"
def kxB (K : PySem.W.Frag) (C : Addr) : Bool := (PySem.W.clsIn K C).isSome && (decide (PySem.W.findIn K (.ref C) "__getattribute__" = some (some (.builtin "BaseException.__getattribute__"))) && (decide (PySem.W.findIn K (.ref C) "__getattr__" = some none) &&
  (decide (PySem.W.subIn K (.ref C) (.type "BaseException") = some true) && (PySem.W.hasDictIn K C && (decide (PySem.W.findIn K (.ref C) "__class__" = some (some (.builtin "object.__class__"))) &&
  (decide (PySem.W.specialIn K (.builtin "object.__class__") "__get__" = some (some (.builtin "getset_descriptor.__get__"))) && (decide (PySem.W.takesIn K (.builtin "object.__class__") = some true) && decide (PySem.W.mroIn K C (.type "object") = some true))))))))
theorem kxB_ok {K : PySem.W.Frag} {C : Addr} (h : kxB K C = true) : KxC K C := by
  unfold kxB at h
  simp only [Bool.and_eq_true, decide_eq_true_eq] at h
  obtain ⟨h1, h2, h3, h4, h5, h6, h7, h8, h9⟩ := h
  exact ⟨h1, h2, h3, h4, h5, h6, h7, h8, h9⟩
def oexB (K : PySem.W.Frag) (C : Addr) : Bool := (match K.lookup C with
  | some ⟨.type "type", _, .cls cd, sl⟩ => (match cd.mro, sl.toList with
    | .ref C' :: bm, [_, _, _, _, some (.builtin n), _] => decide (C' = C) && (decide (n = "ValueError.__new__") && (cd.hasDict && (!cd.hasDel && PySem.HandSPX.refsVE bm)))
    | _, _ => false)
  | _ => false) && (decide (PySem.W.findIn K (.ref C) "__setattr__" = some (some (.builtin "object.__setattr__"))) && (decide (PySem.W.subIn K (.ref C) (.type "BaseException") = some true) && (decide (PySem.W.typeIn K (.ref C) = some (.type "type")) && PySem.W.keepIn K (.ref C))))
theorem oexB_ok {K : PySem.W.Frag} {C : Addr} (h : oexB K C = true) : OexC K C := by
  unfold oexB at h
  obtain ⟨h1, h⟩ := Bool.and_eq_true_iff.mp h
  simp only [Bool.and_eq_true, decide_eq_true_eq] at h
  obtain ⟨h2, h3, h4, h5⟩ := h
  refine ⟨?_, h2, h3, h4, h5⟩
  split at h1
  · rename_i dd cd sl ho
    split at h1
    · rename_i C' bm k0 k1 k2 k3 n k5 hm hs
      simp only [Bool.and_eq_true, decide_eq_true_eq, Bool.not_eq_true'] at h1
      obtain ⟨rfl, rfl, hd, hdel, hr⟩ := h1
      obtain ⟨nm, bs, mro, ns, qn, hdi, sn, sub, ab, col, del⟩ := cd
      dsimp only at hm hdel hd
      subst hm hdel hd
      have hsl : sl = #[k0, k1, k2, k3, some (.builtin "ValueError.__new__"), k5] := by
        obtain ⟨l⟩ := sl
        simp only at hs
        rw [hs]
      subst hsl
      exact ⟨nm, qn, ns, bs, bm, sn, sub, ab, col, dd, k0, k1, k2, k3, k5, ho, hr⟩
    · cases h1
  · cases h1
/-- a class with its own __init__ -/
def xmB (K : PySem.W.Frag) (C : Addr) : Bool := oexB K C && (decide (PySem.W.findIn K (.ref C) "__init__" = some (some (.ref (He.ma K C "__init__")))) && decide (PySem.W.typeIn K (.ref (He.ma K C "__init__")) = some (.type "function")))
theorem xmk_of {P : Program} {w : World} {G : Gx} {mg : Str → Option Value} {base : Heap} {c : Nat} {x : Str} {fd : FuncData} {ps : List Str} (h : xmB G.K (G.cm c) = true) (hm : mg x = some (.ref (G.cm c))) (hb : Binds G.K fd ps []) (F : FnOk P w G.K mg base (L2.CX P w) 1 (He.ma G.K (G.cm c) "__init__") fd ps (spInit G c)) : XMk P w G mg base c x := by
  obtain ⟨h1, h⟩ := Bool.and_eq_true_iff.mp h
  obtain ⟨h2, h3⟩ := Bool.and_eq_true_iff.mp h
  exact ⟨hm, oexB_ok h1, _, fd, ps, of_decide_eq_true h2, of_decide_eq_true h3, hb, F⟩
def xtxB (K : PySem.W.Frag) (C : Addr) : Bool := PySem.W.excIn K C He.veBase "ValueError.__new__" && (PySem.W.keepIn K (.ref C) && (decide (PySem.W.subIn K (.ref C) (.type "BaseException") = some true) && decide (PySem.W.typeIn K (.ref C) = some (.type "type"))))
theorem xtx_of {G : Gx} {mg : Str → Option Value} {c : Nat} {x : Str} (h : xtxB G.K (G.cm c) = true) (hm : mg x = some (.ref (G.cm c))) : XTx G mg c x := by
  unfold xtxB at h
  simp only [Bool.and_eq_true, decide_eq_true_eq] at h
  obtain ⟨h1, h2, h3, h4⟩ := h
  exact ⟨hm, h1, h2, h3, h4⟩
def xtB (K : PySem.W.Frag) (cm : Nat → Addr) : Bool := (List.range 11).all fun c => kxB K (cm c) && (decide (PySem.W.kitOne K (.ref (cm c)) (.type "ValueError") = some true) && (decide (PySem.W.kitOne K (.type "NoneType") (.ref (cm c)) = some false) && (decide (PySem.W.exmOne K (.ref (cm c)) (.ref (cm 11)) = some true) &&
  (((XF c).all fun f => decide (PySem.W.findIn K (.ref (cm c)) f = some none)) && ((List.range 11).all fun j => decide (PySem.W.kitOne K (.ref (cm c)) (.ref (cm j)) = some (c == j)))))))
theorem xtB_ok {G : Gx} (h : xtB G.K G.cm = true) (hf : G.fnm = XF) : XTab G := by
  have key : ∀ c, c < 11 → _ := fun c hc => List.all_eq_true.mp h c (List.mem_range.mpr hc)
  simp only [Bool.and_eq_true, decide_eq_true_eq] at key
  refine ⟨fun c hc => kxB_ok (key c hc).1, fun c j hc hj => ?_, fun c hc => (key c hc).2.1, fun c hc => (key c hc).2.2.1, fun c hc => (key c hc).2.2.2.1, fun c f hc hx => ?_, fun c _ => by rw [hf]⟩
  · exact of_decide_eq_true (List.all_eq_true.mp (key c hc).2.2.2.2.2 j (List.mem_range.mpr hj))
  · exact of_decide_eq_true (List.all_eq_true.mp (key c hc).2.2.2.2.1 f hx)
theorem bt_ValueError : bootBuiltins "ValueError" = some (.type "ValueError") := by decide +kernel
end DL

/- V_k24 -/
namespace Wk
open PySem PySem.Spec PyProof.Rows L2 DL
def top (i : Nat) : Stmt := PySem.Challenge.pw_formcycle_k24_rings.main.body.getD i (.Pass ⟨0, 0, 0, 0⟩)
abbrev s_root : Stmt := top 7
abbrev s_is_square : Stmt := top 8
abbrev s_is_turn : Stmt := top 11
abbrev s_must_turn : Stmt := top 12
abbrev s_put : Stmt := top 13
abbrev s_then : Stmt := top 14
abbrev s_measure : Stmt := top 16
abbrev s_value : Stmt := top 17
abbrev s_moved : Stmt := top 18
abbrev s_shape : Stmt := top 19
abbrev s_must_saddle : Stmt := top 22
abbrev s_lies_level : Stmt := top 23
abbrev s_onward : Stmt := top 24
abbrev s_eased : Stmt := top 25
abbrev s_ways_round : Stmt := top 26
abbrev s_round_of : Stmt := top 27
abbrev s__law_cell : Stmt := top 29
abbrev s__law_whole : Stmt := top 30
abbrev s__law_wholes : Stmt := top 31
abbrev s__law_bar : Stmt := top 32
abbrev s__law_root : Stmt := top 33
abbrev s__law_flat : Stmt := top 34
abbrev s__law_level : Stmt := top 35
abbrev s__law_behind : Stmt := top 36
abbrev s__law_saddle : Stmt := top 37
abbrev s__law_eased : Stmt := top 38
abbrev s__law_good : Stmt := top 39
abbrev s_law : Stmt := top 40
def fns : List He.DefD := [⟨("root", none), "root", "root", defArgs s_root, defBody s_root, defScope s_root, [], []⟩, ⟨("is_square", none), "is_square", "is_square", defArgs s_is_square, defBody s_is_square, defScope s_is_square, [], []⟩, ⟨("is_turn", none), "is_turn", "is_turn", defArgs s_is_turn, defBody s_is_turn, defScope s_is_turn, [], []⟩, ⟨("must_turn", none), "must_turn", "must_turn", defArgs s_must_turn, defBody s_must_turn, defScope s_must_turn, [], []⟩, ⟨("put", none), "put", "put", defArgs s_put, defBody s_put, defScope s_put, [], []⟩, ⟨("then", none), "then", "then", defArgs s_then, defBody s_then, defScope s_then, [], []⟩, ⟨("measure", none), "measure", "measure", defArgs s_measure, defBody s_measure, defScope s_measure, [], []⟩, ⟨("value", none), "value", "value", defArgs s_value, defBody s_value, defScope s_value, [], []⟩, ⟨("moved", none), "moved", "moved", defArgs s_moved, defBody s_moved, defScope s_moved, [], []⟩, ⟨("shape", none), "shape", "shape", defArgs s_shape, defBody s_shape, defScope s_shape, [], []⟩, ⟨("must_saddle", none), "must_saddle", "must_saddle", defArgs s_must_saddle, defBody s_must_saddle, defScope s_must_saddle, [], []⟩, ⟨("lies_level", none), "lies_level", "lies_level", defArgs s_lies_level, defBody s_lies_level, defScope s_lies_level, [], []⟩, ⟨("onward", none), "onward", "onward", defArgs s_onward, defBody s_onward, defScope s_onward, [], []⟩, ⟨("eased", none), "eased", "eased", defArgs s_eased, defBody s_eased, defScope s_eased, [], []⟩, ⟨("ways_round", none), "ways_round", "ways_round", defArgs s_ways_round, defBody s_ways_round, defScope s_ways_round, [], []⟩, ⟨("round_of", none), "round_of", "round_of", defArgs s_round_of, defBody s_round_of, defScope s_round_of, [], []⟩, ⟨("_law_cell", none), "_law_cell", "_law_cell", defArgs s__law_cell, defBody s__law_cell, defScope s__law_cell, [], []⟩, ⟨("_law_whole", none), "_law_whole", "_law_whole", defArgs s__law_whole, defBody s__law_whole, defScope s__law_whole, [], []⟩, ⟨("_law_wholes", none), "_law_wholes", "_law_wholes", defArgs s__law_wholes, defBody s__law_wholes, defScope s__law_wholes, [], []⟩, ⟨("_law_bar", none), "_law_bar", "_law_bar", defArgs s__law_bar, defBody s__law_bar, defScope s__law_bar, [], []⟩, ⟨("_law_root", none), "_law_root", "_law_root", defArgs s__law_root, defBody s__law_root, defScope s__law_root, [], []⟩, ⟨("_law_flat", none), "_law_flat", "_law_flat", defArgs s__law_flat, defBody s__law_flat, defScope s__law_flat, [], []⟩, ⟨("_law_level", none), "_law_level", "_law_level", defArgs s__law_level, defBody s__law_level, defScope s__law_level, [], []⟩, ⟨("_law_behind", none), "_law_behind", "_law_behind", defArgs s__law_behind, defBody s__law_behind, defScope s__law_behind, [], []⟩, ⟨("_law_saddle", none), "_law_saddle", "_law_saddle", defArgs s__law_saddle, defBody s__law_saddle, defScope s__law_saddle, [], []⟩, ⟨("_law_eased", none), "_law_eased", "_law_eased", defArgs s__law_eased, defBody s__law_eased, defScope s__law_eased, [], []⟩, ⟨("_law_good", none), "_law_good", "_law_good", defArgs s__law_good, defBody s__law_good, defScope s__law_good, [], []⟩, ⟨("law", none), "law", "law", defArgs s_law, defBody s_law, defScope s_law, [], []⟩]
def fas : List He.Fa := [.glo "root", .glo "is_square", .glo "is_turn", .glo "must_turn", .glo "put", .glo "then", .glo "measure", .glo "value", .glo "moved", .glo "shape", .glo "must_saddle", .glo "lies_level", .glo "onward", .glo "eased", .glo "ways_round", .glo "round_of", .glo "_law_cell", .glo "_law_whole", .glo "_law_wholes", .glo "_law_bar", .glo "_law_root", .glo "_law_flat", .glo "_law_level", .glo "_law_behind", .glo "_law_saddle", .glo "_law_eased", .glo "_law_good", .glo "law", .free "abs", .free "bool", .free "int", .free "isinstance", .free "len", .free "list", .free "max", .free "min", .free "range", .free "set", .free "tuple", .int "MOST" 4000]
def chk (K : PySem.W.Frag) : Bool := (decide (PySem.W.nsIn K mainGlobals "SAME" = some (some (.ref (He.ga K "SAME")))) && He.tupB K "SAME" [.int 1, .int 0, .int 0, .int 1])
abbrev R : PySem.W.OpenRow := PySem.W.OpenLaw.row PySem.Challenge.rw_formcycle_k24_rings
abbrev hk : PySem.W.Hook := hookX 4 fas fns chk
def ob (s : PySem.W.SharedT) : He.AlD × Bool := obX 4 fas fns chk (HandSHeadRun.getT s)
theorem ob_eq (s : PySem.W.SharedT) : ob s = hk.obs s.abs := obX_eq (HandSHeadRun.getT_eq s)
def loose : List Str := (["root", "is_square", "is_turn", "must_turn", "put", "then", "measure", "value", "moved", "shape", "must_saddle", "lies_level", "onward", "eased", "ways_round", "round_of", "_law_cell", "_law_whole", "_law_wholes", "_law_bar", "_law_root", "_law_flat", "_law_level", "_law_behind", "_law_saddle", "_law_eased", "_law_good", "SAME", "MOST", "FormError"] : List Str) ++ (["NoTurn", "NoShape", "TooGreat", "NoRoot"] : List Str)
theorem run (w : World) : HandSHeadRun.RunEq R (PySem.W.view R.prog [40]) hk ob 4000 loose w := by
  intro os
  kernel_rfl
end Wk

/- DLy -/
namespace DL
open PySem PySem.Spec PyProof.Rows L2
def tCallLS (i : Nat) (f : Addr) (sp : Sp) (E : L2.St → XK) (t : TA) : TE := fun σ H Q => σ[i]? = some (some (.ref f)) ∧ t σ H fun vs H1 => sp vs H1 Q (E σ)
section
variable {X : Cx} {CX : CXT} {k i : Nat} {f : Addr} {fd : FuncData} {ps : List Str} {sp : Sp} {E : L2.St → XK} {x : Str} {p pos : Pos} {e : Expr} {es : List Expr} {t : TA}
theorem pe_callLS (F : FnOk X.prog X.w X.K X.mg X.base CX k f fd ps sp) (hr : Room k X.A) (hN : X.N[i]? = some x) (hv : Vis X.env.scope x) (hk : PySem.W.keepIn X.K (.ref f) = true) (hb : Binds X.K fd ps []) (hx : ∀ σ, PassesAt CX X σ (E σ)) (ha : PA X (e :: es) t)
    (hdb : (x == ("__debug__" : Str)) = false := by decide) (hcd : (x == ("__classdict__" : Str)) = false := by decide)
    (he : starEach (e :: es) X.env = (false, eval e X.env) :: starEach es X.env := by rfl) (hpl : (backTo pos (starEach es X.env)).any (·.1) = false := by rfl) : PE X (.Call (.Name x p) (e :: es) [] pos) (tCallLS i f sp E t) := by
  refine ⟨fun pins s σ H Q I h => ?_⟩
  obtain ⟨hs, ht⟩ := h
  refine wpAny_Call_Name_kw (thn ((pe_var (pos := p) hN hv hdb hcd).run pins s σ H (fun v H1 => v = .ref f ∧ H1 = H) I ⟨.ref f, hs, rfl, rfl⟩) fun u s1 ⟨v, H1, I1, r1, q1⟩ => ?_)
  obtain ⟨rfl, rfl⟩ := q1
  cases r1
  refine PySem.W.callWith_K (h₀ := X.base) I.ok.mod.kin hk (thn (ha.run pos pins s1 σ _ _ I1 ht) fun us s2 ⟨vs, H2, I2, r, q⟩ => ⟨I2.kIn, ?_⟩) he hpl
  exact run_fnS F hr hb (hx σ) I2 r q
end
section
variable {G : Gx} {W : WX} {ta tb tk tv : DE} {Ta Tb Tk Tv : TE} {ts : DA} {Ts : TA} {i j n : Nat} {f : DF}
theorem le_callV (ha : LA G W n ts Ts) : LE G W (dCallV i j f ts) (tCallLS i (G.cm j) (spD G f) (WE W) Ts) := fun F0 H0 ρ F σ H Q QX QV S q hq hx => by
  obtain ⟨q0, q⟩ := q
  have hs : ρ[i]? = some (.val (.fn j)) := by
    cases h : ρ[i]? with
    | none => rw [h] at q0; cases q0
    | some s => rw [h] at q0; exact congrArg some q0
  obtain ⟨v, h1, h2⟩ := S.sl i _ hs
  refine ⟨by rw [h1, show v = .ref (G.cm j) from h2], ha F0 H0 ρ F σ H _ _ _ S q (fun ds vs F1 H1 e1 r1 l1 q1 => ⟨F1, ds, Q, QX, e1.fh, r1, q1, fun s v F2 H2 p q2 => hq s v F2 H2 (p.after e1) q2, hx.ext e1⟩) hx⟩
theorem key_eq : ∀ (k : List Key) (ns : List Int), eqL (k.map keyD) (ns.map D.int) = decide (k = ns.map Sum.inl)
  | [], [] => rfl
  | [], _ :: _ => rfl
  | _ :: _, [] => by simp [eqL]
  | .inl a :: k, n :: ns => by
    show (a == n && eqL (k.map keyD) (ns.map D.int)) = _
    rw [key_eq k ns]
    by_cases h : a = n
    · subst h; simp
    · simp [h]
  | .inr a :: k, n :: ns => by
    show (false && _) = _
    simp
theorem keyed_is {y : D} (h : y.keyed = true) : ∃ ns : List Int, y = .tup (ns.map D.int) ∧ ns.length < 4 := by
  cases y with
  | tup l =>
    have h' := Bool.and_eq_true_iff.mp (show (Nat.ble l.length 3 && l.all D.isI) = true from h)
    refine ⟨l.map D.num, ?_, by rw [List.length_map]; have := Nat.le_of_ble_eq_true h'.1; omega⟩
    rw [List.map_map]
    congr 1
    have key : ∀ d ∈ l, (D.int ∘ D.num) d = d := fun d hd => by
      have z := List.all_eq_true.mp h'.2 d hd
      cases d <;> first | rfl | cases z
    rw [List.map_congr_left key, List.map_id'']
    exact fun _ => rfl
  | _ => cases h
theorem ints_val {F : Hp} : ∀ {ns : List Int} {vs : List V}, RepL G F (ns.map D.int) vs → vs = (ns.map (Sum.inl : Int → Key)).map kV
  | [], _, h => h
  | n :: ns, _, ⟨v, r, e, h1, h2⟩ => by
    rw [e, show v = V.int n from h1, ints_val h2]
    rfl
theorem key_rep {F : Hp} {y : D} {v : V} (h : y.keyed = true) (r : Rep G F y v) : ∃ (b : Addr) (ns : List Int), v = .ref b ∧ y = .tup (ns.map D.int) ∧ F b = some (.tup ((ns.map (Sum.inl : Int → Key)).map kV)) := by
  obtain ⟨ns, rfl, hl⟩ := keyed_is h
  obtain ⟨a, vs, rfl, ⟨_, h2⟩, h3⟩ := r
  rw [ints_val h3] at h2
  exact ⟨a, ns, rfl, rfl, h2 (by simpa using hl)⟩
theorem in_keys {ns : List Int} : ∀ {kvs : List (List Key × V)}, inD (.tup (ns.map D.int)) (kvs.map fun p => D.tup (p.1.map keyD)) = (valV kvs (ns.map Sum.inl)).isSome := fun {kvs} => by
  rw [← valV_any]
  unfold inD
  rw [List.any_map]
  congr 1
  funext p
  exact key_eq p.1 ns
theorem look_keys {F : Hp} {ns : List Int} : ∀ {kvs : List (List Key × V)} {us : List D} {d : D}, RepL G F us (kvs.map (·.2)) → lookD (.tup (ns.map D.int)) (kvs.map fun p => D.tup (p.1.map keyD)) us = some d → ∃ v, valV kvs (ns.map Sum.inl) = some v ∧ Rep G F d v
  | [], us, d, r, h => by cases us <;> cases h
  | p :: kvs, [], d, r, h => by cases h
  | p :: kvs, u :: us, d, ⟨v, w, e, h1, h2⟩, h => by
    have e' : p.2 :: kvs.map (·.2) = v :: w := e
    cases e'
    have h : (if eqL (p.1.map keyD) (ns.map D.int) = true then some u else lookD (.tup (ns.map D.int)) (kvs.map fun p => D.tup (p.1.map keyD)) us) = some d := h
    rw [key_eq] at h
    by_cases hp : p.1 = ns.map Sum.inl
    · rw [if_pos (by simpa using hp)] at h
      cases h
      exact ⟨p.2, valV_pos hp, h1⟩
    · rw [if_neg (by simpa using hp)] at h
      obtain ⟨x, x1, x2⟩ := look_keys h2 h
      exact ⟨x, by rw [valV_neg hp]; exact x1, x2⟩
theorem put_keys {ns : List Int} {kvs : List (List Key × V)} {v : V} : (putK kvs (ns.map Sum.inl) v).map (fun p => D.tup (p.1.map keyD)) = putKs (.tup (ns.map D.int)) (kvs.map fun p => D.tup (p.1.map keyD)) := by
  unfold putK putKs
  rw [in_keys, ← valV_any]
  split
  · rw [List.map_map]
    refine List.map_congr_left fun p _ => ?_
    show D.tup ((if p.1 = ns.map Sum.inl then (p.1, v) else p).1.map keyD) = _
    split <;> rfl
  · rw [List.map_append]
    show _ ++ [D.tup ((ns.map (Sum.inl : Int → Key)).map keyD)] = _
    rw [List.map_map]
    rfl
theorem repl_vals {F : Hp} {ns : List Int} {y : D} {v : V} (hv : Rep G F y v) : ∀ {kvs : List (List Key × V)} {us : List D}, RepL G F us (kvs.map (·.2)) → RepL G F (replD (.tup (ns.map D.int)) y (kvs.map fun p => D.tup (p.1.map keyD)) us) ((kvs.map fun kv => if kv.1 = ns.map Sum.inl then (kv.1, v) else kv).map (·.2))
  | [], us, r => by
    cases us with
    | nil => exact rfl
    | cons u us => obtain ⟨_, _, e, _⟩ := r; cases e
  | p :: kvs, [], r => by cases (show p.2 :: kvs.map (·.2) = [] from r)
  | p :: kvs, u :: us, ⟨v', w, e, h1, h2⟩ => by
    have e' : p.2 :: kvs.map (·.2) = v' :: w := e
    cases e'
    refine ⟨_, _, rfl, ?_, repl_vals hv h2⟩
    show Rep G F (if eqL (p.1.map keyD) (ns.map D.int) = true then y else u) (if p.1 = ns.map Sum.inl then (p.1, v) else p).2
    rw [key_eq]
    by_cases hp : p.1 = ns.map Sum.inl
    · rw [if_pos (by simpa using hp), if_pos hp]; exact hv
    · rw [if_neg (by simpa using hp), if_neg hp]; exact h1
theorem put_vals {F : Hp} {ns : List Int} {y : D} {v : V} {kvs : List (List Key × V)} {us : List D} (hv : Rep G F y v) (r : RepL G F us (kvs.map (·.2))) : RepL G F (putVs (.tup (ns.map D.int)) y (kvs.map fun p => D.tup (p.1.map keyD)) us) ((putK kvs (ns.map Sum.inl) v).map (·.2)) := by
  unfold putK putVs
  rw [in_keys, ← valV_any]
  split
  · exact repl_vals hv r
  · rw [List.map_append]
    exact r.append ⟨v, [], rfl, hv, rfl⟩
theorem DGet.tR {H : Hp} {a b : Addr} {kvs : List (List L2.Key × V)} {k : List L2.Key} (e : Rd H a (.dT kvs)) (eb : H b = some (.tup (k.map kV))) : DGet H a (.ref b) (valV kvs k) := .inr ⟨kvs, k, b, e, rfl, eb, rfl⟩
theorem le_newD : LE G W dNewD tDNewT := fun F0 H0 ρ F σ H Q QX QV S q hq hx p hp =>
  hq (.ownd [] []) _ F _ ⟨.lay S.same hp, p, [], rfl, upd_same, S.same.free hp, hp, rfl, rfl⟩ q
theorem le_din (ha : LE G W ta Ta) (hb : LE G W tb Tb) : LE G W (dOp (cB bDIn) ta tb) (tDIn Ta Tb) := fun F0 H0 ρ F σ H Q QX QV S q hq hx =>
  ha.v S q (fun x u F1 H1 e1 r1 q1 => hb.v (S.ext e1) q1 (fun y v F2 H2 e2 r2 q2 => by
    cases y with
    | dct ks us =>
      obtain ⟨hk, q2⟩ := q2
      obtain ⟨b, ns, rfl, rfl, hb⟩ := key_rep hk r1
      obtain ⟨a, kvs, rfl, h1, rfl, h3⟩ := r2
      rw [in_keys] at q2
      exact ⟨a, _, rfl, DL.DGet.tR (rd_mono e2.fh h1) (e2.fh _ _ (e2.f _ _ hb)), hq _ _ F2 H2 (.val (e1.trans e2) (show Rep G F2 (.bl _) (.bl _) from rfl)) q2⟩
    | _ => exact q2.elim) (hx.ext e1)) hx
theorem le_dnotin (ha : LE G W ta Ta) (hb : LE G W tb Tb) : LE G W (dOp (cB bDNotIn) ta tb) (tDNotIn Ta Tb) := fun F0 H0 ρ F σ H Q QX QV S q hq hx =>
  ha.v S q (fun x u F1 H1 e1 r1 q1 => hb.v (S.ext e1) q1 (fun y v F2 H2 e2 r2 q2 => by
    cases y with
    | dct ks us =>
      obtain ⟨hk, q2⟩ := q2
      obtain ⟨b, ns, rfl, rfl, hb⟩ := key_rep hk r1
      obtain ⟨a, kvs, rfl, h1, rfl, h3⟩ := r2
      rw [in_keys] at q2
      exact ⟨a, _, rfl, DL.DGet.tR (rd_mono e2.fh h1) (e2.fh _ _ (e2.f _ _ hb)), hq _ _ F2 H2 (.val (e1.trans e2) (show Rep G F2 (.bl _) (.bl _) from rfl)) q2⟩
    | _ => exact q2.elim) (hx.ext e1)) hx
theorem le_dget (ha : LE G W ta Ta) (hb : LE G W tb Tb) : LE G W (dOp oDIx ta tb) (tDGet Ta Tb) := fun F0 H0 ρ F σ H Q QX QV S q hq hx =>
  ha.v S q (fun x u F1 H1 e1 r1 q1 => hb.v (S.ext e1) q1 (fun y v F2 H2 e2 r2 q2 => by
    cases x with
    | dct ks us =>
      obtain ⟨hk, q2⟩ := q2
      obtain ⟨b, ns, rfl, rfl, hb⟩ := key_rep hk r2
      obtain ⟨a, kvs, rfl, h1, rfl, h3⟩ := r1
      cases hl : lookD (.tup (ns.map D.int)) (kvs.map fun p => D.tup (p.1.map keyD)) us with
      | none => rw [hl] at q2; exact q2.elim
      | some d =>
        rw [hl] at q2
        obtain ⟨w, w1, w2⟩ := look_keys h3 hl
        have g := DL.DGet.tR (k := ns.map Sum.inl) (rd_mono e2.h (rd_mono e1.fh h1)) (e2.fh _ _ hb)
        rw [w1] at g
        exact ⟨a, w, rfl, g, hq _ _ F2 H2 (.val (e1.trans e2) (Rep.mono e2.f d w2)) q2⟩
    | _ => exact q2.elim) (hx.ext e1)) hx
theorem SRep.writeD {F0 H0 F H : Hp} {σ : Sg} {ρ : Env} {i : Nat} {ks us ks' us' : List D} {p : Addr} {kvs' : List (List Key × V)} (S : SRep G F0 H0 F H σ ρ) (hi : ρ[i]? = some (.ownd ks us)) (hp : σ[i]? = some (some (.ref p))) (hk : ks' = kvs'.map fun q => D.tup (q.1.map keyD)) (r : RepL G F us' (kvs'.map (·.2))) :
    SRep G F0 H0 F (upd H p (.dT kvs')) σ (ρ.set i (.ownd ks' us')) := by
  obtain ⟨p', vs, k1, k2, k3, k4, k5⟩ := S.sl i _ hi
  rw [hp] at k1; cases k1
  have hil : i < ρ.length := (List.getElem?_eq_some_iff.mp hi).1
  refine ⟨by simpa using S.len, ⟨S.e.f, fun a o z => ?_, fun a o z => ?_, S.e.new⟩, fun j t q => ?_, fun j k t t' q z1 z2 w1 w2 y1 y2 => ?_⟩
  · rw [upd_ne (fun h => by subst h; rw [k3] at z; cases z)]; exact S.e.fh a o z
  · rw [upd_ne (fun h => by subst h; rw [k4] at z; cases z)]; exact S.e.h a o z
  · by_cases hj : i = j
    · subst hj
      rw [List.getElem?_set_self hil] at q; cases q
      exact ⟨p, kvs', hp, upd_same, k3, k4, hk, r⟩
    · rw [List.getElem?_set_ne hj] at q
      have z := S.sl j t q
      have np : ∀ {p'}, t.owns = true → σ[j]? = some (some (V.ref p')) → p' ≠ p := fun {p'} tw y e => by
        subst e
        exact hj (S.dis i j _ t p' hi q rfl tw hp y)
      cases t with
      | un => trivial
      | val d => exact z
      | own l => obtain ⟨p', ws, g1, g2, g3, g4, g5⟩ := z; exact ⟨p', ws, g1, by rw [upd_ne (np rfl g1)]; exact g2, g3, g4, g5⟩
      | ownd ks us => obtain ⟨p', ws, g1, g2, g3, g4, g5⟩ := z; exact ⟨p', ws, g1, by rw [upd_ne (np rfl g1)]; exact g2, g3, g4, g5⟩
  · have other : ∀ {j : Nat} {t : Sl}, (ρ.set i (.ownd ks' us'))[j]? = some t → t.owns = true → ∃ t', ρ[j]? = some t' ∧ t'.owns = true := fun {j t} z tw => by
      by_cases hj : i = j
      · subst hj; exact ⟨_, hi, rfl⟩
      · rw [List.getElem?_set_ne hj] at z; exact ⟨t, z, tw⟩
    obtain ⟨s1, a1, b1⟩ := other z1 w1
    obtain ⟨s2, a2, b2⟩ := other z2 w2
    exact S.dis j k s1 s2 q a1 a2 b1 b2 y1 y2
theorem ls_put (hk : LE G W tk Tk) (hv : LE G W tv Tv) : LS G W (dPut i tk tv) (tAsg Tv (gSub (tVar i) Tk rSetD)) := fun F0 H0 ρ F σ H N D' S E q => by
  have q : (slotAt ρ i).ownedD fun ks vs => tv ρ (fun s => s.use fun v => tk ρ (fun s' => s'.use fun y => (y.keyed = true ∧ ks.length < 16777216) ∧ N.nx (ρ.set i (.ownd (putKs y ks) (putVs y v ks vs)))) fun e => N.xc e ρ) fun e => N.xc e ρ := q
  unfold slotAt at q
  cases hs : ρ[i]? with
  | none => rw [hs] at q; exact q.elim
  | some s =>
   rw [hs] at q
   cases s with
   | ownd ks us =>
    obtain ⟨p, kvs, k1, k2, k3, k4, k5, k6⟩ := S.sl i _ hs
    refine hv.v S q (fun d v F1 H1 e1 r1 q1 => ⟨_, k1, ?_⟩) (E.xw S)
    refine hk.v (S.ext e1) q1 (fun y w F2 H2 e2 r2 q2 => ?_) (E.xw (S.ext e1))
    obtain ⟨⟨hky, hl⟩, q2⟩ := q2
    obtain ⟨b, ns, rfl, rfl, hb⟩ := key_rep hky r2
    have S2 := (S.ext e1).ext e2
    subst k5
    have e12 := e1.trans e2
    refine ⟨p, _, rfl, DPut.t (e12.h _ _ k2) (e2.fh _ _ hb) (by rw [sizeLine_eq]; simpa using hl), E.nx _ F2 σ _ (S2.writeD hs k1 put_keys.symm (put_vals (Rep.mono e2.f d r1) (RepL.mono e12.f us k6))) q2⟩
   | _ => exact q.elim
theorem ixN_is (n : Nat) (k : Int) : L2.ixN n k = DL.ixN n k := by
  unfold L2.ixN DL.ixN
  rfl
theorem rep_set {F : Hp} {d : D} {v : V} (r : Rep G F d v) : ∀ {l : List D} {vs : List V} (m : Nat), RepL G F l vs → RepL G F (l.set m d) (vs.set m v)
  | [], vs, m, h => by rw [show vs = [] from h]; exact rfl
  | a :: l, _, 0, ⟨w, t, e, h1, h2⟩ => by subst e; exact ⟨v, t, rfl, r, h2⟩
  | a :: l, _, m + 1, ⟨w, t, e, h1, h2⟩ => by subst e; exact ⟨w, _, rfl, h1, rep_set r m h2⟩
theorem ls_lput (hk : LE G W tk Tk) (hv : LE G W tv Tv) : LS G W (dLPut i tk tv) (tAsg Tv (gSub (tVar i) Tk rSetL)) := fun F0 H0 ρ F σ H N D' S E q => by
  have q : (slotAt ρ i).owned fun l => tv ρ (fun s => s.use fun v => tk ρ (fun s' => s'.use fun y => y.asInt fun j => optN (DL.ixN l.length j) fun m => N.nx (ρ.set i (.own (l.set m v)))) fun e => N.xc e ρ) fun e => N.xc e ρ := q
  unfold slotAt at q
  cases hs : ρ[i]? with
  | none => rw [hs] at q; exact q.elim
  | some s =>
   rw [hs] at q
   cases s with
   | own l =>
    obtain ⟨p, vs, k1, k2, k3, k4, k5⟩ := S.sl i _ hs
    refine hv.v S q (fun d v F1 H1 e1 r1 q1 => ⟨_, k1, ?_⟩) (E.xw S)
    refine hk.v (S.ext e1) q1 (fun y w F2 H2 e2 r2 q2 => ?_) (E.xw (S.ext e1))
    cases y with
    | int j =>
      have e12 := e1.trans e2
      have q2 : optN (DL.ixN l.length j) fun m => N.nx (ρ.set i (.own (l.set m d))) := q2
      cases hm : DL.ixN l.length j with
      | none => rw [hm] at q2; exact q2.elim
      | some m =>
        rw [hm] at q2
        refine ⟨p, vs, j, m, rfl, r2, e12.h _ _ k2, by rw [ixN_is, k5.length]; exact hm, E.nx _ F2 σ _ (((S.ext e1).ext e2).write hs k1 (rep_set (Rep.mono e2.f d r1) m (RepL.mono e12.f l k5))) q2⟩
    | _ => exact q2.elim
   | _ => exact q.elim
theorem ls_clear : LS G W (dClear i) (tDrop (tBM0 G.K "list" rClear (tVar i))) := fun F0 H0 ρ F σ H N D' S E q => by
  have q : (slotAt ρ i).owned fun _ => N.nx (ρ.set i (.own [])) := q
  unfold slotAt at q
  cases hs : ρ[i]? with
  | none => rw [hs] at q; exact q.elim
  | some s =>
   rw [hs] at q
   cases s with
   | own l =>
    obtain ⟨p, vs, k1, k2, k3, k4, k5⟩ := S.sl i _ hs
    exact ⟨_, k1, .inl ⟨rfl, _, SqL.of k2⟩, p, vs, rfl, rfl, k2, E.nx _ F σ _ (S.write hs k1 (l' := []) (vs' := []) rfl) q⟩
   | _ => exact q.elim
/-- list(d) -/
theorem keys_rep {F : Hp} : ∀ k : List Key, RepL G F (k.map keyD) (k.map kV)
  | [] => rfl
  | .inl a :: k => ⟨V.int a, _, rfl, rfl, keys_rep k⟩
  | .inr a :: k => ⟨V.str a, _, rfl, (rfl : V.str a = V.str ⟨a.cps.toList.toArray⟩), keys_rep k⟩
theorem lr_listD : LRs G fListD (fun xs H Q => ∃ d kvs, xs = [V.ref d] ∧ Rd H d (.dT kvs) ∧ ∀ p bs, H p = none → IsKeys H kvs bs → Q (.ref p) (upd H p (.lst (bs.map V.ref)))) := fun F H xs us Q QV e r q hq => by
  classical
  unfold fListD at q
  split at q
  · obtain ⟨v, rfl, a, kvs, rfl, h1, rfl, h3⟩ := one_rep r
    refine ⟨a, kvs, rfl, rd_mono e h1, fun p bs hp hk => ?_⟩
    let F' : Hp := fun b => if b ∈ bs then H b else F b
    have hin : ∀ b ∈ bs, ∃ xs, H b = some (.tup xs) := by
      clear h1 h3 hq q r
      unfold IsKeys at hk
      induction hk with
      | nil => exact fun b hb => absurd hb List.not_mem_nil
      | cons h t ih =>
        intro b hb
        rcases List.mem_cons.mp hb with rfl | hb
        · exact ⟨_, h⟩
        · exact ih b hb
    have fF : Same F F' := fun b o z => by
      show (if b ∈ bs then H b else F b) = some o
      split
      · exact e b o z
      · exact z
    have fh : Same F' H := fun b o z => by
      have z : (if b ∈ bs then H b else F b) = some o := z
      split at z
      · exact z
      · exact e b o z
    have ex : Ext F H F' H := ⟨fF, fh, Same.refl _, fun b o z => by
      have z : (if b ∈ bs then H b else F b) = some o := z
      split at z
      · rename_i hb
        obtain ⟨xs, hx⟩ := hin b hb
        rw [hx] at z; cases z
        exact .inr (.inr ⟨_, rfl⟩)
      · exact .inl z⟩
    have rl : RepL G F' (kvs.map fun q => D.tup (q.1.map keyD)) (bs.map V.ref) := by
      have at' : ∀ b ∈ bs, F' b = H b := fun b hb => if_pos hb
      clear_value F'
      clear h1 h3 hq q r hin fF fh ex
      unfold IsKeys at hk
      induction hk with
      | nil => exact rfl
      | cons h t ih =>
        refine ⟨_, _, rfl, ?_, ih fun b hb => at' b (List.mem_cons_of_mem _ hb)⟩
        have z := (at' _ List.mem_cons_self).trans h
        unfold Rep
        exact ⟨_, _, rfl, ⟨.inl (.inl z), fun _ => z⟩, keys_rep _⟩
    exact hq _ _ F' _ (.mkOwn ex hp rl) q
  · exact q.elim
end
abbrev encT (ns : List Int) : PyData := .tuple (ns.map PyData.int)
theorem dataLt_tups (p q : List Int) : PySem.W.dataLt (encT p) (encT q) = decide (p < q) := by
  rw [PySem.W.dataLt_tuple]
  exact PySem.W.dataLt_ints p q
theorem dataLe_tups : PySem.W.dataLe false encT = fun p q => decide (p ≤ q) := by
  funext p q
  show (!PySem.W.dataLt (encT q) (encT p)) = _
  rw [dataLt_tups]
  by_cases h : q < p
  · have h' : ¬ p ≤ q := fun r => List.not_lt.mpr r h
    simp [h, h']
  · have h' : p ≤ q := List.not_lt.mp h
    simp [h, h']
theorem alike_ints : ∀ p q : List Int, PySem.W.alikeAll (p.map PyData.int) (q.map PyData.int) = true
  | [], _ => by unfold PySem.W.alikeAll; rfl
  | _ :: _, [] => by unfold PySem.W.alikeAll; rfl
  | a :: p, b :: q => by
    show PySem.W.alikeAll (PyData.int a :: p.map PyData.int) (PyData.int b :: q.map PyData.int) = true
    unfold PySem.W.alikeAll
    rw [alike_ints p q]
    simp [PySem.W.alike]
theorem alike_tups (p q : List Int) : PySem.W.alike (encT p) (encT q) = true := by
  show PySem.W.alike (.tuple (p.map PyData.int)) (.tuple (q.map PyData.int)) = true
  unfold PySem.W.alike
  exact alike_ints p q
theorem depth_ints : ∀ p : List Int, PyData.depthAll (p.map PyData.int) = 0
  | [] => rfl
  | a :: p => by
    show max (PyData.depth (.int a)) (PyData.depthAll (p.map PyData.int)) = 0
    rw [depth_ints p]
    rfl
theorem depth_tup (p : List Int) : (encT p).depth ≤ 1 := by
  show PyData.depthAll (p.map PyData.int) + 1 ≤ 1
  rw [depth_ints p]
  exact Nat.le_refl _
theorem depth_tups : ∀ l : List (List Int), PyData.depthAll (l.map encT) ≤ 1
  | [] => Nat.zero_le _
  | a :: l => Nat.max_le.mpr ⟨depth_tup a, depth_tups l⟩
theorem lay_ints : ∀ p : List Int, PyData.canLayAll0 (p.map PyData.int) = true
  | [] => rfl
  | a :: p => by
    show (PyData.canLay0 (.int a) && PyData.canLayAll0 (p.map PyData.int)) = true
    rw [lay_ints p]
    rfl
theorem ints_inj : ∀ {p q : List Int}, p.map PyData.int = q.map PyData.int → p = q
  | [], [], _ => rfl
  | [], _ :: _, h => by cases h
  | _ :: _, [], h => by cases h
  | a :: p, b :: q, h => by
    have h1 := List.cons.inj h
    have h2 := PyData.int.inj h1.1
    rw [h2, ints_inj h1.2]
theorem lexLt_is : ∀ p q : List Int, HT.lexLt p q = decide (p < q)
  | [], [] => by rw [HT.lexLt_nil_nil]; simp
  | [], b :: q => by rw [HT.lexLt_nil_cons]; simp
  | a :: p, [] => by rw [HT.lexLt_cons_nil]; simp
  | a :: p, b :: q => by
    rw [HT.lexLt_cons, lexLt_is p q]
    by_cases h : a = b
    · simp [h, List.cons_lt_cons_iff]
    · simp [h, List.cons_lt_cons_iff]
theorem minD_enc : ∀ (l : List (List Int)) (x : List Int), PySem.W.minD (encT x) (l.map encT) = encT (minL x l)
  | [], x => rfl
  | y :: l, x => by
    show PySem.W.minD (if PySem.W.dataLt (encT y) (encT x) then encT y else encT x) (l.map encT) = encT (minL (if y < x then y else x) l)
    rw [dataLt_tups]
    by_cases h : y < x
    · rw [if_pos (by simpa using h), if_pos h]; exact minD_enc l y
    · rw [if_neg (by simpa using h), if_neg h]; exact minD_enc l x
section
variable {X : Cx}
abbrev Tpl (K : PySem.W.Frag) (H : Hp) (Good : V → List Int → Prop) : Prop := ∀ x ns, Good x ns → ∃ a, x = .ref a ∧ SqT K H a (ns.map V.int)
theorem dp_ints {K : PySem.W.Frag} {H : Hp} : ∀ ns : List Int, DpAll K H (ns.map V.int) (ns.map PyData.int)
  | [] => .nil
  | n :: ns => .cons (.int n) (dp_ints ns)
theorem tpl_reads {pins : List (Addr × Obj)} {σ : Sg} {H : Hp} {s : Shared} {Good : V → List Int → Prop} (I : Inv X pins σ H s) (hg : Tpl X.K H Good) {x : V} {v : Value} {ns : List Int} (r : RelV x v) (g : Good x ns) : ∃ as, Reads s.heap v (encT ns) as := by
  obtain ⟨a, rfl, h⟩ := hg x ns g
  exact Dp.reads I _ _ _ (.tup h (dp_ints ns)) r
theorem pair_each {Good : V → List Int → Prop} : ∀ {ws : List V} {its : List Value} {nss : List (List Int)}, Vals ws its → Paired Good ws nss → PySem.W.EachIs (fun v ns => ∃ x, RelV x v ∧ Good x ns) its nss
  | [], _, _, .nil, .nil => .nil
  | _ :: _, _, _, .cons r rs, .cons g gs => .cons ⟨_, r, g⟩ (pair_each rs gs)
theorem each_pair {Good : V → List Int → Prop} : ∀ {its : List Value} {nss : List (List Int)}, PySem.W.EachIs (fun v ns => ∃ x, RelV x v ∧ Good x ns) its nss → ∃ ws, Vals ws its ∧ Paired Good ws nss
  | [], _, .nil => ⟨[], .nil, .nil⟩
  | _ :: _, _, .cons ⟨x, r, g⟩ hs => by
    obtain ⟨ws, h1, h2⟩ := each_pair hs
    exact ⟨x :: ws, .cons r h1, .cons g h2⟩
/-- sorted(xs), xs a list of tuples of whole numbers, none of them empty -/
def rSortP (K : PySem.W.Frag) : List V → Hp → VK → Prop := fun xs H Q => ∃ (l : Addr) (ws : List V) (nss : List (List Int)) (Good : V → List Int → Prop), xs = [V.ref l] ∧ SqL K H l ws ∧ Paired Good ws nss ∧ Tpl K H Good ∧ (∀ ns ∈ nss, ns ≠ []) ∧ nss.length ≤ sizeLine ∧
  ∀ p xs', H p = none → Paired Good xs' (sortL nss) → Q (.ref p) (upd H p (.lst xs'))
theorem cr_sortP (hu : X.A.units + 64 < cLine) : CallR X (.builtin "sorted") (rSortP X.K) := by
  intro pins s σ H vs us Q I r h
  obtain ⟨l, ws, nss, Good, rfl, hs, hp, hg, hne, hl, q⟩ := h
  obtain ⟨its, rv, hL, hz⟩ := I.list hs
  rw [Vals.ref1 r]
  have eR := pair_each rv hp
  refine PySem.W.sorted_data (enc := encT) hL.isList eR (eR.mono fun v ns ⟨x, rx, g⟩ => tpl_reads I hg rx g) (PySem.W.AllAlike.of alike_tups) (.inl fun d hd => ?_) hl (fun b hb => ?_) fun out ho hm => ?_
  · obtain ⟨ns, hn, rfl⟩ := List.mem_map.mp hd
    cases ns with
    | nil => exact (hne [] hn rfl).elim
    | cons a ns => exact ⟨.int a, ns.map PyData.int, rfl⟩
  · have := depth_tup b
    omega
  · rw [dataLe_tups] at hm
    obtain ⟨xs', h1, h2⟩ := each_pair hm
    obtain ⟨ep, he'⟩ := PyProof.Rows.sortedAll_at s.heap its (List.toArray out)
    have hlen : xs'.length ≤ sizeLine := by rw [h1.length, ho]; exact hl
    exact ⟨.ref _, upd H (s.heap.objs.size + 1) (.lst xs'), I.laid (t' := s.toks) (fun _ _ => PyProof.Rows.sortedAll_old) (Nat.le_succ _) ⟨hlen, out, ep, h1, he'⟩, rfl, q _ _ (I.hok.fresh (Nat.le_succ _)) h2⟩
/-- min(xs), xs a list of tuples of whole numbers -/
def rMinP (K : PySem.W.Frag) : List V → Hp → VK → Prop := fun xs H Q => ∃ (l : Addr) (ws : List V) (n : List Int) (nss : List (List Int)) (Good : V → List Int → Prop), xs = [V.ref l] ∧ SqL K H l ws ∧ Paired Good ws (n :: nss) ∧ Tpl K H Good ∧ ∀ v, Good v (minL n nss) → Q v H
theorem cr_minP (hc : X.calm = true) (hu : X.A.units + 64 < cLine) : CallR X (.builtin "min") (rMinP X.K) := by
  intro pins s σ H vs us Q I r h
  obtain ⟨l, ws, n, nss, Good, rfl, hs, hp, hg, q⟩ := h
  obtain ⟨its, rv, hL, hz⟩ := I.list hs
  rw [Vals.ref1 r]
  have eR := pair_each rv hp
  obtain ⟨as, hr⟩ := PySem.W.each_readsAll (h := s.heap) encT (eR.mono fun v ns ⟨x, rx, g⟩ => tpl_reads I hg rx g)
  have hr' : ReadsAll s.heap its.toArray.toList (encT n :: nss.map encT) as := by simpa using hr
  refine PySem.W.min_list_data (I.ok.hd hc) hL.isList hr' ⟨fun x hx y hy => ?_, fun x hx e => ?_⟩ ?_ fun i v h' tk bs hi hrd hk => ?_
  · obtain ⟨a, _, rfl⟩ := List.mem_map.mp (show x ∈ (n :: nss).map encT from hx)
    obtain ⟨b, _, rfl⟩ := List.mem_map.mp (show y ∈ (n :: nss).map encT from hy)
    exact alike_tups a b
  · obtain ⟨a, _, rfl⟩ := List.mem_map.mp (show x ∈ (n :: nss).map encT from hx)
    cases e
  · have := depth_tups (n :: nss)
    have e : PyData.depthAll (encT n :: nss.map encT) = PyData.depthAll ((n :: nss).map encT) := rfl
    rw [e]
    omega
  · rw [minD_enc] at hrd
    have hmem : v ∈ its := by
      have : its[i]? = some v := by simpa using hi
      exact List.mem_of_getElem? this
    have find : ∀ {its : List Value} {l : List (List Int)}, PySem.W.EachIs (fun v ns => ∃ x, RelV x v ∧ Good x ns) its l → ∀ v ∈ its, ∃ ns x, RelV x v ∧ Good x ns := by
      intro its l e
      induction e with
      | nil => exact fun v hv => absurd hv List.not_mem_nil
      | cons h t ih =>
        intro v hv
        rcases List.mem_cons.mp hv with rfl | hv
        · obtain ⟨x, h1, h2⟩ := h; exact ⟨_, x, h1, h2⟩
        · exact ih v hv
    obtain ⟨ns, x, rx, g⟩ := find eR v hmem
    obtain ⟨as2, r2⟩ := tpl_reads I hg rx g
    have e := (Reads.unique (PyProof.Rows.Reads.keeps hk r2) _ _ hrd).1
    have e2 : ns = minL n nss := ints_inj (PyData.tuple.inj e)
    subst e2
    exact ⟨x, H, I.kept (t' := tk) fun b u z => hk b u z, rx, q x g⟩
end
section
variable {G : Gx}
theorem ints_is {d : D} (h : d.ints = true) : d = tupI d.nums := by
  cases d with
  | tup l =>
    show D.tup l = D.tup ((l.map D.num).map D.int)
    rw [List.map_map]
    congr 1
    have key : ∀ x ∈ l, (D.int ∘ D.num) x = x := fun x hx => by
      have z := List.all_eq_true.mp h x hx
      cases x <;> first | rfl | cases z
    rw [List.map_congr_left key, List.map_id'']
    exact fun _ => rfl
  | _ => cases h
theorem rep_tpl {F H : Hp} (e : Same F H) : Tpl G.K H fun v ns => Rep G F (tupI ns) v := fun x ns ⟨a, vs, e1, h1, h2⟩ => by
  have : vs = ns.map V.int := by
    have key : ∀ {ns : List Int} {vs : List V}, RepL G F (ns.map D.int) vs → vs = ns.map V.int := by
      intro ns
      induction ns with
      | nil => exact fun h => h
      | cons n ns ih => rintro _ ⟨v, r, e, h1, h2⟩; rw [e, show v = V.int n from h1, ih h2]; rfl
    exact key h2
  subst this
  exact ⟨a, e1, sqT_mono e h1.1⟩
theorem rep_pair {F : Hp} : ∀ {l : List D} {vs : List V}, (l.all D.ints) = true → RepL G F l vs → Paired (fun v ns => Rep G F (tupI ns) v) vs (l.map D.nums)
  | [], vs, _, h => by rw [show vs = [] from h]; exact .nil
  | d :: l, _, hi, ⟨v, r, e, h1, h2⟩ => by
    subst e
    have hi' := Bool.and_eq_true_iff.mp (show (d.ints && l.all D.ints) = true from hi)
    have h1' := h1
    rw [ints_is hi'.1] at h1'
    exact .cons h1' (rep_pair hi'.2 h2)
theorem pair_rep {F : Hp} : ∀ {nss : List (List Int)} {vs : List V}, Paired (fun v ns => Rep G F (tupI ns) v) vs nss → RepL G F (nss.map tupI) vs
  | [], _, .nil => rfl
  | _ :: _, _, .cons h t => ⟨_, _, rfl, h, pair_rep t⟩
theorem lr_minT : LRs G fMinT (rMinP G.K) := fun F H xs us Q QV e r q hq => by
  unfold fMinT at q
  split at q
  · rename_i x l
    obtain ⟨v, rfl, a, vs, rfl, h1, h2⟩ := one_rep r
    refine ⟨a, vs, x.nums, l.map D.nums, _, rfl, sqL_mono e h1, rep_pair q.1 h2, rep_tpl e, fun v hv => hq _ v F H (.val (.refl e) hv) q.2⟩
  · exact q.elim
theorem lr_sortT : LRs G fSortT (rSortP G.K) := fun F H xs us Q QV e r q hq => by
  unfold fSortT at q
  split at q
  · rename_i l
    obtain ⟨v, rfl, a, vs, rfl, h1, h2⟩ := one_rep r
    obtain ⟨q1, q2, q3⟩ := q
    have hall : ∀ d ∈ l, d.ints = true ∧ d.nums ≠ [] := fun d hd => by
      have z := Bool.and_eq_true_iff.mp (List.all_eq_true.mp q1 d hd)
      exact ⟨z.1, fun n => by rw [n] at z; cases z.2⟩
    refine ⟨a, vs, l.map D.nums, _, rfl, sqL_mono e h1, rep_pair (List.all_eq_true.mpr fun d hd => (hall d hd).1) h2, rep_tpl e, fun ns hn => ?_, by rw [List.length_map, sizeLine_eq]; exact q2, fun p xs' hp hx => hq _ _ F _ (.mkOwn (.refl e) hp (pair_rep hx)) q3⟩
    obtain ⟨d, hd, rfl⟩ := List.mem_map.mp hn
    exact (hall d hd).2
  · exact q.elim
theorem lr_ltT : LR2 G (cB bLtT) (rLtT G.K) := fun F H x y u v Q QV e rx ry q hq => by
  cases x with
  | tup a =>
    cases y with
    | tup b =>
      obtain ⟨q1, q2⟩ := q
      have z := Bool.and_eq_true_iff.mp q1
      have ea := ints_is (d := .tup a) z.1
      have eb := ints_is (d := .tup b) z.2
      rw [ea] at rx
      rw [eb] at ry
      obtain ⟨p, e1, s1⟩ := rep_tpl e _ _ rx
      obtain ⟨p', e2, s2⟩ := rep_tpl e _ _ ry
      refine ⟨p, p', _, _, e1, e2, s1, s2, ?_⟩
      rw [lexLt_is]
      exact hq _ _ F H (.val (.refl e) (show Rep G F (.bl _) (.bl _) from rfl)) q2
    | _ => exact q.elim
  | _ => exact q.elim
end
section
variable {X : Cx} {G : Gx} {W : WX} {k : Nat} {a b c e : Expr} {es : List Expr} {ta tb tc te : DE} {ts : DA} {t u : DS} {pos p p2 p3 : Pos} {n i j l : Nat} {x y : Str}
theorem Cxt.units1 (C : Cxt X G W k) : X.A.units + 1 < cLine := by have := C.room.un; omega
theorem Cxt.units0 (C : Cxt X G W k) : X.A.units < cLine := by have := C.room.un; omega
theorem j_gfn (hm : X.mg x = some (.ref (G.cm j))) (hg : Gl X x := by rfl) (hd : (x == ("__debug__" : Str)) = false := by decide) : JE X G W (.Name x pos) (dC (.fn j)) := ⟨_, pe_glob (v := .ref (G.cm j)) hg hm rfl hd, le_c fun _ => rfl⟩
theorem j_callV {f : DF} (C : Cxt X G W k) (h : Fn1 X.prog X.w G X.mg X.base l y f) (hy : X.mg y = some (.ref (G.cm j))) (ha : JA X G W n (e :: es) ts) (hj : l ≤ k := by decide) (hN : X.N[i]? = some x := by rfl) (hv : Vis X.env.scope x := by first | exact Or.inl rfl | exact Or.inr (Or.inl rfl))
    (hdb : (x == ("__debug__" : Str)) = false := by decide) (hcd : (x == ("__classdict__" : Str)) = false := by decide)
    (he : starEach (e :: es) X.env = (false, eval e X.env) :: starEach es X.env := by rfl) (hpl : (backTo pos (starEach es X.env)).any (·.1) = false := by rfl) : JE X G W (.Call (.Name x p) (e :: es) [] pos) (dCallV i j f ts) := by
  obtain ⟨a, fd, ps, hm, hk, hb, F⟩ := h.ex
  obtain ⟨T, q, l⟩ := ha
  have ea : a = G.cm j := by
    have := hm.symm.trans hy
    cases this
    rfl
  subst ea
  exact ⟨_, pe_callLS (i := i) (by rw [C.K]; exact F) (C.room.mono hj) hN hv (by rw [C.K]; exact hk) (by rw [C.K]; exact hb) C.hx q hdb hcd he hpl, le_callV l⟩
theorem j_newD : JE X G W (.Dict [] [] pos) dNewD := ⟨_, pe_dnewT, le_newD⟩
theorem j_din (C : Cxt X G W k) (ha : JE X G W a ta) (hb : JE X G W b tb) (hm : behindInMarks .In b = false := by rfl) : JE X G W (.Compare a [.In] [b] pos) (dOp (cB bDIn) ta tb) := let ⟨_, p, l⟩ := ha; let ⟨_, q, m⟩ := hb; ⟨_, pe_cmp (pc_din C.units1 p q) hm, le_din l m⟩
theorem j_dnotin (C : Cxt X G W k) (ha : JE X G W a ta) (hb : JE X G W b tb) (hm : behindInMarks .NotIn b = false := by rfl) : JE X G W (.Compare a [.NotIn] [b] pos) (dOp (cB bDNotIn) ta tb) := let ⟨_, p, l⟩ := ha; let ⟨_, q, m⟩ := hb; ⟨_, pe_cmp (pc_dnotin C.units1 p q) hm, le_dnotin l m⟩
theorem jt_din (C : Cxt X G W k) (ha : JE X G W a ta) (hb : JE X G W b tb) (hm : behindInMarks .In b = false := by rfl) : JT X G W (.Compare a [.In] [b] pos) (dOp (cB bDIn) ta tb) := let ⟨_, p, l⟩ := ha; let ⟨_, q, m⟩ := hb; ⟨_, pt_cmp (pc_din C.units1 p q) hm, lt_valB (le_din l m)⟩
theorem jt_dnotin (C : Cxt X G W k) (ha : JE X G W a ta) (hb : JE X G W b tb) (hm : behindInMarks .NotIn b = false := by rfl) : JT X G W (.Compare a [.NotIn] [b] pos) (dOp (cB bDNotIn) ta tb) := let ⟨_, p, l⟩ := ha; let ⟨_, q, m⟩ := hb; ⟨_, pt_cmp (pc_dnotin C.units1 p q) hm, lt_valB (le_dnotin l m)⟩
theorem j_dget (C : Cxt X G W k) (ha : JE X G W a ta) (hb : JE X G W b tb) (hs : NoSl b := by exact fun _ _ => rfl) : JE X G W (.Subscript a b pos) (dOp oDIx ta tb) := let ⟨_, p, l⟩ := ha; let ⟨_, q, m⟩ := hb; ⟨_, pe_dget C.units1 p q hs, le_dget l m⟩
theorem s_dput (C : Cxt X G W k) (hk : JE X G W b tb) (hv : JE X G W a ta) (hN : X.N[i]? = some x := by rfl) (hvis : Vis X.env.scope x := by first | exact Or.inl rfl | exact Or.inr (Or.inl rfl)) (hd : (x == ("__debug__" : Str)) = false := by decide) (hcd : (x == ("__classdict__" : Str)) = false := by decide)
    (hs : swapsWithSole [.Subscript (.Name x p) b p2] a pos.line X.env = pure false := by rfl) (hw : swappedStores [.Subscript (.Name x p) b p2] a X.env = pure none := by rfl)
    (h1 : (assignEach [.Subscript (.Name x p) b p2] X.env).map (·.2) = [assign (.Subscript (.Name x p) b p2) X.env] := by rfl)
    (ha : ∀ v, assign (.Subscript (.Name x p) b p2) X.env v = (do
      let ov ← holding [v] (eval (.Name x p) X.env)
      let iv ← holding [v, ov] (eval b X.env)
      standAt p2
      holding [v, ov, iv] (setItem ov iv v)
      release [v, ov, iv] []) := by intro _; rfl) :
    JS X G W (.Assign [.Subscript (.Name x p) b p2] a pos) (dPut i tb ta) := let ⟨_, p, l⟩ := hk; let ⟨_, q, m⟩ := hv; ⟨_, ps_asg q (pg_sub (pe_var hN hvis hd hcd) p (set_dict C.units1) ha) hs hw h1, ls_put l m⟩
theorem s_ltput (C : Cxt X G W k) (hk : JE X G W b tb) (hv : JE X G W a ta) (hN : X.N[i]? = some x := by rfl) (hvis : Vis X.env.scope x := by first | exact Or.inl rfl | exact Or.inr (Or.inl rfl)) (hd : (x == ("__debug__" : Str)) = false := by decide) (hcd : (x == ("__classdict__" : Str)) = false := by decide)
    (hs : swapsWithSole [.Subscript (.Name x p) b p2] a pos.line X.env = pure false := by rfl) (hw : swappedStores [.Subscript (.Name x p) b p2] a X.env = pure none := by rfl)
    (h1 : (assignEach [.Subscript (.Name x p) b p2] X.env).map (·.2) = [assign (.Subscript (.Name x p) b p2) X.env] := by rfl)
    (ha : ∀ v, assign (.Subscript (.Name x p) b p2) X.env v = (do
      let ov ← holding [v] (eval (.Name x p) X.env)
      let iv ← holding [v, ov] (eval b X.env)
      standAt p2
      holding [v, ov, iv] (setItem ov iv v)
      release [v, ov, iv] []) := by intro _; rfl) :
    JS X G W (.Assign [.Subscript (.Name x p) b p2] a pos) (dLPut i tb ta) := let ⟨_, p, l⟩ := hk; let ⟨_, q, m⟩ := hv; ⟨_, ps_asg q (pg_sub (pe_var hN hvis hd hcd) p set_list ha) hs hw h1, ls_lput l m⟩
theorem s_clear {pa : Pos} (C : Cxt X G W k) (hN : X.N[i]? = some x := by rfl) (hv : Vis X.env.scope x := by first | exact Or.inl rfl | exact Or.inr (Or.inl rfl)) (hd : (x == ("__debug__" : Str)) = false := by decide) (hcd : (x == ("__classdict__" : Str)) = false := by decide)
    (hbase : attributeBase (.Name x p) "clear" X.env (eval (.Name x p) X.env) = eval (.Name x p) X.env := by rfl) (hline : (pa.endLine == p2.line) = true := by rfl)
    (hs : swapsWith (.Call (.Attribute (.Name x p) "clear" pa) [] [] p2) none pos.line X.env = pure false := by rfl) : JS X G W (.Expr (.Call (.Attribute (.Name x p) "clear" pa) [] [] p2) pos) (dClear i) := by
  refine ⟨_, ps_expr (pe_bm0 PySem.F.plainAttrs_list PySem.F.slot_list_clear PySem.F.type_list_clear mt_clear (pe_var hN hv hd hcd) hbase hline) hs, ?_⟩
  rw [C.K]
  exact ls_clear
theorem j_listD (C : Cxt X G W k) (hm : X.mg "list" = none) (ha : JA X G W n [e] ts) (hg : Gl X "list" := by rfl) (he : starEach [e] X.env = [(false, eval e X.env)] := by rfl) : JE X G W (.Call (.Name "list" p) [e] [] pos) (dAs fListD ts) :=
  let ⟨_, q, l⟩ := ha; ⟨_, pe_callTy (call_list_dT C.calm) hg hm (by decide +kernel) q (he := he), le_as lr_listD l⟩
theorem j_minT (C : Cxt X G W k) (hm : X.mg "min" = none) (ha : JA X G W n [e] ts) (hg : Gl X "min" := by rfl) (he : starEach [e] X.env = [(false, eval e X.env)] := by rfl) : JE X G W (.Call (.Name "min" p) [e] [] pos) (dAs fMinT ts) :=
  j_bi (cr_minP C.calm C.units) (by rw [C.K]; exact lr_minT) hg hm boot_min ha (he := he)
theorem boot_sorted' : bootBuiltins "sorted" = some (.builtin "sorted") := by decide +kernel
theorem j_sortT (C : Cxt X G W k) (hm : X.mg "sorted" = none) (ha : JA X G W n [e] ts) (hg : Gl X "sorted" := by rfl) (he : starEach [e] X.env = [(false, eval e X.env)] := by rfl) : JE X G W (.Call (.Name "sorted" p) [e] [] pos) (dAs fSortT ts) :=
  j_bi (cr_sortP C.units) (by rw [C.K]; exact lr_sortT) hg hm boot_sorted' ha (he := he)
theorem j_ltT (C : Cxt X G W k) (ha : JE X G W a ta) (hb : JE X G W b tb) : JE X G W (.Compare a [.Lt] [b] pos) (dOp (cB bLtT) ta tb) := j_cmp (op_ltT C.units0) (by rw [C.K]; exact lr_ltT) ha hb (nomark _)
theorem jt_ltT (C : Cxt X G W k) (ha : JE X G W a ta) (hb : JE X G W b tb) : JT X G W (.Compare a [.Lt] [b] pos) (dOp (cB bLtT) ta tb) := let ⟨_, p, l⟩ := ha; let ⟨_, q, m⟩ := hb; ⟨_, pt_cmpR (op_ltT C.units0) p q (nomark _), lt_val (le_op (by rw [C.K]; exact lr_ltT) l m)⟩
theorem j_index {apos : Pos} (C : Cxt X G W k) (ha : JE X G W a ta) (hs : JA X G W n (e :: es) ts) (hbase : attributeBase a "index" X.env (eval a X.env) = eval a X.env := by rfl)
    (hfew : ((backTo pos (starEach (e :: es) X.env)).all (fun x => !x.1) && (backToKw pos (keywordEach [] X.env)).all (fun x => x.1.isSome)
      && decide ((e :: es).length + ([] : List Keyword).length + (if ([] : List Keyword).isEmpty then 0 else 1) < 30)) = true := by rfl)
    (hline : (apos.endLine == pos.line) = true := by rfl) (hst : starEach (e :: es) X.env = (false, eval e X.env) :: starEach es X.env := by rfl) (hplain : (backTo pos (starEach es X.env)).any (·.1) = false := by rfl) :
    JE X G W (.Call (.Attribute a "index" apos) (e :: es) [] pos) (dIndex ta ts) := by
  obtain ⟨_, p, l⟩ := ha
  obtain ⟨_, q, m⟩ := hs
  refine ⟨_, pe_bm PySem.F.plainAttrs_list PySem.F.slot_list_index PySem.F.type_list_index (mt_indexD C.units65) p q hbase hfew hline hst hplain, ?_⟩
  rw [C.K]
  exact le_index l m
end
end DL

/- DLo -/
namespace DL
open PySem PySem.Spec PyProof.Rows L2
section
variable {X : Cx} {CX : CXT} {k : Nat} {f C : Addr} {fd : FuncData} {ps : List Str} {sp : Sp} {E : Sg → XK} {x m : Str} {p pos apos : Pos} {e o : Expr} {es : List Expr} {ta : TE} {t : TA} {mc : Value}
def tMakeS (C : Addr) (sp : Sp) (E : Sg → XK) (t : TA) : TE := fun σ H Q => t σ H fun vs H1 => ∀ x dx, H1 x = none → H1 dx = none → dx ≠ x → sp (.ref x :: vs) (upd (upd H1 dx (.own x)) x (.ins C dx [])) (fun v H2 => v = .non ∧ Q (.ref x) H2) (E σ)
theorem run_makeS {pins : List (Addr × Obj)} {σ : Sg} {H : Hp} {s : Shared} {Q : VK} {us : List Value} {vs : List V} {E : XK} (M : Mk X.K C f) (F : FnOk X.prog X.w X.K X.mg X.base CX k f fd ps sp) (hr : Room (k + 1) X.A) (hb : Binds X.K fd ps [])
    (hx : PassesAt CX X σ E) (I : Inv X pins σ H s) (r : Vals vs us)
    (h : ∀ x dx, H x = none → H dx = none → dx ≠ x → sp (.ref x :: vs) (upd (upd H dx (.own x)) x (.ins C dx [])) (fun v H2 => v = .non ∧ Q (.ref x) H2) E) :
    wpAny (model X.prog X.w) X.A (call (.ref C) us) (EP X pins σ Q) X.xe s := by
  have hq := h (s.heap.objs.size + 1) s.heap.objs.size (I.hok.fresh (Nat.le_succ _)) (I.hok.fresh (Nat.le_refl _)) (Nat.ne_of_lt (Nat.lt_succ_self _))
  have I2 := Inv.made (C := C) I
  have r2 : Vals (V.ref (s.heap.objs.size + 1) :: vs) (Value.ref (s.heap.objs.size + 1) :: us) := .cons rfl r
  have hl : (Value.ref (s.heap.objs.size + 1) :: us).length = ps.length := by
    have e := r2.length
    rw [F.len _ _ _ _ hq] at e
    exact e.symm
  have b := hb _ (Value.ref (s.heap.objs.size + 1) :: us) I2.kIn (by rw [List.append_nil]; exact hl)
  rw [List.append_nil] at b
  refine wpAny_call (make_map (f := f) I.kIn M.makes M.init (beq_iff_eq.mp M.fn) (codeAny_mono (F.run _ X.stack _ _ ⟨Value.ref (s.heap.objs.size + 1) :: us, []⟩ (Value.ref (s.heap.objs.size + 1) :: us) _ _ E (hr.make C us [])
    (I2.env0.make C us []) b r2 hq) fun r s' hq' => ?_))
  cases r with
  | error e => exact hx pins _ _ e s' I2 hq'
  | ok fl =>
    cases fl with
    | ret u =>
      obtain ⟨v, H', I3, rv, ev, q3⟩ := I2.after hq'
      subst ev
      exact ⟨rv, ⟨V.ref (s.heap.objs.size + 1), H', I3, rfl, q3⟩⟩
    | next => exact False.elim hq'
    | brk => exact False.elim hq'
    | cont => exact False.elim hq'
theorem pe_makeS (M : Mk X.K C f) (F : FnOk X.prog X.w X.K X.mg X.base CX k f fd ps sp) (hr : Room (k + 1) X.A) (hg : Gl X x) (hm : X.mg x = some (.ref C)) (hb : Binds X.K fd ps []) (hx : ∀ σ, PassesAt CX X σ (E σ))
    (ha : PA X (e :: es) t) (hdb : (x == ("__debug__" : Str)) = false := by decide) (he : starEach (e :: es) X.env = (false, eval e X.env) :: starEach es X.env := by rfl) (hpl : (backTo pos (starEach es X.env)).any (·.1) = false := by rfl) :
    PE X (.Call (.Name x p) (e :: es) [] pos) (tMakeS C sp E t) := by
  refine ⟨fun pins s σ H Q I h => ?_⟩
  refine wpAny_Call_Name_kw (ld_glob I hg hm ?_ hdb)
  refine PySem.W.callWith_K (h₀ := X.base) I.ok.mod.kin M.kp (thn (ha.run pos pins s σ H _ I h) fun us s1 ⟨vs, H1, I1, r, q⟩ => ⟨I1.kIn, ?_⟩) he hpl
  exact run_makeS M F hr hb (hx σ) I1 r q
/-- o.m(..), o an instance of one of some classes -/
structure MOk (P : Program) (w : World) (K : PySem.W.Frag) (mg : Str → Option Value) (base : Heap) (CX : CXT) (k : Nat) (m : Str) (C : Addr) (sp : Sp) : Prop where
  ex : ∃ (f : Addr) (fd : FuncData) (ps : List Str), Cls K C ∧ Meth K C m f ∧ FnOk P w K mg base CX k f fd ps sp ∧ Binds K fd ps []
def tMethU (ms : List (Addr × Sp)) (m : Str) (E : Sg → XK) (ta : TE) (t : TA) : TE := fun σ H Q => ta σ H fun x H1 => ∃ C sp a dx fs, (C, sp) ∈ ms ∧ x = .ref a ∧ H1 a = some (.ins C dx fs) ∧ fs.lookup m = none ∧ t σ H1 fun vs H2 => sp (x :: vs) H2 Q (E σ)
theorem pe_methU {ms : List (Addr × Sp)} {pl : Sem Bool} (he : PE X o ta) (h : ∀ C sp, (C, sp) ∈ ms → MOk X.prog X.w X.K X.mg X.base CX k m C sp) (hr : Room k X.A) (hx : ∀ σ, PassesAt CX X σ (E σ)) (ha : PA X (e :: es) t)
    (hst : starEach (e :: es) X.env = (false, eval e X.env) :: starEach es X.env := by rfl) (hpl : (backTo pos (starEach es X.env)).any (·.1) = false := by rfl)
    (ht : eval (.Call (.Attribute o m apos) (e :: es) [] pos) X.env = (do
      let ov ← eval o X.env
      standAt apos.atName
      let (f, first) ← holding [ov] (getMethod ov m pl)
      callWith pos f first (backTo pos (starEach (e :: es) X.env)) (backToKw pos (keywordEach [] X.env))) := by rfl) :
    PE X (.Call (.Attribute o m apos) (e :: es) [] pos) (tMethU ms m E ta t) := by
  refine ⟨fun pins s σ H Q I hh => ?_⟩
  refine PySem.W.methodCall_KW (pl := pl) (thn (he.run pins s σ H _ I hh) fun u s1 ⟨x, H1, I1, rx, C, sp, a, dx, fs, hms, ex, ea, l, q⟩ => ?_) ht
  subst ex
  obtain rfl : u = Value.ref a := rx
  obtain ⟨f, fd, ps, c, hm, F, hb⟩ := (h C sp hms).ex
  refine getmeth_ok I1 ea c hm l ?_
  refine PySem.W.callWith_K (first := [.ref a]) (h₀ := X.base) I.ok.mod.kin hm.kp (thn (ha.run pos pins s1 σ H1 _ I1 q) fun us s2 ⟨vs, H2, I2, r, q2⟩ => ⟨I2.kIn, ?_⟩) hst hpl
  exact run_fnS (us := .ref a :: us) (vs := .ref a :: vs) F hr hb (hx σ) I2 (.cons rfl r) q2
theorem pe_methU0 {ms : List (Addr × Sp)} {pl : Sem Bool} (he : PE X o ta) (h : ∀ C sp, (C, sp) ∈ ms → MOk X.prog X.w X.K X.mg X.base CX k m C sp) (hr : Room k X.A) (hx : ∀ σ, PassesAt CX X σ (E σ))
    (ht : eval (.Call (.Attribute o m apos) [] [] pos) X.env = (do
      let ov ← eval o X.env
      standAt apos.atName
      let (f, first) ← holding [ov] (getMethod ov m pl)
      callWith pos f first (backTo pos (starEach [] X.env)) (backToKw pos (keywordEach [] X.env))) := by rfl) :
    PE X (.Call (.Attribute o m apos) [] [] pos) (tMethU ms m E ta tNil) := by
  refine ⟨fun pins s σ H Q I hh => ?_⟩
  refine PySem.W.methodCall_KW (pl := pl) (thn (he.run pins s σ H _ I hh) fun u s1 ⟨x, H1, I1, rx, C, sp, a, dx, fs, hms, ex, ea, l, q⟩ => ?_) ht
  subst ex
  obtain rfl : u = Value.ref a := rx
  obtain ⟨f, fd, ps, c, hm, F, hb⟩ := (h C sp hms).ex
  refine getmeth_ok I1 ea c hm l ?_
  exact PySem.W.callWith_K0 (first := [.ref a]) I1.kIn hm.kp (run_fnS (us := [.ref a]) (vs := [.ref a]) F hr hb (hx σ) I1 (.cons rfl .nil) q)
/-- C.m(..), m a def of the class C, called as a plain def -/
structure ClsFn (K : PySem.W.Frag) (C : Addr) (mc : Value) (m : Str) (f : Addr) : Prop where
  r : ClX.CRead K C mc
  at_ : PySem.W.findCls K (.ref C) mc m = some (.val (.ref f))
  kp : PySem.W.keepIn K (.ref f) = true
def tClsF (sp : Sp) (E : Sg → XK) (t : TA) : TE := fun σ H Q => t σ H fun vs H1 => sp vs H1 Q (E σ)
theorem pe_clsf {pl : Sem Bool} (c : ClsFn X.K C mc m f) (F : FnOk X.prog X.w X.K X.mg X.base CX k f fd ps sp) (hr : Room k X.A) (hb : Binds X.K fd ps []) (hg : Gl X x) (hm : X.mg x = some (.ref C)) (hx : ∀ σ, PassesAt CX X σ (E σ)) (ha : PA X (e :: es) t) (hdb : (x == ("__debug__" : Str)) = false := by decide)
    (hst : starEach (e :: es) X.env = (false, eval e X.env) :: starEach es X.env := by rfl) (hpl : (backTo pos (starEach es X.env)).any (·.1) = false := by rfl)
    (ht : eval (.Call (.Attribute (.Name x p) m apos) (e :: es) [] pos) X.env = (do
      let ov ← eval (.Name x p) X.env
      standAt apos.atName
      let (f, first) ← holding [ov] (getMethod ov m pl)
      callWith pos f first (backTo pos (starEach (e :: es) X.env)) (backToKw pos (keywordEach [] X.env))) := by rfl) :
    PE X (.Call (.Attribute (.Name x p) m apos) (e :: es) [] pos) (tClsF sp E t) := by
  refine ⟨fun pins s σ H Q I h => ?_⟩
  refine PySem.W.methodCall_KW (pl := pl) (ld_glob I hg hm ?_ hdb) ht
  refine PySem.W.method_cls I.kIn c.r.ga (PySem.W.cls_value I.kIn c.r.rd c.at_ (handed_of (v := .ref f) rfl) ?_)
  have I2 : Inv X pins σ H { s with toks := s.toks + 1 } := I.tok _
  refine PySem.W.callWith_K (first := []) (h₀ := X.base) I.ok.mod.kin c.kp (thn (ha.run pos pins { s with toks := s.toks + 1 } σ H _ I2 h) fun us s1 ⟨vs, H1, I1, r, q⟩ => ⟨I1.kIn, ?_⟩) hst hpl
  exact run_fnS F hr hb (hx σ) I1 r q
end
structure ExtX (x : Addr) (F H F' H' : Hp) : Prop where
  f : Same F F'
  fh : Same F' H'
  h : ∀ a o, H a = some o → a ≠ x → H' a = some o
  new : ∀ a o, F' a = some o → F a = some o ∨ H a = none ∨ ∃ xs, o = .tup xs
theorem ExtX.start {x : Addr} {F H : Hp} (e : Same F H) : ExtX x F H F H := ⟨Same.refl _, e, fun _ _ q _ => q, fun _ _ q => .inl q⟩
theorem ExtX.put {x : Addr} {F H F1 H1 : Hp} (E : ExtX x F H F1 H1) (hx : F1 x = none) (o : HO) : ExtX x F H F1 (upd H1 x o) :=
  ⟨E.f, fun a u q => by
    have hne : a ≠ x := fun z => by rw [z, hx] at q; cases q
    rw [upd_ne hne]; exact E.fh a u q, fun a u q hne => by rw [upd_ne hne]; exact E.h a u q hne, E.new⟩
theorem ExtX.ext {x : Addr} {F H F1 H1 F2 H2 : Hp} (E : ExtX x F H F1 H1) (e : Ext F1 H1 F2 H2) {o : HO} (hx : H1 x = some o) : ExtX x F H F2 H2 :=
  ⟨E.f.trans e.f, e.fh, fun a u q hne => e.h a u (E.h a u q hne), fun a u q => by
    rcases e.new a u q with z | z | z
    · exact E.new a u z
    · by_cases hne : a = x
      · rw [hne, hx] at z; cases z
      · cases hh : H a with
        | none => exact .inr (.inl rfl)
        | some v => rw [E.h a v hh hne] at z; cases z
    · exact .inr (.inr z)⟩
/-- the promise of the base class's __init__ -/
def spS (G : Gx) (c : Nat) (f1 : DF) : Sp := fun vs H Q E => ∃ (F : Hp) (x dx : Addr) (d : D) (w : V) (QM : D → Prop) (QX : DX), vs = [.ref x, w] ∧ H x = some (.ins (G.cm c) dx []) ∧ F x = none ∧ Same F H ∧ Rep G F d w ∧ Cls G.K (G.cm c) ∧ NoAttr G.K (G.cm c) "form" ∧ NoAttr G.K (G.cm c) "measure" ∧ f1 [d] (fun s => s.use QM) QX ∧
  (∀ m vm F' H', ExtX x F H F' H' → H' x = some (.ins (G.cm c) dx [("form", w), ("measure", vm)]) → F' x = none → Rep G F' m vm → QM m → Q .non H') ∧
  ∀ y, QX y → ∀ cls d' F' H', ExtX x F H F' H' → XRep G F' y cls d' H' → E cls d' H'
/-- the promise of a class's __init__ -/
def spI (G : Gx) (c : Nat) (f1 f2 : DF) : Sp := fun vs H Q E => ∃ (F : Hp) (x dx : Addr) (d : D) (w : V) (QD : List D → Prop) (QX : DX), vs = [.ref x, w] ∧ H x = some (.ins (G.cm c) dx []) ∧ F x = none ∧ Same F H ∧ Rep G F d w ∧ f1 [d] (fun s => s.use fun m => f2 [d] (fun s' => s'.use fun g => QD [d, m, g]) QX) QX ∧
  (∀ us fs F' H', ExtX x F H F' H' → H' x = some (.ins (G.cm c) dx fs) → fs.map (·.1) = XF c → F' x = none → RepL G F' us (fs.map (·.2)) → QD us → Q .non H') ∧
  ∀ y, QX y → ∀ cls d' F' H', ExtX x F H F' H' → XRep G F' y cls d' H' → E cls d' H'
theorem sRep_self {G : Gx} {F H : Hp} {x : Addr} {d : D} {w : V} (e : Same F H) (r : Rep G F d w) : SRep G F H F H [some (.ref x), some w] [.un, .val d] := by
  refine ⟨rfl, .refl e, fun i s q => ?_, fun i j s t p h1 h2 w1 w2 _ _ => ?_⟩
  · match i, q with
    | 0, q => cases q; trivial
    | 1, q => cases q; exact ⟨w, rfl, r⟩
    | i + 2, q => cases q
  · match i, h1 with
    | 0, h1 => cases h1; cases w1
    | 1, h1 => cases h1; cases w1
    | i + 2, h1 => cases h1
section
variable {P : Program} {w : World} {G : Gx} {mg : Str → Option Value} {base : Heap} {k : Nat} {q : Str} {args : Arguments} {body : List Stmt} {sc : Scope} {fI : Addr} {fd : FuncData} {c : Nat} {f1 f2 : DF}
theorem shape_init (F : FunD G.K "__init__" q args body sc [] [] fI fd) (S : FnScope ["self", "form"] ["self", "form"] sc)
    (hb : ∀ (cdv : Value) (A : Around) (outer : List PySem.Env) (s : Shared) (H : Hp) (E : XK), Room k (A.deeper (envOfC q sc s.heap.objs.size fI cdv)) →
      ∃ T, PSs (cxOf (L2.CX P w) P w G.K mg base ["self", "form"] q sc fI cdv A outer s H E) body (tSeq (sFld G.K (tVar 0) (tVar 1) "form") (sFld G.K (tVar 0) T "measure")) ∧ LE G (fun cls d _ H => E cls d H) (dCall f1 (dCons (dVar 1) dNil)) T) :
    FnOk P w G.K mg base (L2.CX P w) (k + 1) fI fd ["self", "form"] (spS G c f1) := by
  refine F.ok S (fun vs H Q E h => ?_) fun cdv A outer s H vs Q E hr h => ?_
  · obtain ⟨_, x, _, _, v, _, _, rfl, _⟩ := h
    rfl
  · obtain ⟨F0, x, dx, d, v, QM, QX, rfl, hx, fx, e, r, cl, n1, n2, hf, hQ, hX⟩ := h
    obtain ⟨T, hT, hL⟩ := hb cdv A outer s H E hr
    refine ⟨_, hT, v, rfl, .ref x, rfl, x, G.cm c, dx, [], rfl, hx, cl, n1, by decide, ?_⟩
    have E1 := (ExtX.start (x := x) e).put fx (.ins (G.cm c) dx [("form", v)])
    have hx1 : upd H x (.ins (G.cm c) dx [("form", v)]) x = some (.ins (G.cm c) dx [("form", v)]) := upd_same
    refine hL F0 _ [.un, .val d] F0 _ _ (fun s => s.use QM) QX _ (sRep_self E1.fh r) hf (fun s u F' H' p hu => ?_) fun y hy cls d' F' H' e' r' => ?_
    · obtain ⟨m, F2, e2, r2, hm⟩ := p.use hu
      have hx2 := e2.h _ _ hx1
      have fx2 := e2.hidden fx hx1 (fun _ z => nomatch z)
      have E2 := (E1.ext e2 hx1).put fx2 (.ins (G.cm c) dx [("form", v), ("measure", u)])
      exact ⟨.ref x, rfl, x, G.cm c, dx, [("form", v)], rfl, hx2, cl, n2, (by show 1 < 1000; decide), hQ m u F2 _ E2 upd_same fx2 r2 hm⟩
    · exact hX y hy cls d' F' H' (E1.ext e' hx1) r'
theorem obj_init {f : Str} {E0 : XK → Sg → XK} {ts : TA} (hc : XF c = (["form", "measure", f] : List Str)) (cl : Cls G.K (G.cm c)) (n1 : NoAttr G.K (G.cm c) "form") (n2 : NoAttr G.K (G.cm c) "measure") (n3 : NoAttr G.K (G.cm c) f) (hne : ("form" : Str) ≠ f) (hne2 : ("measure" : Str) ≠ f)
    (F : FunD G.K "__init__" q args body sc [] [] fI fd) (S : FnScope ["self", "form"] ["self", "form"] sc)
    (hb : ∀ (cdv : Value) (A : Around) (outer : List PySem.Env) (s : Shared) (H : Hp) (E : XK), Room k (A.deeper (envOfC q sc s.heap.objs.size fI cdv)) →
      ∃ T, PSs (cxOf (L2.CX P w) P w G.K mg base ["self", "form"] q sc fI cdv A outer s H E) body (tSeq (tDrop (tClsF (spS G c f1) (fun _ => E) (tCons (tVar 0) (tCons (tVar 1) tNil)))) (sFld G.K (tVar 0) T f)) ∧ LE G (fun cls d _ H => E cls d H) (dCall f2 (dCons (dVar 1) dNil)) T) :
    FnOk P w G.K mg base (L2.CX P w) (k + 1) fI fd ["self", "form"] (spI G c f1 f2) := by
  refine F.ok S (fun vs H Q E h => ?_) fun cdv A outer s H vs Q E hr h => ?_
  · obtain ⟨_, x, _, _, v, _, _, rfl, _⟩ := h
    rfl
  · obtain ⟨F0, x, dx, d, v, QD, QX, rfl, hx, fx, e, r, hf, hQ, hX⟩ := h
    obtain ⟨T, hT, hL⟩ := hb cdv A outer s H E hr
    refine ⟨_, hT, .ref x, rfl, v, rfl, F0, x, dx, d, v, _, QX, rfl, hx, fx, e, r, cl, n1, n2, hf, fun m vm F1 H1 E1 hx1 fx1 r1 hm => ?_, hX⟩
    have rd := Rep.mono E1.f d r
    refine hL F1 _ [.un, .val d] F1 _ _ (fun s' => s'.use fun g => QD [d, m, g]) QX _ (sRep_self E1.fh rd) hm (fun s u F' H' p hu => ?_) fun y hy cls d' F' H' e' r' => ?_
    · obtain ⟨g, F2, e2, r2, hg⟩ := p.use hu
      have hx2 := e2.h _ _ hx1
      have fx2 := e2.hidden fx1 hx1 (fun _ z => nomatch z)
      have E2 := (E1.ext e2 hx1).put fx2 (.ins (G.cm c) dx ([("form", v), ("measure", vm), (f, u)] : List (Str × V)))
      have hput : putF f u ([("form", v), ("measure", vm)] : List (Str × V)) = ([("form", v), ("measure", vm), (f, u)] : List (Str × V)) := by
        unfold putF
        rw [if_neg hne]
        unfold putF
        rw [if_neg hne2]
        rfl
      refine ⟨.ref x, rfl, x, G.cm c, dx, [("form", v), ("measure", vm)], rfl, hx2, cl, n3, (by show 2 < 1000; decide), ?_⟩
      rw [hput]
      exact hQ [d, m, g] _ F2 _ E2 upd_same (by rw [hc]; rfl) fx2 ⟨v, _, rfl, Rep.mono e2.f d rd, vm, _, rfl, Rep.mono e2.f m r1, u, _, rfl, r2, rfl⟩ hg
    · exact hX y hy cls d' F' H' (E1.ext e' hx1) r'
end
section
variable {G : Gx} {W : WX} {ta : DE} {Ta : TE} {ts : DA} {Ts : TA}
theorem le_make {c : Nat} {f1 f2 : DF} (hc : 11 ≤ c) (hf : G.fnm c = XF c) (ha : LA G W 1 ts Ts) : LE G W (dCall (mkObj c f1 f2) ts) (tMakeS (G.cm c) (spI G c f1 f2) (WE W) Ts) := fun F0 H0 ρ F σ H Q QX QV S q hq hx =>
  ha F0 H0 ρ F σ H _ QX _ S q (fun ds vs F1 H1 e1 r1 l1 q1 => fun x dx nx ndx nex => by
    match ds, l1, r1, q1 with
    | [d], _, ⟨w, r0, ew, rd, er⟩, q1 =>
      have er : r0 = [] := er
      subst ew er
      have sm : Same F1 (upd (upd H1 dx (.own x)) x (.ins (G.cm c) dx [])) := (e1.fh.trans (same_upd ndx)).trans (same_upd (by rw [upd_ne (Ne.symm nex)]; exact nx))
      have fx : F1 x = none := e1.fh.free nx
      have fdx : F1 dx = none := e1.fh.free ndx
      have hdx : upd (upd H1 dx (.own x)) x (.ins (G.cm c) dx []) dx = some (.own x) := by rw [upd_ne nex, upd_same]
      have back : ∀ a, upd (upd H1 dx (.own x)) x (.ins (G.cm c) dx []) a = none → H1 a = none := fun a z => by
        by_cases h1 : a = x
        · rw [h1]; exact nx
        · by_cases h2 : a = dx
          · rw [h2]; exact ndx
          · rw [upd_ne h1, upd_ne h2] at z; exact z
      have fwd : ∀ a o, H1 a = some o → a ≠ x ∧ upd (upd H1 dx (.own x)) x (.ins (G.cm c) dx []) a = some o := fun a o z => by
        have h1 : a ≠ x := fun y => by rw [y, nx] at z; cases z
        have h2 : a ≠ dx := fun y => by rw [y, ndx] at z; cases z
        exact ⟨h1, by rw [upd_ne h1, upd_ne h2]; exact z⟩
      have ofX : ∀ {F' H' : Hp}, ExtX x F1 (upd (upd H1 dx (.own x)) x (.ins (G.cm c) dx [])) F' H' → Ext F1 H1 F' H' := fun {F' H'} E => ⟨E.f, E.fh, fun a o z => E.h a o (fwd a o z).2 (fwd a o z).1, fun a o z => (E.new a o z).imp id fun y => y.imp (back a) id⟩
      refine ⟨F1, x, dx, d, w, fun us => Q (.val (.obj c us)), QX, rfl, upd_same, fx, sm, rd, q1, fun us fs F' H' E hx' hfs fx' ru hu => ⟨rfl, ?_⟩, fun y hy cls d' F' H' E r' => hx y hy cls d' F' H' (e1.trans (ofX E)) r'⟩
      have e' := ofX E
      have hdx' : H' dx = some (.own x) := E.h dx _ hdx nex
      have fdx' : F' dx = none := by
        cases z : F' dx with
        | none => rfl
        | some o =>
          rcases E.new dx o z with y | y | ⟨xs, rfl⟩
          · rw [fdx] at y; cases y
          · rw [hdx] at y; cases y
          · have := E.fh _ _ z
            rw [hdx'] at this; cases this
      have sF : Same F' (upd (upd F' dx (.own x)) x (.ins (G.cm c) dx fs)) := (same_upd fdx').trans (same_upd (by rw [upd_ne (Ne.symm nex)]; exact fx'))
      have ex : Ext F1 H1 (upd (upd F' dx (.own x)) x (.ins (G.cm c) dx fs)) H' := by
        refine ⟨e'.f.trans sF, fun a o z => ?_, e'.h, fun a o z => ?_⟩
        · by_cases h1 : a = x
          · subst h1; rw [upd_same] at z; cases z; exact hx'
          · rw [upd_ne h1] at z
            by_cases h2 : a = dx
            · subst h2; rw [upd_same] at z; cases z; exact hdx'
            · rw [upd_ne h2] at z; exact e'.fh a o z
        · by_cases h1 : a = x
          · rw [h1]; exact .inr (.inl nx)
          · rw [upd_ne h1] at z
            by_cases h2 : a = dx
            · rw [h2]; exact .inr (.inl ndx)
            · rw [upd_ne h2] at z; exact e'.new a o z
      exact hq _ _ _ H' (.val (e1.trans ex) (show Rep G _ (.obj c us) (.ref x) from ⟨x, rfl, .inl ⟨hc, dx, fs, upd_same, by rw [upd_ne nex, upd_same], by rw [hf]; exact hfs, RepL.mono sF us ru⟩⟩)) hu) hx
/-- what is asked of the two classes of objects (12, 13) and the one above them (14) -/
structure OTab (G : Gx) : Prop where
  cl : ∀ c, c = 12 ∨ c = 13 → Cls G.K (G.cm c)
  nf : ∀ c, c = 12 ∨ c = 13 → ∀ f ∈ XF c, NoAttr G.K (G.cm c) f
  fn : ∀ c, c = 12 ∨ c = 13 → G.fnm c = XF c
  ha : ∀ c, c = 12 ∨ c = 13 → PySem.W.findIn G.K (.ref (G.cm c)) "__class__" = some (some (.builtin "object.__class__"))
  hm : ∀ c, c = 12 ∨ c = 13 → PySem.W.mroIn G.K (G.cm c) (.type "object") = some true
  hn : PySem.W.specialIn G.K (.builtin "object.__class__") "__get__" = some (some (.builtin "getset_descriptor.__get__"))
  ht : PySem.W.takesIn G.K (.builtin "object.__class__") = some true
  is : ∀ c j, c = 12 ∨ c = 13 → j = 12 ∨ j = 13 ∨ j = 14 → PySem.W.kitOne G.K (.ref (G.cm c)) (.ref (G.cm j)) = some (j == 14 || c == j)
theorem nodup_XF {c : Nat} (h : c = 12 ∨ c = 13) : (XF c).Nodup := by rcases h with rfl | rfl <;> decide
theorem lookup_at : ∀ {fs : List (Str × V)} {i : Nat} {f : Str} {v : V}, (fs.map (·.1)).Nodup → (fs.map (·.1))[i]? = some f → (fs.map (·.2))[i]? = some v → fs.lookup f = some v
  | [], _, _, _, _, h, _ => by simp at h
  | (g, u) :: fs, 0, f, v, _, h1, h2 => by
    simp at h1 h2
    subst h1 h2
    simp [List.lookup]
  | (g, u) :: fs, i + 1, f, v, hn, h1, h2 => by
    have h1' : (fs.map (·.1))[i]? = some f := by simpa using h1
    have h2' : (fs.map (·.2))[i]? = some v := by simpa using h2
    have hn' := List.nodup_cons.mp hn
    have hfg : (f == g) = false := by
      cases hb : f == g with
      | false => rfl
      | true =>
        have : f = g := by simpa using hb
        subst this
        exact absurd (List.mem_of_getElem? h1') hn'.1
    unfold List.lookup
    rw [hfg]
    exact lookup_at hn'.2 h1' h2'
/-- r reads the field f -/
def FldR (r : D → DK → Prop) (f : Str) : Prop := ∀ (x : D) (Q : DK), r x Q → ∃ (c : Nat) (us : List D) (d : D) (i : Nat), (c = 12 ∨ c = 13) ∧ x = .obj c us ∧ us[i]? = some d ∧ (XF c)[i]? = some f ∧ Q (.val d)
theorem optD_is {o : Option D} {k : D → Prop} (h : optD o k) : ∃ d, o = some d ∧ k d := by
  cases o with
  | none => exact h.elim
  | some d => exact ⟨d, rfl, h⟩
theorem fld_form : FldR (oFld 0) "form" := fun x Q h => by
  unfold oFld at h
  split at h
  · obtain ⟨d, h1, h2⟩ := optD_is h; exact ⟨12, _, d, 0, .inl rfl, rfl, h1, rfl, h2⟩
  · obtain ⟨d, h1, h2⟩ := optD_is h; exact ⟨13, _, d, 0, .inr rfl, rfl, h1, rfl, h2⟩
  · exact h.elim
theorem fld_measure : FldR (oFld 1) "measure" := fun x Q h => by
  unfold oFld at h
  split at h
  · obtain ⟨d, h1, h2⟩ := optD_is h; exact ⟨12, _, d, 1, .inl rfl, rfl, h1, rfl, h2⟩
  · obtain ⟨d, h1, h2⟩ := optD_is h; exact ⟨13, _, d, 1, .inr rfl, rfl, h1, rfl, h2⟩
  · exact h.elim
theorem fld_ground : FldR oGround "ground" := fun x Q h => by
  unfold oGround at h
  split at h
  · obtain ⟨d, h1, h2⟩ := optD_is h; exact ⟨12, _, d, 2, .inl rfl, rfl, h1, rfl, h2⟩
  · exact h.elim
theorem fld_ways : FldR oWays "ways" := fun x Q h => by
  unfold oWays at h
  split at h
  · obtain ⟨d, h1, h2⟩ := optD_is h; exact ⟨13, _, d, 2, .inr rfl, rfl, h1, rfl, h2⟩
  · exact h.elim
theorem le_fld {r : D → DK → Prop} {f : Str} (O : OTab G) (hr : FldR r f) (ha : LE G W ta Ta) : LE G W (dUn r ta) (tFld G.K Ta f) := fun F0 H0 ρ F σ H Q QX QV S q hq hx =>
  ha.v S q (fun x v F1 H1 e1 r1 q1 => by
    obtain ⟨c, us, d, i, hc, rfl, hd, hf, q2⟩ := hr x Q q1
    obtain ⟨a, rfl, ⟨_, dx, fs, g1, g2, g3, g4⟩ | ⟨h0, _⟩⟩ := r1
    · obtain ⟨w, hw, rw'⟩ := g4.get hd
      rw [O.fn c hc] at g3
      exact ⟨a, G.cm c, dx, fs, w, rfl, e1.fh _ _ g1, O.cl c hc, O.nf c hc f (List.mem_of_getElem? hf), lookup_at (by rw [g3]; exact nodup_XF hc) (by rw [g3]; exact hf) hw, hq _ _ F1 H1 (.val e1 rw') q2⟩
    · omega) hx
theorem meth12 {f g : DF} {x : D} {k : DF → Prop} (h : methOf f g x k) : ∃ us, (x = .obj 12 us ∧ k f) ∨ (x = .obj 13 us ∧ k g) := by
  unfold methOf at h
  split at h
  · exact ⟨_, .inl ⟨rfl, h⟩⟩
  · exact ⟨_, .inr ⟨rfl, h⟩⟩
  · exact h.elim
theorem lookup_out {fs : List (Str × V)} {m : Str} (h : m ∉ fs.map (·.1)) : fs.lookup m = none := by
  induction fs with
  | nil => rfl
  | cons p fs ih =>
    obtain ⟨g, u⟩ := p
    have h' : m ≠ g ∧ m ∉ fs.map (·.1) := by simpa using h
    unfold List.lookup
    have : (m == g) = false := by simpa using h'.1
    rw [this]
    exact ih h'.2
theorem le_meth {f g : DF} {m : Str} {n : Nat} (O : OTab G) (hm : ∀ c, c = 12 ∨ c = 13 → m ∉ XF c) (ha : LE G W ta Ta) (hs : LA G W n ts Ts) : LE G W (dMeth f g ta ts) (tMethU [(G.cm 12, spD G f), (G.cm 13, spD G g)] m (WE W) Ta Ts) := fun F0 H0 ρ F σ H Q QX QV S q hq hx =>
  ha.v S q (fun x v F1 H1 e1 r1 q1 => by
    have go : ∀ (c : Nat) (us : List D) (h : DF), c = 12 ∨ c = 13 → (G.cm c, spD G h) ∈ [(G.cm 12, spD G f), (G.cm 13, spD G g)] → x = .obj c us → ts ρ (fun xs => h (x :: xs) Q QX) QX → ∃ C sp a dx fs, (C, sp) ∈ [(G.cm 12, spD G f), (G.cm 13, spD G g)] ∧ v = .ref a ∧ H1 a = some (.ins C dx fs) ∧ fs.lookup m = none ∧ Ts σ H1 fun vs H2 => sp (v :: vs) H2 QV (WE W σ) := fun c us h hc hmem ex q2 => by
      subst ex
      have rr := r1
      obtain ⟨a, rfl, ⟨_, dx, fs, g1, g2, g3, g4⟩ | ⟨h0, _⟩⟩ := r1
      · refine ⟨G.cm c, spD G h, a, dx, fs, hmem, rfl, e1.fh _ _ g1, lookup_out (by rw [g3, O.fn c hc]; exact hm c hc), ?_⟩
        exact hs F0 H0 ρ F1 σ H1 _ QX _ (S.ext e1) q2 (fun ds vs F2 H2 e2 r2 l2 q3 => ⟨F2, .obj c us :: ds, Q, QX, e2.fh, ⟨_, vs, rfl, Rep.mono e2.f _ rr, r2⟩, q3, fun s w F3 H3 p q4 => hq s w F3 H3 (p.after (e1.trans e2)) q4, (hx.ext e1).ext e2⟩) (hx.ext e1)
      · omega
    obtain ⟨us, ⟨e, h⟩ | ⟨e, h⟩⟩ := meth12 q1
    · exact go 12 us f (.inl rfl) (List.mem_cons_self) e h
    · exact go 13 us g (.inr rfl) (List.mem_cons_of_mem _ List.mem_cons_self) e h) hx
theorem is12 {j : Nat} {x : D} {Q : DK} (h : oIsO j x Q) : ∃ c us, (c = 12 ∨ c = 13) ∧ x = .obj c us ∧ Q (.val (.bl (j == 14 || c == j))) := by
  unfold oIsO at h
  split at h
  · exact ⟨12, _, .inl rfl, rfl, h⟩
  · exact ⟨13, _, .inr rfl, rfl, h⟩
  · exact h.elim
theorem le_iso {j : Nat} (O : OTab G) (hj : j = 12 ∨ j = 13 ∨ j = 14) (ha : LE G W ta Ta) : LE G W (dUn (oIsO j) ta) (tCB (rIsK G.K) (tCons Ta (tCons (tC (.ref (G.cm j))) tNil))) := fun F0 H0 ρ F σ H Q QX QV S q hq hx =>
  ha.v S q (fun x v F1 H1 e1 r1 q1 => by
    obtain ⟨c, us, hc, rfl, q2⟩ := is12 q1
    obtain ⟨a, rfl, ⟨_, dx, fs, g1, g2, g3, g4⟩ | ⟨h0, _⟩⟩ := r1
    · exact ⟨.ref a, .ref (G.cm j), .ref (G.cm c), .ref (G.cm j), _, rfl, .own _, .base (.base (.ins (e1.fh _ _ g1) (O.cl c hc) (O.ha c hc) O.hn O.ht (O.hm c hc))), O.is c j hc hj, hq _ _ F1 H1 (.val e1 (show Rep G F1 (.bl _) (.bl _) from rfl)) q2⟩
    · omega) hx
end
/-- a class that makes objects -/
structure OMk (P : Program) (w : World) (G : Gx) (mg : Str → Option Value) (base : Heap) (k c : Nat) (x : Str) (f1 f2 : DF) : Prop where
  mgx : mg x = some (.ref (G.cm c))
  ex : ∃ (f : Addr) (fd : FuncData) (ps : List Str), Mk G.K (G.cm c) f ∧ FnOk P w G.K mg base (L2.CX P w) k f fd ps (spI G c f1 f2) ∧ Binds G.K fd ps []
/-- a method of the two classes -/
structure OMe (P : Program) (w : World) (G : Gx) (mg : Str → Option Value) (base : Heap) (k : Nat) (m : Str) (f g : DF) : Prop where
  m1 : MOk P w G.K mg base (L2.CX P w) k m (G.cm 12) (spD G f)
  m2 : MOk P w G.K mg base (L2.CX P w) k m (G.cm 13) (spD G g)
theorem OMe.all {P : Program} {w : World} {G : Gx} {mg : Str → Option Value} {base : Heap} {k : Nat} {m : Str} {f g : DF} (h : OMe P w G mg base k m f g) : ∀ C sp, (C, sp) ∈ [(G.cm 12, spD G f), (G.cm 13, spD G g)] → MOk P w G.K mg base (L2.CX P w) k m C sp := fun C sp hm => by
  rcases List.mem_cons.mp hm with e | hm
  · cases e; exact h.m1
  · rcases List.mem_cons.mp hm with e | hm
    · cases e; exact h.m2
    · exact absurd hm List.not_mem_nil
section
variable {X : Cx} {G : Gx} {W : WX} {k l : Nat} {a e : Expr} {es : List Expr} {ta te : DE} {ts : DA} {pos p p2 apos : Pos} {n i j c : Nat} {x m : Str} {f1 f2 : DF}
theorem j_make (C : Cxt X G W k) (O : OTab G) (h : OMk X.prog X.w G X.mg X.base l c x f1 f2) (ha : JA X G W 1 (e :: es) ts) (hc : c = 12 ∨ c = 13 := by decide) (hk : l + 1 ≤ k := by decide) (hg : Gl X x := by rfl) (hdb : (x == ("__debug__" : Str)) = false := by decide)
    (he : starEach (e :: es) X.env = (false, eval e X.env) :: starEach es X.env := by rfl) (hpl : (backTo pos (starEach es X.env)).any (·.1) = false := by rfl) : JE X G W (.Call (.Name x p) (e :: es) [] pos) (dCall (mkObj c f1 f2) ts) := by
  obtain ⟨f, fd, ps, M, F, hb⟩ := h.ex
  obtain ⟨T, q, l⟩ := ha
  exact ⟨_, pe_makeS (by rw [C.K]; exact M) (by rw [C.K]; exact F) (C.room.mono hk) hg h.mgx (by rw [C.K]; exact hb) C.hx q hdb he hpl, le_make (by omega) (O.fn c hc) l⟩
theorem j_fld {r : D → DK → Prop} {f : Str} (C : Cxt X G W k) (O : OTab G) (hr : FldR r f) (ha : JE X G W a ta) (hb : attributeBase a f X.env (eval a X.env) = eval a X.env := by rfl) : JE X G W (.Attribute a f pos) (dUn r ta) := by
  obtain ⟨T, q, l⟩ := ha
  refine ⟨_, pe_fld q hb, ?_⟩
  rw [C.K]
  exact le_fld O hr l
theorem j_meth {f g : DF} {pl : Sem Bool} (C : Cxt X G W k) (O : OTab G) (h : OMe X.prog X.w G X.mg X.base l m f g) (ho : JE X G W a ta) (ha : JA X G W n (e :: es) ts) (hm : ∀ c, c = 12 ∨ c = 13 → m ∉ XF c) (hk : l ≤ k := by decide)
    (hst : starEach (e :: es) X.env = (false, eval e X.env) :: starEach es X.env := by rfl) (hpl : (backTo pos (starEach es X.env)).any (·.1) = false := by rfl)
    (ht : eval (.Call (.Attribute a m apos) (e :: es) [] pos) X.env = (do
      let ov ← eval a X.env
      standAt apos.atName
      let (f, first) ← holding [ov] (getMethod ov m pl)
      callWith pos f first (backTo pos (starEach (e :: es) X.env)) (backToKw pos (keywordEach [] X.env))) := by rfl) :
    JE X G W (.Call (.Attribute a m apos) (e :: es) [] pos) (dMeth f g ta ts) := by
  obtain ⟨T, q, l⟩ := ho
  obtain ⟨U, r, l2⟩ := ha
  exact ⟨_, pe_methU (pl := pl) q (by rw [C.K]; exact h.all) (C.room.mono hk) C.hx r hst hpl ht, le_meth O hm l l2⟩
theorem j_meth0 {f g : DF} {pl : Sem Bool} (C : Cxt X G W k) (O : OTab G) (h : OMe X.prog X.w G X.mg X.base l m f g) (ho : JE X G W a ta) (hm : ∀ c, c = 12 ∨ c = 13 → m ∉ XF c) (hk : l ≤ k := by decide)
    (ht : eval (.Call (.Attribute a m apos) [] [] pos) X.env = (do
      let ov ← eval a X.env
      standAt apos.atName
      let (f, first) ← holding [ov] (getMethod ov m pl)
      callWith pos f first (backTo pos (starEach [] X.env)) (backToKw pos (keywordEach [] X.env))) := by rfl) :
    JE X G W (.Call (.Attribute a m apos) [] [] pos) (dMeth f g ta dNil) := by
  obtain ⟨T, q, l⟩ := ho
  exact ⟨_, pe_methU0 (pl := pl) q (by rw [C.K]; exact h.all) (C.room.mono hk) C.hx ht, le_meth O hm l la_nil⟩
/-- isinstance(o, C), o an object -/
theorem j_iso {y : Str} (C : Cxt X G W k) (O : OTab G) (hm : X.mg "isinstance" = none) (hy : X.mg y = some (.ref (G.cm j))) (ha : JE X G W a ta) (hj : j = 12 ∨ j = 13 ∨ j = 14 := by decide) (hg : Gl X "isinstance" := by rfl) (hgT : Gl X y := by rfl) (hdy : (y == ("__debug__" : Str)) = false := by decide)
    (h1 : starEach (a :: [.Name y p2]) X.env = (false, eval a X.env) :: starEach [.Name y p2] X.env := by rfl) (h2 : starEach [.Name y p2] X.env = (false, eval (.Name y p2) X.env) :: starEach [] X.env := by rfl) (hpl : (backTo pos (starEach [.Name y p2] X.env)).any (·.1) = false := by rfl) :
    JE X G W (.Call (.Name "isinstance" p) [a, .Name y p2] [] pos) (dUn (oIsO j) ta) := by
  obtain ⟨T', q, l⟩ := ha
  refine ⟨_, pe_callB call_isK hg hm boot_isinstance (pa_cons q (pa_cons (pe_glob (v := .ref (G.cm j)) hgT hy rfl hdy) pa_nil h2) h1) (he := h1) (hpl := hpl), ?_⟩
  rw [C.K]
  exact le_iso O hj l
end
theorem hb_of {X : Cx} {G : Gx} {W : WX} {e : Expr} {t : DE} {body : List Stmt} {R : TE → TS} (hj : JE X G W e t) (k : ∀ T, PE X e T → PSs X body (R T)) : ∃ T, PSs X body (R T) ∧ LE G W t T := by
  obtain ⟨T, q, l⟩ := hj
  exact ⟨T, k T q, l⟩
theorem fnOk_mq {P : Program} {w : World} {G : Gx} {mg : Str → Option Value} {base : Heap} {k np n : Nat} {x q : Str} {st : Stmt} {N ps : List Str} {t : DS} {a : Addr} {fd : FuncData} (F : FunD G.K x q (defArgs st) (defBody st) (defScope st) [] [] a fd) (S : FnScope N ps (defScope st)) (hN : N.length = n) (hp : ps.length = np) (hnp : np ≤ n)
    (hb : ∀ (f : Addr) (cdv : Value) (A : Around) (outer : List PySem.Env) (s : Shared) (H : Hp) (E : XK), Room k (A.deeper (envOfC q (defScope st) s.heap.objs.size f cdv)) →
      JSs (cxOf (L2.CX P w) P w G.K mg base N q (defScope st) f cdv A outer s H E) G (fun cls d _ H => E cls d H) (defBody st) t) : FnOk P w G.K mg base (L2.CX P w) (k + 1) a fd ps (spD G (dFun np n t)) := by
  refine F.ok S (fun vs H Q E h => ?_) fun cdv A outer s H vs Q E hr h => ?_
  · obtain ⟨F', ds, QD, QX, _, r, ⟨hl, _⟩, _⟩ := h
    rw [r.length, hl, hp]
  · obtain ⟨F', ds, QD, QX, e, r, ⟨hl, q⟩, hQ, hX⟩ := h
    obtain ⟨T, hT, hL⟩ := hb a cdv A outer s H E hr
    refine ⟨T, hT, hL F' H _ F' _ H ⟨_, _, _, _, _⟩ _ (sRep_start e r hN hl hnp) (ERel.mk (fun ρ F1 σ H1 S1 q1 => ?_) (fun ρ F1 σ H1 S1 q1 => ?_) (fun ρ F1 σ H1 S1 q1 => ?_) (fun s v F1 H1 p q1 => ?_) (fun x ρ F1 σ H1 cls d S1 q1 r1 => ?_)) q⟩
    · exact hQ (.val .non) .non F1 H1 (.val S1.e rfl) q1
    · exact q1.elim
    · exact q1.elim
    · exact hQ s v F1 H1 p q1
    · exact hX x q1 cls d F1 H1 S1.e r1
theorem mok_of {P : Program} {w : World} {K : PySem.W.Frag} {mg : Str → Option Value} {base : Heap} {j k : Nat} {m : Str} {C f : Addr} {sp : Sp} {fd : FuncData} {ps : List Str} (c : Cls K C) (h : Meth K C m f) (F : FnOk P w K mg base (L2.CX P w) j f fd ps sp) (hjk : j ≤ k) (b : Binds K fd ps []) : MOk P w K mg base (L2.CX P w) k m C sp :=
  ⟨f, fd, ps, c, h, F.mono hjk, b⟩
def clB (K : PySem.W.Frag) (C : Addr) : Bool := PySem.W.plainGet K C Str.empty && (PySem.W.hasDictIn K C && (PySem.W.plainOver K C && decide (PySem.W.findIn K (.ref C) "__setattr__" = some (some (.builtin "object.__setattr__")))))
theorem clB_ok {K : PySem.W.Frag} {C : Addr} (h : clB K C = true) : Cls K C := by
  unfold clB at h
  simp only [Bool.and_eq_true, decide_eq_true_eq] at h
  obtain ⟨h1, h2, h3, h4⟩ := h
  exact ⟨h1, h2, h3, h4⟩
def otB (K : PySem.W.Frag) (cm : Nat → Addr) : Bool := (([12, 13] : List Nat).all fun c => clB K (cm c) && (((XF c).all fun f => decide (PySem.W.findIn K (.ref (cm c)) f = some none)) && (decide (PySem.W.findIn K (.ref (cm c)) "__class__" = some (some (.builtin "object.__class__"))) && (decide (PySem.W.mroIn K (cm c) (.type "object") = some true) &&
  (([12, 13, 14] : List Nat).all fun j => decide (PySem.W.kitOne K (.ref (cm c)) (.ref (cm j)) = some (j == 14 || c == j)))))))
  && (decide (PySem.W.specialIn K (.builtin "object.__class__") "__get__" = some (some (.builtin "getset_descriptor.__get__"))) && decide (PySem.W.takesIn K (.builtin "object.__class__") = some true))
theorem otB_ok {G : Gx} (h : otB G.K G.cm = true) (hf : G.fnm = XF) : OTab G := by
  obtain ⟨h, h2⟩ := Bool.and_eq_true_iff.mp h
  rw [Bool.and_eq_true, decide_eq_true_eq, decide_eq_true_eq] at h2
  have key : ∀ c, c = 12 ∨ c = 13 → _ := fun c hc => List.all_eq_true.mp h c (by rcases hc with rfl | rfl <;> decide)
  simp only [Bool.and_eq_true, decide_eq_true_eq] at key
  exact ⟨fun c hc => clB_ok (key c hc).1, fun c hc f hx => show PySem.W.findIn G.K (.ref (G.cm c)) f = some none from of_decide_eq_true (List.all_eq_true.mp (key c hc).2.1 f hx), fun c _ => by rw [hf], fun c hc => (key c hc).2.2.1, fun c hc => (key c hc).2.2.2.1, h2.1, h2.2,
    fun c j hc hj => of_decide_eq_true (List.all_eq_true.mp (key c hc).2.2.2.2 j (by rcases hj with rfl | rfl | rfl <;> decide))⟩
def mkB (K : PySem.W.Frag) (C : Addr) : Bool := PySem.W.makesIn K C && (decide (PySem.W.findIn K (.ref C) "__init__" = some (some (.ref (He.ma K C "__init__")))) && (PySem.W.isFn K (.ref (He.ma K C "__init__")) && PySem.W.keepIn K (.ref C)))
theorem mkB_ok {K : PySem.W.Frag} {C : Addr} (h : mkB K C = true) : Mk K C (He.ma K C "__init__") := by
  unfold mkB at h
  simp only [Bool.and_eq_true, decide_eq_true_eq] at h
  obtain ⟨h1, h2, h3, h4⟩ := h
  exact ⟨h1, h2, h3, h4⟩
def meB (K : PySem.W.Frag) (C : Addr) (m : Str) (f : Addr) : Bool := decide (PySem.W.findIn K (.ref C) m = some (some (.ref f))) && (PySem.W.isFn K (.ref f) && PySem.W.keepIn K (.ref f))
theorem meB_ok {K : PySem.W.Frag} {C : Addr} {m : Str} {f : Addr} (h : meB K C m f = true) : Meth K C m f := by
  unfold meB at h
  simp only [Bool.and_eq_true, decide_eq_true_eq] at h
  obtain ⟨h1, h2, h3⟩ := h
  exact ⟨h1, h2, h3⟩
def cfB (K : PySem.W.Frag) (C : Addr) (m : Str) (f : Addr) : Bool := PySem.W.readsIn K C (.type "type") && (decide (PySem.W.specialIn K (.ref C) "__getattribute__" = some (some (.builtin "type.__getattribute__"))) && ((match PySem.W.findCls K (.ref C) (.type "type") m with
  | some (.val v) => decide (v = .ref f)
  | _ => false) && PySem.W.keepIn K (.ref f)))
theorem cfB_ok {K : PySem.W.Frag} {C : Addr} {m : Str} {f : Addr} (h : cfB K C m f = true) : ClsFn K C (.type "type") m f := by
  unfold cfB at h
  obtain ⟨h1, h⟩ := Bool.and_eq_true_iff.mp h
  obtain ⟨h2, h⟩ := Bool.and_eq_true_iff.mp h
  obtain ⟨h3, h4⟩ := Bool.and_eq_true_iff.mp h
  refine ⟨⟨h1, of_decide_eq_true h2⟩, ?_, h4⟩
  split at h3
  · rename_i v e
    rw [e, of_decide_eq_true h3]
  · cases h3
end DL

/- DLz -/
namespace DL
open PySem PySem.Spec PyProof.Rows L2
section
variable {G : Gx} {W : WX} {te : DE} {Te : TE} {t : DS} {T : TS}
theorem ls_forU {is : List Nat} {n : Nat} (hw : LE G W te Te) (hb : LS G W t T) (hn : n = is.length) : LS G W (dForU is te t) (tFor (iSeq G.K Te) (gTup G.K n (gNs is)) T) := fun F0 H0 ρ F σ H N D' S E q => by
  subst hn
  have step : ∀ {d : D} {v : V} {ρ' : Env} {F' : Hp} {σ' : Sg} {H' : Hp} {M : Env → Prop} {P : Sg → Hp → Prop}, SRep G F0 H0 F' H' σ' ρ' → Rep G F' d v → (tupOf is.length d fun l => t M N.rt N.nx M N.xc (setAll is l ρ')) → (∀ ρ2 F2 σ2 H2, SRep G F0 H0 F2 H2 σ2 ρ2 → Same F' F2 → M ρ2 → P σ2 H2) →
      gTup G.K is.length (gNs is) v σ' H' (fun σ2 H2 => T { D' with nx := P, ct := P, bk := D'.nx } σ2 H2) := fun {d v ρ' F' σ' H' M P} S' rd hu hP => by
    cases d with
    | tup l =>
      obtain ⟨a, vs, rfl, h1, h2⟩ := rd
      have h1 := h1.1
      obtain ⟨hl, hu⟩ := hu
      exact ⟨a, vs, rfl, sqT_mono S'.same h1, by rw [h2.length]; exact hl, gNs_of is vs σ' H' _ (by rw [h2.length]; exact hl) (turn_step hb E (S'.setAll h2) hu hP)⟩
    | _ => exact hu.elim
  refine hw.v S q (fun d v F1 H1 e1 r1 q1 => ?_) (E.xw S)
  cases d with
  | lst l =>
    obtain ⟨a, vs, rfl, h1, h2⟩ := r1
    refine .inl ⟨a, rfl, ⟨vs, sqL_mono e1.fh h1⟩, for_list (K := G.K) (a := a) (xs := vs) (fun j σ H => ∃ ρ F, SRep G F0 H0 F H σ ρ ∧ SqL G.K F a vs ∧ RepL G F l vs ∧ dEveryU is t N.nx N.rt N.xc (l.drop j) ρ) ⟨ρ, F1, S.ext e1, h1, h2, q1⟩ (fun j σ' H' _ ⟨ρ', F', S', g1, _⟩ => sqL_mono S'.same g1) ?_ ?_⟩
    · rintro j x σ' H' hj ⟨ρ', F', S', g1, g2, g3⟩
      obtain ⟨d, hd, rd⟩ := at_of_len g2 hj
      rw [drop_at hd] at g3
      exact step S' rd g3 fun ρ2 F2 σ2 H2 S2 sF m => ⟨ρ2, F2, S2, sqL_mono sF g1, RepL.mono sF l g2, m⟩
    · rintro σ' H' ⟨ρ', F', S', g1, g2, g3⟩
      rw [g2.length, List.drop_length] at g3
      exact E.nx ρ' F' σ' H' S' g3
  | tup l =>
    obtain ⟨a, vs, rfl, h1, h2⟩ := r1
    have h1 := h1.1
    refine .inr ⟨a, rfl, ⟨vs, sqT_mono e1.fh h1⟩, for_tup (K := G.K) (a := a) (xs := vs) (fun j σ H => ∃ ρ F, SRep G F0 H0 F H σ ρ ∧ SqT G.K F a vs ∧ RepL G F l vs ∧ dEveryU is t N.nx N.rt N.xc (l.drop j) ρ) ⟨ρ, F1, S.ext e1, h1, h2, q1⟩ (fun j σ' H' _ ⟨ρ', F', S', g1, _⟩ => sqT_mono S'.same g1) ?_ ?_⟩
    · rintro j x σ' H' hj ⟨ρ', F', S', g1, g2, g3⟩
      obtain ⟨d, hd, rd⟩ := at_of_len g2 hj
      rw [drop_at hd] at g3
      exact step S' rd g3 fun ρ2 F2 σ2 H2 S2 sF m => ⟨ρ2, F2, S2, sqT_mono sF g1, RepL.mono sF l g2, m⟩
    · rintro σ' H' ⟨ρ', F', S', g1, g2, g3⟩
      rw [g2.length, List.drop_length] at g3
      exact E.nx ρ' F' σ' H' S' g3
  | _ => exact q1.elim
theorem ls_forUL {is : List Nat} {n : Nat} (hw : LE G W te Te) (hb : LS G W t T) (hn : n = is.length) : LS G W (dForUL is te t) (tFor (iSeq G.K Te) (gUnl G.K n (gNs is)) T) := fun F0 H0 ρ F σ H N D' S E q => by
  subst hn
  have step : ∀ {d : D} {v : V} {ρ' : Env} {F' : Hp} {σ' : Sg} {H' : Hp} {M : Env → Prop} {P : Sg → Hp → Prop}, SRep G F0 H0 F' H' σ' ρ' → Rep G F' d v → (lstOf is.length d fun l => t M N.rt N.nx M N.xc (setAll is l ρ')) → (∀ ρ2 F2 σ2 H2, SRep G F0 H0 F2 H2 σ2 ρ2 → Same F' F2 → M ρ2 → P σ2 H2) →
      gUnl G.K is.length (gNs is) v σ' H' (fun σ2 H2 => T { D' with nx := P, ct := P, bk := D'.nx } σ2 H2) := fun {d v ρ' F' σ' H' M P} S' rd hu hP => by
    cases d with
    | lst l =>
      obtain ⟨a, vs, rfl, h1, h2⟩ := rd
      obtain ⟨hl, hu⟩ := hu
      exact ⟨a, vs, rfl, sqL_mono S'.same h1, by rw [h2.length]; exact hl, gNs_of is vs σ' H' _ (by rw [h2.length]; exact hl) (turn_step hb E (S'.setAll h2) hu hP)⟩
    | _ => exact hu.elim
  refine hw.v S q (fun d v F1 H1 e1 r1 q1 => ?_) (E.xw S)
  cases d with
  | lst l =>
    obtain ⟨a, vs, rfl, h1, h2⟩ := r1
    refine .inl ⟨a, rfl, ⟨vs, sqL_mono e1.fh h1⟩, for_list (K := G.K) (a := a) (xs := vs) (fun j σ H => ∃ ρ F, SRep G F0 H0 F H σ ρ ∧ SqL G.K F a vs ∧ RepL G F l vs ∧ dEveryUL is t N.nx N.rt N.xc (l.drop j) ρ) ⟨ρ, F1, S.ext e1, h1, h2, q1⟩ (fun j σ' H' _ ⟨ρ', F', S', g1, _⟩ => sqL_mono S'.same g1) ?_ ?_⟩
    · rintro j x σ' H' hj ⟨ρ', F', S', g1, g2, g3⟩
      obtain ⟨d, hd, rd⟩ := at_of_len g2 hj
      rw [drop_at hd] at g3
      exact step S' rd g3 fun ρ2 F2 σ2 H2 S2 sF m => ⟨ρ2, F2, S2, sqL_mono sF g1, RepL.mono sF l g2, m⟩
    · rintro σ' H' ⟨ρ', F', S', g1, g2, g3⟩
      rw [g2.length, List.drop_length] at g3
      exact E.nx ρ' F' σ' H' S' g3
  | tup l =>
    obtain ⟨a, vs, rfl, h1, h2⟩ := r1
    have h1 := h1.1
    refine .inr ⟨a, rfl, ⟨vs, sqT_mono e1.fh h1⟩, for_tup (K := G.K) (a := a) (xs := vs) (fun j σ H => ∃ ρ F, SRep G F0 H0 F H σ ρ ∧ SqT G.K F a vs ∧ RepL G F l vs ∧ dEveryUL is t N.nx N.rt N.xc (l.drop j) ρ) ⟨ρ, F1, S.ext e1, h1, h2, q1⟩ (fun j σ' H' _ ⟨ρ', F', S', g1, _⟩ => sqT_mono S'.same g1) ?_ ?_⟩
    · rintro j x σ' H' hj ⟨ρ', F', S', g1, g2, g3⟩
      obtain ⟨d, hd, rd⟩ := at_of_len g2 hj
      rw [drop_at hd] at g3
      exact step S' rd g3 fun ρ2 F2 σ2 H2 S2 sF m => ⟨ρ2, F2, S2, sqT_mono sF g1, RepL.mono sF l g2, m⟩
    · rintro σ' H' ⟨ρ', F', S', g1, g2, g3⟩
      rw [g2.length, List.drop_length] at g3
      exact E.nx ρ' F' σ' H' S' g3
  | _ => exact q1.elim
end
section
variable {X : Cx} {G : Gx} {W : WX} {k : Nat} {e : Expr} {es : List Expr} {sts : List Stmt} {te : DE} {t : DS} {p pos : Pos}
theorem s_forU {is : List Nat} {kk m : Nat} (C : Cxt X G W k) (hw : JE X G W e te) (hg : JG X is es) (hb : JSs X G W sts t) (hs : ∀ x, foldedSetIterable e X.env x = pure x := by intro _; rfl) (hn : (assignEach es X.env).length = m := by rfl) (hm : m = is.length := by rfl) (hst : (assignEach es X.env).findIdx? (·.1) = none := by rfl) :
    JS X G W (.For (.Tuple es kk p) e sts [] pos) (dForU is te t) := by
  obtain ⟨_, q, l⟩ := hw
  obtain ⟨_, r, mm⟩ := hb
  refine ⟨_, ps_for C.own C.calm (pi_seq q) (pg_tup C.calm hg hn hst) r hs, ?_⟩
  rw [C.K]
  exact ls_forU l mm hm
theorem s_forUL {is : List Nat} {kk m : Nat} (C : Cxt X G W k) (hw : JE X G W e te) (hg : JG X is es) (hb : JSs X G W sts t) (hs : ∀ x, foldedSetIterable e X.env x = pure x := by intro _; rfl) (hn : (assignEach es X.env).length = m := by rfl) (hm : m = is.length := by rfl) (hst : (assignEach es X.env).findIdx? (·.1) = none := by rfl) :
    JS X G W (.For (.Tuple es kk p) e sts [] pos) (dForUL is te t) := by
  obtain ⟨_, q, l⟩ := hw
  obtain ⟨_, r, mm⟩ := hb
  refine ⟨_, ps_for C.own C.calm (pi_seq q) (pg_unl C.calm hg hn hst) r hs, ?_⟩
  rw [C.K]
  exact ls_forUL l mm hm
end
section
variable {G : Gx}
theorem isI_is {d : D} (h : d.isI = true) : d = .int d.num := by cases d <;> first | rfl | cases h
theorem isI_vals {F : Hp} : ∀ {l : List D} {vs : List V}, l.all D.isI = true → RepL G F l vs → vs = (l.map D.num).map V.int
  | [], vs, _, h => h
  | d :: l, vs, hi, ⟨v, r, e, h1, h2⟩ => by
    subst e
    have hi' := Bool.and_eq_true_iff.mp (show (d.isI && l.all D.isI) = true from hi)
    rw [isI_is hi'.1] at h1
    rw [show v = V.int d.num from h1, isI_vals hi'.2 h2]
    rfl
theorem lr_sum : LRs G fSum (L2.rSum G.K) := fun F H xs us Q QV e r q hq => by
  unfold fSum at q
  split at q
  · rename_i l
    obtain ⟨v, rfl, a, vs, rfl, h1, h2⟩ := one_rep r
    exact ⟨a, l.map D.num, rfl, by rw [← isI_vals q.1 h2]; exact sqL_mono e h1, hq _ _ F H (.val (.refl e) (show Rep G F (.int _) (.int _) from rfl)) q.2⟩
  · exact q.elim
theorem boot_sum' : bootBuiltins "sum" = some (.builtin "sum") := by decide +kernel
variable {X : Cx} {W : WX} {k n : Nat} {e : Expr} {ts : DA} {p pos : Pos}
theorem j_sum (C : Cxt X G W k) (hm : X.mg "sum" = none) (ha : JA X G W n [e] ts) (hg : Gl X "sum" := by rfl) (he : starEach [e] X.env = [(false, eval e X.env)] := by rfl) : JE X G W (.Call (.Name "sum" p) [e] [] pos) (dAs fSum ts) :=
  j_bi (L2.cr_sum C.calm) (by rw [C.K]; exact lr_sum) hg hm boot_sum' ha (he := he)
end
end DL

/- DLm -/
namespace DL
class Bd (x : Int) (n : outParam Nat) : Prop where
  h : x.natAbs < 2 ^ n
theorem Bd.lt {x : Int} {n : Nat} (b : Bd x n) : x.natAbs < 2 ^ n := b.h
theorem bd_mono {x : Int} {n m : Nat} (b : Bd x n) (h : n ≤ m) : Bd x m := ⟨Nat.lt_of_lt_of_le b.h (Nat.pow_le_pow_right (by decide) h)⟩
theorem bd_of {x : Int} {n : Nat} (h : x.natAbs < 2 ^ n) : Bd x n := ⟨h⟩
theorem bd_abs {x y : Int} {n : Nat} (b : Bd y n) (h : x.natAbs ≤ y.natAbs) : Bd x n := ⟨Nat.lt_of_le_of_lt h b.h⟩
instance {x y : Int} {n m : Nat} [a : Bd x n] [b : Bd y m] : Bd (x * y) (n + m) := ⟨by
  rw [Int.natAbs_mul, Nat.pow_add]
  exact Nat.mul_lt_mul'' a.h b.h⟩
theorem pow_max (n m : Nat) : 2 ^ n ≤ 2 ^ (max n m) ∧ 2 ^ m ≤ 2 ^ (max n m) := ⟨Nat.pow_le_pow_right (by decide) (Nat.le_max_left _ _), Nat.pow_le_pow_right (by decide) (Nat.le_max_right _ _)⟩
instance {x y : Int} {n m : Nat} [a : Bd x n] [b : Bd y m] : Bd (x + y) (max n m + 1) := ⟨by
  have h := pow_max n m
  have h1 := a.h
  have h2 := b.h
  have e : 2 ^ (max n m + 1) = 2 * 2 ^ (max n m) := by rw [Nat.pow_succ, Nat.mul_comm]
  omega⟩
instance {x y : Int} {n m : Nat} [a : Bd x n] [b : Bd y m] : Bd (x - y) (max n m + 1) := ⟨by
  have h := pow_max n m
  have h1 := a.h
  have h2 := b.h
  have e : 2 ^ (max n m + 1) = 2 * 2 ^ (max n m) := by rw [Nat.pow_succ, Nat.mul_comm]
  omega⟩
instance {x : Int} {n : Nat} [a : Bd x n] : Bd (-x) n := ⟨by rw [Int.natAbs_neg]; exact a.h⟩
theorem fmod_neg_bounds (x : Int) {y : Int} (h : y < 0) : x.fmod y ≤ 0 ∧ y < x.fmod y := by
  have e := Int.fmod_eq_emod (a := x) (b := y)
  have h1 := Int.emod_nonneg x (show y ≠ 0 by omega)
  have h2 := Int.emod_lt_of_neg x h
  rw [e]
  split
  · rename_i h3
    rcases h3 with h3 | h3
    · omega
    · have := Int.emod_eq_zero_of_dvd h3
      omega
  · have : x % y ≠ 0 := fun h0 => by
      rename_i h3
      exact h3 (.inr (Int.dvd_of_emod_eq_zero h0))
    omega
theorem natAbs_fdiv_le (x y : Int) : (x.fdiv y).natAbs ≤ x.natAbs := by
  by_cases hy : y = 0
  · subst hy; simp
  · have e := Int.mul_fdiv_add_fmod x y
    rcases Int.lt_or_gt_of_ne hy with h | h
    · obtain ⟨h1, h2⟩ := fmod_neg_bounds x h
      generalize x.fdiv y = q at *
      generalize x.fmod y = r at *
      rcases Int.lt_trichotomy q 0 with hq | hq | hq
      · have : (-y - 1) * (-q - 1) ≥ 0 := Int.mul_nonneg (by omega) (by omega)
        rw [Int.mul_sub, Int.sub_mul, Int.neg_mul_neg] at this
        omega
      · subst hq; omega
      · have : (-y - 1) * q ≥ 0 := Int.mul_nonneg (by omega) (by omega)
        rw [Int.sub_mul, Int.neg_mul] at this
        omega
    · have h1 := Int.fmod_nonneg_of_pos x h
      have h2 := Int.fmod_lt_of_pos x h
      generalize x.fdiv y = q at *
      generalize x.fmod y = r at *
      rcases Int.lt_trichotomy q 0 with hq | hq | hq
      · have : (y - 1) * (-q - 1) ≥ 0 := Int.mul_nonneg (by omega) (by omega)
        rw [Int.mul_sub, Int.sub_mul, Int.mul_neg] at this
        omega
      · subst hq; omega
      · have : (y - 1) * q ≥ 0 := Int.mul_nonneg (by omega) (by omega)
        rw [Int.sub_mul] at this
        omega
instance {x y : Int} {n : Nat} [a : Bd x n] : Bd (x.fdiv y) n := ⟨Nat.lt_of_le_of_lt (natAbs_fdiv_le x y) a.h⟩
instance {k : Nat} : Bd (@OfNat.ofNat Int k (@instOfNat k)) (k.log2 + 1) := ⟨by
  show (Int.ofNat k).natAbs < _
  exact Nat.lt_log2_self⟩
theorem bits_le {x : Int} {n : Nat} (b : Bd x n) : bits x ≤ n := by
  unfold bits
  have h := b.h
  split
  · exact Nat.zero_le _
  · rename_i h0
    have : x.natAbs.log2 < n := (Nat.log2_lt (by omega)).mpr h
    omega
theorem bd_of_bits {x : Int} {n : Nat} (h : bits x ≤ n) : Bd x n := ⟨by
  unfold bits at h
  split at h
  · rename_i h0
    subst h0
    exact Nat.two_pow_pos n
  · have := @Nat.lt_log2_self x.natAbs
    exact Nat.lt_of_lt_of_le this (Nat.pow_le_pow_right (by decide) h)⟩
theorem sz {i j : Int} {n m : Nat} [a : Bd i n] [b : Bd j m] (h : Nat.ble (n + m) 134217728 = true) : Sz i j := by
  have h1 := bits_le a
  have h2 := bits_le b
  have h3 := Nat.le_of_ble_eq_true h
  exact .inr (.inr (by omega))
theorem bd_fmod {x y : Int} {m : Nat} [b : Bd y m] (hy : y ≠ 0) : Bd (x.fmod y) m := ⟨by
  have h := b.h
  rcases Int.lt_or_gt_of_ne hy with h0 | h0
  · obtain ⟨h1, h2⟩ := fmod_neg_bounds x h0
    omega
  · have h1 := Int.fmod_nonneg_of_pos x h0
    have h2 := Int.fmod_lt_of_pos x h0
    omega⟩
theorem divLit {i j : Int} (h : (j != 0 && Nat.blt j.natAbs.log2 9000) = true) : DivOk i j := by
  simp only [Bool.and_eq_true, bne_iff_ne, ne_eq, Nat.blt_eq] at h
  exact ⟨h.1, .inl h.2⟩
theorem divBd {i j : Int} {m : Nat} [b : Bd j m] (hj : j ≠ 0) (h : Nat.ble m 9000 = true) : DivOk i j := by
  refine ⟨hj, .inl ?_⟩
  have h2 := (Nat.log2_lt (by omega)).mpr b.h
  have h3 := Nat.le_of_ble_eq_true h
  omega
theorem divBd2 {i j : Int} {m : Nat} [b : Bd i m] (hj : j ≠ 0) (h : Nat.ble m 4000 = true) : DivOk i j := by
  refine ⟨hj, .inr ?_⟩
  have h2 := bits_le b
  have h3 := Nat.le_of_ble_eq_true h
  omega
theorem bEq_int {a b : Int} {k : Bool → Prop} : bEq (.int a) (.int b) k = k (decide (a = b)) := rfl
theorem bNe_int {a b : Int} {k : Bool → Prop} : bNe (.int a) (.int b) k = k (!decide (a = b)) := rfl
theorem bEq_tt {a b : List D} {k : Bool → Prop} : bEq (.tup a) (.tup b) k = (((D.tup a).dat 30 && (D.tup b).dat 30) = true ∧ k (eqL a b)) := rfl
theorem bNe_tt {a b : List D} {k : Bool → Prop} : bNe (.tup a) (.tup b) k = (((D.tup a).dat 30 && (D.tup b).dat 30) = true ∧ k (!eqL a b)) := rfl
theorem bEq_ll {a b : List D} {k : Bool → Prop} : bEq (.lst a) (.lst b) k = (((D.lst a).dat 30 && (D.lst b).dat 30) = true ∧ k (eqL a b)) := rfl
theorem bNe_ll {a b : List D} {k : Bool → Prop} : bNe (.lst a) (.lst b) k = (((D.lst a).dat 30 && (D.lst b).dat 30) = true ∧ k (!eqL a b)) := rfl
theorem two_t {A B : Prop} : two true A B = A := rfl
theorem two_f {A B : Prop} : two false A B = B := rfl
theorem two_d {p : Prop} [Decidable p] {A B : Prop} (h1 : p → A) (h2 : ¬ p → B) : two (decide p) A B := by
  by_cases h : p
  · rw [decide_eq_true h]; exact h1 h
  · rw [decide_eq_false h]; exact h2 h
theorem two_n {b : Bool} {A B : Prop} (h : two b B A) : two (!b) A B := by
  cases b <;> exact h
theorem two_b {b : Bool} {A B : Prop} (h1 : b = true → A) (h2 : b = false → B) : two b A B := by
  cases b
  · exact h2 rfl
  · exact h1 rfl
theorem two_nd {p : Prop} [Decidable p] {A B : Prop} (h1 : ¬ p → A) (h2 : p → B) : two (!decide p) A B := two_n (two_d h2 h1)
/-- the test is known -/
theorem two_p {p : Prop} [Decidable p] {A B : Prop} (hp : p) (h : A) : two (decide p) A B := two_d (fun _ => h) fun n => absurd hp n
theorem two_q {p : Prop} [Decidable p] {A B : Prop} (hp : ¬ p) (h : B) : two (decide p) A B := two_d (fun y => absurd y hp) fun _ => h
theorem while_of {tc : DE} {tb : DS} {n b c : Env → Prop} {q : DK} {x : Exn → Env → Prop} {r : Env} (I : Env → Nat → Prop) (m0 : Nat) (h0 : I r m0)
    (hs : ∀ r m, I r m → tc r (fun s => s.bool fun k => two k (tb (fun r' => ∃ m', m' < m ∧ I r' m') q n (fun r' => ∃ m', m' < m ∧ I r' m') x r) (n r)) fun e => x e r) : dWhile tc tb n q b c x r :=
  ⟨fun m r => I r m, ⟨m0, h0⟩, fun m r h => hs r m h⟩
theorem every_ind {i : Nat} {tb : DS} {n : Env → Prop} {q : DK} {x : Exn → Env → Prop} (I : List D → Env → Prop) (he : ∀ r, I [] r → n r)
    (hs : ∀ d ds r, I (d :: ds) r → (∀ r', I ds r' → dEvery i tb n q x ds r') → tb (fun r' => dEvery i tb n q x ds r') q n (fun r' => dEvery i tb n q x ds r') x (r.set i (.val d))) : ∀ (l : List D) (r : Env), I l r → dEvery i tb n q x l r
  | [], r, h => he r h
  | d :: ds, r, h => hs d ds r h fun r' h' => every_ind I he hs ds r' h'
theorem each_map {f : D → (Option D → Prop) → Prop} (h : D → Option D) : ∀ (l : List D) (_ : ∀ d ∈ l, ∀ k : Option D → Prop, k (h d) → f d k) (Q : List D → Prop), Q (l.filterMap h) → dEach f l Q
  | [], _, Q, q => q
  | d :: l, hf, Q, q => hf d List.mem_cons_self _ (each_map h l (fun e he => hf e (List.mem_cons_of_mem _ he)) _ (by
      rw [List.filterMap_cons] at q
      cases e : h d with
      | none => rw [e] at q; exact q
      | some y => rw [e] at q; exact q))
theorem each_all {f : D → (Option D → Prop) → Prop} (l : List D) (hf : ∀ d ∈ l, ∀ k : Option D → Prop, k (some d) → f d k) (Q : List D → Prop) (q : Q l) : dEach f l Q :=
  each_map some l hf Q (by simpa using q)
/-- each item made by g -/
theorem each_made {f : D → (Option D → Prop) → Prop} (g : D → D) (l : List D) (hf : ∀ d ∈ l, ∀ k : Option D → Prop, k (some (g d)) → f d k) (Q : List D → Prop) (q : Q (l.map g)) : dEach f l Q :=
  each_map (fun d => some (g d)) l hf Q (by simpa using q)
section
variable {a b c : Int} {d e : D} {l m ks vs : List D} {k : D → Prop} {kb : Bool → Prop} {Q : DK} {x y : Bool} {s : List Nat}
theorem use_val : (Sl.val d).use k = k d := rfl
theorem use_own : (Sl.own l).use k = k (.lst l) := rfl
theorem use_ownd : (Sl.ownd ks vs).use k = k (.dct ks vs) := rfl
theorem bool_val : (Sl.val (.bl x)).bool kb = kb x := rfl
theorem view_val : (Sl.val d).view = .val d := rfl
theorem view_own : (Sl.own l).view = .val (.lst l) := rfl
theorem view_ownd : (Sl.ownd ks vs).view = .val (.dct ks vs) := rfl
theorem view_un : Sl.un.view = .un := rfl
theorem imm_val : (Sl.val d).imm = d.imm := rfl
theorem imm_own : (Sl.own l).imm = immL l := rfl
theorem add_ii : oAdd (.int a) (.int b) Q = Q (.val (.int (a + b))) := rfl
theorem add_ll : oAdd (.lst l) (.lst m) Q = (l.length + m.length ≤ 16777216 ∧ Q (.own (l ++ m))) := rfl
theorem add_tt : oAdd (.tup l) (.tup m) Q = ((l ≠ [] ∧ m ≠ [] ∧ l.length + m.length ≤ 16777216) ∧ Q (.val (.tup (l ++ m)))) := rfl
theorem sub_ii : oSub (.int a) (.int b) Q = Q (.val (.int (a - b))) := rfl
theorem mul_ii : oMul (.int a) (.int b) Q = (Sz a b ∧ Q (.val (.int (a * b)))) := rfl
theorem div_ii : oDiv (.int a) (.int b) Q = (DivOk a b ∧ Q (.val (.int (a.fdiv b)))) := rfl
theorem mod_ii : oMod (.int a) (.int b) Q = (b ≠ 0 ∧ Q (.val (.int (a.fmod b)))) := rfl
theorem pow_ii : oPow (.int a) (.int b) Q = ((0 ≤ b ∧ b ≤ 1000000 ∧ a.natAbs < 2 ^ 64) ∧ Q (.val (.int (a ^ b.toNat)))) := rfl
theorem shl_ii : oShl (.int a) (.int b) Q = ((0 ≤ b ∧ (bits a : Int) + b ≤ 134217728) ∧ Q (.val (.int (a * 2 ^ b.toNat)))) := rfl
theorem cmp_ii {p : Int → Int → Bool} : oCmp p (.int a) (.int b) kb = kb (p a b) := rfl
theorem neg_i : oNeg (.int a) Q = Q (.val (.int (-a))) := rfl
theorem isB_bb : oIsB (.bl x) (.bl y) Q = Q (.val (.bl (decide (x = y)))) := rfl
theorem notB_bb : oNotB (.bl x) (.bl y) Q = Q (.val (.bl (!decide (x = y)))) := rfl
theorem len_t : fLen [.tup l] Q = Q (.val (.int l.length)) := rfl
theorem len_l : fLen [.lst l] Q = Q (.val (.int l.length)) := rfl
theorem abs_i : fAbs [.int a] Q = Q (.val (.int (a.natAbs : Int))) := rfl
theorem max_ii : fMax [.int a, .int b] Q = Q (.val (.int (if b > a then b else a))) := rfl
theorem min_ii : fMin [.int a, .int b] Q = Q (.val (.int (if b < a then b else a))) := rfl
theorem int_i : fInt [.int a] Q = Q (.val (.int a)) := rfl
theorem int_b : fInt [.bl x] Q = Q (.val (.int (if x then 1 else 0))) := rfl
theorem divmod_ii : fDivmod [.int a, .int b] Q = (DivOk a b ∧ Q (.val (.tup [.int (a.fdiv b), .int (a.fmod b)]))) := rfl
theorem rng1 : fRange [.int a] Q = ((-(2 ^ 62) ≤ a ∧ a < 2 ^ 62) ∧ Q (.val (.lst (rangeD 0 a)))) := rfl
theorem rng2 : fRange [.int a, .int b] Q = ((-(2 ^ 62) ≤ a ∧ a < 2 ^ 62 ∧ -(2 ^ 62) ≤ b ∧ b < 2 ^ 62) ∧ Q (.val (.lst (rangeD a b)))) := rfl
theorem ixT : oIx (.tup l) (.int a) Q = optD (ixI l a) fun d => Q (.val d) := rfl
theorem ixL : oIx (.lst l) (.int a) Q = optD (ixI l a) fun d => Q (.val d) := rfl
theorem ix0 : oIx (.tup (d :: l)) (.int 0) Q = Q (.val d) := rfl
theorem ix1 {f : D} : oIx (.tup (d :: e :: l)) (.int 1) Q = Q (.val e) := rfl
theorem ix2 {f : D} : oIx (.tup (d :: e :: f :: l)) (.int 2) Q = Q (.val f) := rfl
theorem ix3 {f g : D} : oIx (.tup (d :: e :: f :: g :: l)) (.int 3) Q = Q (.val g) := rfl
theorem iy0 : oIx (.lst (d :: l)) (.int 0) Q = Q (.val d) := rfl
theorem iy1 {f : D} : oIx (.lst (d :: e :: l)) (.int 1) Q = Q (.val e) := rfl
theorem iy2 {f : D} : oIx (.lst (d :: e :: f :: l)) (.int 2) Q = Q (.val f) := rfl
theorem iy3 {f g : D} : oIx (.lst (d :: e :: f :: g :: l)) (.int 3) Q = Q (.val g) := rfl
theorem eqL_c : eqL (d :: l) (e :: m) = (D.eq d e && eqL l m) := rfl
theorem eqL_n : eqL [] [] = true := rfl
theorem eq_ii : D.eq (.int a) (.int b) = (a == b) := rfl
theorem eq_tt : D.eq (.tup l) (.tup m) = eqL l m := rfl
theorem eq_ll : D.eq (.lst l) (.lst m) = eqL l m := rfl
theorem opt_some : optD (some d) k = k d := rfl
theorem isInt_i : (D.int a).isInt = true := rfl
theorem isInt_t : (D.tup l).isInt = false := rfl
theorem isInt_n : D.non.isInt = false := rfl
theorem isInt_b : (D.bl x).isInt = true := rfl
theorem isBool_i : (D.int a).isBool = false := rfl
theorem isBool_b : (D.bl x).isBool = true := rfl
theorem isTuple_t : (D.tup l).isTuple = true := rfl
theorem isTuple_i : (D.int a).isTuple = false := rfl
theorem isTuple_n : D.non.isTuple = false := rfl
theorem isList_l : (D.lst l).isList = true := rfl
theorem isList_t : (D.tup l).isList = false := rfl
theorem isStr_s : (D.str s).isStr = true := rfl
theorem plain_i : (D.int a).plain = true := rfl
theorem plain_t : (D.tup l).plain = true := rfl
theorem plain_l : (D.lst l).plain = true := rfl
theorem plain_b : (D.bl x).plain = true := rfl
theorem plain_n : D.non.plain = true := rfl
theorem plain_s : (D.str s).plain = true := rfl
theorem isNone_i : (D.int a).isNone = false := rfl
theorem isNone_t : (D.tup l).isNone = false := rfl
theorem isNone_n : D.non.isNone = true := rfl
theorem immI : (D.int a).imm = true := rfl
theorem immB : (D.bl x).imm = true := rfl
theorem immN : D.non.imm = true := rfl
theorem immS : (D.str s).imm = true := rfl
theorem immT : (D.tup l).imm = immL l := rfl
theorem immL_cons : immL (d :: l) = (d.imm && immL l) := rfl
theorem not_t : (!true) = false := rfl
theorem not_f : (!false) = true := rfl
theorem map_c : List.map Sl.val (d :: l) = Sl.val d :: List.map Sl.val l := rfl
theorem map_n : List.map Sl.val [] = [] := rfl
theorem vmap_c {s : Sl} {r : Env} : List.map Sl.view (s :: r) = s.view :: List.map Sl.view r := rfl
theorem vmap_n : List.map Sl.view [] = [] := rfl
theorem app_c {s t : Sl} {r r' : Env} : ((s :: r) ++ r' : Env) = s :: (r ++ r') := rfl
theorem app_n {r' : Env} : (([] : Env) ++ r') = r' := rfl
theorem rep_s {s : Sl} {n : Nat} : List.replicate (n + 1) s = s :: List.replicate n s := rfl
theorem rep_z {s : Sl} : List.replicate 0 s = [] := rfl
theorem get_z {s : Sl} {r : Env} : (s :: r)[0]? = some s := rfl
theorem get_s {s : Sl} {r : Env} {n : Nat} : (s :: r)[n + 1]? = r[n]? := rfl
theorem set_z {s t : Sl} {r : Env} : List.set (s :: r) 0 t = t :: r := rfl
theorem set_s {s t : Sl} {r : Env} {n : Nat} : List.set (s :: r) (n + 1) t = s :: List.set r n t := rfl
theorem leng_c {d : D} {l : List D} : (d :: l).length = l.length + 1 := rfl
theorem leng_n : ([] : List D).length = 0 := rfl
theorem told_val : (Sl.val d).told Q = Q (.val d) := rfl
theorem getD_some {s u : Sl} : (some s).getD u = s := rfl
theorem tupOf_t {n : Nat} {kl : List D → Prop} : tupOf n (.tup l) kl = (l.length = n ∧ kl l) := rfl
theorem lstOf_l {n : Nat} {kl : List D → Prop} : lstOf n (.lst l) kl = (l.length = n ∧ kl l) := rfl
theorem given_own : (Sl.own l).given Q = Q (.own l) := rfl
theorem given_ownd : (Sl.ownd ks vs).given Q = Q (.ownd ks vs) := rfl
theorem items_l {kl : List D → Prop} : itemsOf (.lst l) kl = kl l := rfl
theorem items_t {kl : List D → Prop} : itemsOf (.tup l) kl = kl l := rfl
theorem itemsL_l {kl : List D → Prop} : itemsL (.lst l) kl = (l.length ≤ 16777216 ∧ kl l) := rfl
theorem itemsL_t {kl : List D → Prop} : itemsL (.tup l) kl = (l.length ≤ 16777216 ∧ kl l) := rfl
theorem owned_own {kl : List D → Prop} : (Sl.own l).owned kl = kl l := rfl
theorem datum_val : (Sl.val d).datum k = k d := rfl
theorem asInt_i {ki : Int → Prop} : (D.int a).asInt ki = ki a := rfl
theorem asLst_l {kl : List D → Prop} : (D.lst l).asLst kl = kl l := rfl
theorem immL_nil : immL [] = true := rfl
theorem isx_n {p : Nat → Bool} : oIsX p .non Q = Q (.val (.bl false)) := rfl
theorem isx_o {p : Nat → Bool} {n : Nat} : oIsX p (.obj n l) Q = (n < 11 ∧ Q (.val (.bl (p n)))) := rfl
theorem xf_o {cs : List Nat} {i n : Nat} : oXf cs i (.obj n l) Q = (cs.contains n = true ∧ optD l[i]? fun d => Q (.val d)) := rfl
theorem meth_b {f g : DF} {k : DF → Prop} : methOf f g (.obj 12 l) k = k f := rfl
theorem meth_s {f g : DF} {k : DF → Prop} : methOf f g (.obj 13 l) k = k g := rfl
theorem fld0b : oFld 0 (.obj 12 (d :: l)) Q = Q (.val d) := rfl
theorem fld0s : oFld 0 (.obj 13 (d :: l)) Q = Q (.val d) := rfl
theorem fld1b : oFld 1 (.obj 12 (d :: e :: l)) Q = Q (.val e) := rfl
theorem fld1s : oFld 1 (.obj 13 (d :: e :: l)) Q = Q (.val e) := rfl
theorem gr2 {z : D} : oGround (.obj 12 (d :: e :: z :: l)) Q = Q (.val z) := rfl
theorem ws2 {z : D} : oWays (.obj 13 (d :: e :: z :: l)) Q = Q (.val z) := rfl
theorem iso_bb : oIsO 12 (.obj 12 l) Q = Q (.val (.bl true)) := rfl
theorem iso_bs : oIsO 13 (.obj 12 l) Q = Q (.val (.bl false)) := rfl
theorem iso_ba : oIsO 14 (.obj 12 l) Q = Q (.val (.bl true)) := rfl
theorem iso_sb : oIsO 12 (.obj 13 l) Q = Q (.val (.bl false)) := rfl
theorem iso_ss : oIsO 13 (.obj 13 l) Q = Q (.val (.bl true)) := rfl
theorem iso_sa : oIsO 14 (.obj 13 l) Q = Q (.val (.bl true)) := rfl
theorem mk_obj {c : Nat} {f1 f2 : DF} {X : DX} : mkObj c f1 f2 [d] Q X = f1 [d] (fun s => s.use fun m => f2 [d] (fun s' => s'.use fun g => Q (.val (.obj c [d, m, g]))) X) X := rfl
theorem xf0 {cs : List Nat} {n : Nat} : oXf cs 0 (.obj n (d :: l)) Q = (cs.contains n = true ∧ Q (.val d)) := rfl
theorem xf1 {cs : List Nat} {n : Nat} : oXf cs 1 (.obj n (d :: e :: l)) Q = (cs.contains n = true ∧ Q (.val e)) := rfl
theorem plain_o {n : Nat} : (D.obj n l).isNone = false := rfl
end
theorem bd_mul {x y : Int} {n m : Nat} (a : Bd x n) (b : Bd y m) : Bd (x * y) (n + m) := inferInstance
theorem bd_now {x : Int} {n m : Nat} [b : Bd x n] (h : Nat.ble n m = true) : Bd x m := bd_mono b (Nat.le_of_ble_eq_true h)
theorem bd_lit {x : Int} {n : Nat} (m : Nat) (h : x.natAbs < 2 ^ m) (hm : Nat.ble m n = true) : Bd x n := bd_mono ⟨h⟩ (Nat.le_of_ble_eq_true hm)
theorem bd_step1 {u b : Int} {n : Nat} (hb : Bd b n) (h : u.natAbs ≤ b.natAbs + 1) : Bd u (n + 1) := ⟨by
  have := hb.h
  rw [Nat.pow_succ]; omega⟩
theorem bd_step3 {v a b : Int} {n : Nat} (ha : Bd a n) (hb : Bd b n) (h : v.natAbs ≤ a.natAbs + 2 * b.natAbs + 1) : Bd v (n + 3) := ⟨by
  have := ha.h
  have := hb.h
  rw [Nat.pow_succ, Nat.pow_succ, Nat.pow_succ]; omega⟩
theorem mem_rangeD {lo hi : Int} {d : D} (h : d ∈ rangeD lo hi) : ∃ k : Int, d = .int k ∧ lo ≤ k ∧ k < hi := by
  unfold rangeD at h
  obtain ⟨i, hi', rfl⟩ := List.mem_map.mp h
  have := List.mem_range.mp hi'
  exact ⟨_, rfl, by omega, by omega⟩
theorem opt_at {o : Option D} {d : D} {k : D → Prop} (e : o = some d) (h : k d) : optD o k := by rw [e]; exact h
theorem ixNat {l : List D} {n : Nat} {d : D} {i : Int} (e : i = n) (h : l[n]? = some d) : ixI l i = some d := by subst e; exact h
theorem ixInt {ns : List Int} {i : Int} (h0 : 0 ≤ i) (h : i < ns.length) : ixI (ns.map D.int) i = some (.int (ns[i.toNat]'(by omega))) := by
  refine ixNat (n := i.toNat) (by omega) ?_
  rw [List.getElem?_map, List.getElem?_eq_getElem (by omega)]
  rfl
theorem ixLast {l : List D} {d : D} : ixI (l ++ [d]) (-1) = some d := by
  show (match (l ++ [d]).length - 0 with | 0 => none | m + 1 => (l ++ [d])[m]?) = some d
  rw [List.length_append]
  show (l ++ [d])[l.length]? = some d
  simp
theorem szB {i j : Int} {n m : Nat} (a : Bd i n) (b : Bd j m) (h : n + m ≤ 134217728) : Sz i j := @sz i j n m a b (Nat.ble_eq_true_of_le h)
theorem bd0 : Bd 0 1 := ⟨by decide⟩
theorem bd1 : Bd 1 1 := ⟨by decide⟩
theorem bd2 : Bd 2 2 := ⟨by decide⟩
theorem bd3 : Bd 3 2 := ⟨by decide⟩
theorem bd4 : Bd 4 3 := ⟨by decide⟩
theorem bd_add {x y : Int} {n : Nat} (a : Bd x n) (b : Bd y n) : Bd (x + y) (n + 1) := ⟨by
  have := a.h
  have := b.h
  rw [Nat.pow_succ]; omega⟩
theorem bd_sub {x y : Int} {n : Nat} (a : Bd x n) (b : Bd y n) : Bd (x - y) (n + 1) := ⟨by
  have := a.h
  have := b.h
  rw [Nat.pow_succ]; omega⟩
theorem bd_neg {x : Int} {n : Nat} (a : Bd x n) : Bd (-x) n := ⟨by
  have := a.h
  omega⟩
theorem bd_up {x : Int} {n : Nat} (m : Nat) (b : Bd x n) (h : n ≤ m := by omega) : Bd x m := bd_mono b h
theorem bd_at {x : Int} (n : Nat) (h : x.natAbs < 2 ^ n) : Bd x n := ⟨h⟩
theorem every_g {i : Nat} {tb : DS} {n : Env → Prop} {q : DK} {x : Exn → Env → Prop} (I : List D → Env → Prop) (he : ∀ r, I [] r → n r)
    (hs : ∀ d ds r (G : Env → Prop), I (d :: ds) r → (∀ r', I ds r' → G r') → tb G q n G x (r.set i (.val d))) (l : List D) (r : Env) (h : I l r) : dEvery i tb n q x l r :=
  every_ind I he (fun d ds r hI ih => hs d ds r _ hI ih) l r h
theorem while_g {tc : DE} {tb : DS} {n b c : Env → Prop} {q : DK} {x : Exn → Env → Prop} {r : Env} (I : Env → Nat → Prop) (m0 : Nat) (h0 : I r m0)
    (hs : ∀ r m (G : Env → Prop), I r m → (∀ r' m', m' < m → I r' m' → G r') → tc r (fun s => s.bool fun k => two k (tb G q n G x r) (n r)) fun e => x e r) : dWhile tc tb n q b c x r :=
  while_of I m0 h0 fun r m h => hs r m _ h fun r' m' hm hI => ⟨m', hm, hI⟩
theorem bNe_bb {x y : Bool} {k : Bool → Prop} (e : x = y) (h : k false) : bNe (.bl x) (.bl y) k := by
  subst e
  exact ⟨rfl, by rw [show D.eq (.bl x) (.bl x) = (x == x) from rfl, beq_self_eq_true]; exact h⟩
theorem each_any {f : D → (Option D → Prop) → Prop} (P : D → Prop) : ∀ (l : List D) (_ : ∀ d ∈ l, ∀ k : Option D → Prop, (∀ y, P y → k (some y)) → k none → f d k) (Q : List D → Prop) (_ : ∀ ys, (∀ y ∈ ys, P y) → ys.length ≤ l.length → Q ys), dEach f l Q
  | [], _, Q, q => q [] (fun y h => absurd h List.not_mem_nil) (Nat.le_refl _)
  | d :: l, hf, Q, q => hf d List.mem_cons_self _ (fun y hy => each_any P l (fun e he => hf e (List.mem_cons_of_mem _ he)) _ fun ys h1 h2 => q (y :: ys) (fun z hz => by
      rcases List.mem_cons.mp hz with rfl | hz
      · exact hy
      · exact h1 z hz) (Nat.succ_le_succ h2)) (each_any P l (fun e he => hf e (List.mem_cons_of_mem _ he)) _ fun ys h1 h2 => q ys h1 (Nat.le_trans h2 (Nat.le_succ _)))
theorem eqL_ints : ∀ l : List Int, eqL (l.map D.int) (l.map D.int) = true
  | [] => rfl
  | a :: l => by
    show (a == a && eqL (l.map D.int) (l.map D.int)) = true
    rw [eqL_ints l, beq_self_eq_true]; rfl
theorem datL_ints (n : Nat) : ∀ l : List Int, datL n (l.map D.int) = true
  | [] => rfl
  | a :: l => by
    show ((D.int a).dat n && datL n (l.map D.int)) = true
    rw [datL_ints n l]
    cases n <;> rfl
theorem bNe_ints (l : List Int) {k : Bool → Prop} (h : k false) : bNe (.tup (l.map D.int)) (.tup (l.map D.int)) k := by
  refine ⟨?_, ?_⟩
  · show (datL 29 _ && datL 29 _) = true
    rw [datL_ints]; rfl
  · show k (!eqL _ _)
    rw [eqL_ints]; exact h
theorem bEq_ints (l : List Int) {k : Bool → Prop} (h : k true) : bEq (.tup (l.map D.int)) (.tup (l.map D.int)) k := by
  refine ⟨?_, ?_⟩
  · show (datL 29 _ && datL 29 _) = true
    rw [datL_ints]; rfl
  · show k (eqL _ _)
    rw [eqL_ints]; exact h
theorem bNe2 {a b a' b' : Int} {k : Bool → Prop} (e1 : a = a') (e2 : b = b') (h : k false) : bNe (.tup [.int a, .int b]) (.tup [.int a', .int b']) k := by
  subst e1 e2; exact bNe_ints [a, b] h
theorem bNe3 {a b c a' b' c' : Int} {k : Bool → Prop} (e1 : a = a') (e2 : b = b') (e3 : c = c') (h : k false) : bNe (.tup [.int a, .int b, .int c]) (.tup [.int a', .int b', .int c']) k := by
  subst e1 e2 e3; exact bNe_ints [a, b, c] h
theorem bNe4 {a b c d a' b' c' d' : Int} {k : Bool → Prop} (e1 : a = a') (e2 : b = b') (e3 : c = c') (e4 : d = d') (h : k false) : bNe (.tup [.int a, .int b, .int c, .int d]) (.tup [.int a', .int b', .int c', .int d']) k := by
  subst e1 e2 e3 e4; exact bNe_ints [a, b, c, d] h
theorem bEq2 {a b a' b' : Int} {k : Bool → Prop} (e1 : a = a') (e2 : b = b') (h : k true) : bEq (.tup [.int a, .int b]) (.tup [.int a', .int b']) k := by
  subst e1 e2; exact bEq_ints [a, b] h
theorem bEq3 {a b c a' b' c' : Int} {k : Bool → Prop} (e1 : a = a') (e2 : b = b') (e3 : c = c') (h : k true) : bEq (.tup [.int a, .int b, .int c]) (.tup [.int a', .int b', .int c']) k := by
  subst e1 e2 e3; exact bEq_ints [a, b, c] h
theorem bEq4 {a b c d a' b' c' d' : Int} {k : Bool → Prop} (e1 : a = a') (e2 : b = b') (e3 : c = c') (e4 : d = d') (h : k true) : bEq (.tup [.int a, .int b, .int c, .int d]) (.tup [.int a', .int b', .int c', .int d']) k := by
  subst e1 e2 e3 e4; exact bEq_ints [a, b, c, d] h
theorem bd_mul2 {x y : Int} {n m k : Nat} (a : Bd x n) (b : Bd y m) (h : n + m ≤ k := by omega) : Bd (x * y) k := bd_mono (bd_mul a b) h
theorem bd_add2 {x y : Int} {n m k : Nat} (a : Bd x n) (b : Bd y m) (h : n + 1 ≤ k ∧ m + 1 ≤ k := by omega) : Bd (x + y) k := bd_mono (bd_add (bd_mono a (Nat.le_max_left n m)) (bd_mono b (Nat.le_max_right n m))) (by omega)
theorem bd_sub2 {x y : Int} {n m k : Nat} (a : Bd x n) (b : Bd y m) (h : n + 1 ≤ k ∧ m + 1 ≤ k := by omega) : Bd (x - y) k := bd_mono (bd_sub (bd_mono a (Nat.le_max_left n m)) (bd_mono b (Nat.le_max_right n m))) (by omega)
theorem rng_len (lo hi : Int) : (rangeD lo hi).length = (hi - lo).toNat := by unfold rangeD; rw [List.length_map, List.length_range]
theorem fun_mk {np n : Nat} {t : DS} {ds : List D} {Q : DK} {X : DX} (h : ds.length = np ∧ t (fun _ => Q (.val .non)) Q (fun _ => False) (fun _ => False) (fun x _ => X x) (ds.map Sl.val ++ List.replicate (n - np) .un)) : dFun np n t ds Q X := ⟨h.1, h.2⟩
theorem bNe_str {s : List Nat} {k : Bool → Prop} (hs : (s.all fun c => decide (c < 1114112)) = true) (h : k false) : bNe (.str s) (.str s) k := by
  refine ⟨?_, ?_⟩
  · show ((s.all fun c => decide (c < 1114112)) && (s.all fun c => decide (c < 1114112))) = true
    rw [hs]; rfl
  · show k (!(s == s))
    rw [beq_self_eq_true]; exact h
theorem cut3 (ns : List Int) (m : Nat) (h : m + 3 ≤ ns.length) (lo hi : Int) (hlo : lo = m) (hhi : hi = m + 3) : ∃ x y z : Int, cutD (ns.map D.int) (some lo) (some hi) = [.int x, .int y, .int z] := by
  subst hlo hhi
  have e : cutD (ns.map D.int) (some (m : Int)) (some ((m : Int) + 3)) = ((ns.drop m).take 3).map D.int := by
    unfold cutD sIx
    dsimp only
    rw [if_neg (by omega), if_neg (by omega), List.length_map, List.map_take, List.map_drop]
    have e1 : (m : Int).toNat = m := by omega
    have e2 : ((m : Int) + 3).toNat = m + 3 := by omega
    rw [e1, e2, Nat.min_eq_left h, Nat.min_eq_left (show m ≤ ns.length by omega)]
    have e3 : m + 3 - m = 3 := by omega
    rw [e3]
  rw [e]
  have hl : 3 ≤ (ns.drop m).length := by rw [List.length_drop]; omega
  match ns.drop m, hl with
  | x :: y :: z :: l, _ => exact ⟨x, y, z, rfl⟩
theorem szR {i j : Int} (h : decide (bits j ≤ 64) = true) : Sz i j := .inr (.inl (of_decide_eq_true h))
theorem szL {i j : Int} (h : decide (bits i ≤ 64) = true) : Sz i j := .inl (of_decide_eq_true h)
/-- a cell's size -/
theorem cell_bits {ns : List Int} (hb : ∀ z ∈ ns, bits z ≤ 1048576) (k : Nat) : Bd (ns.getD k 0) 1048576 := by
  have h : bits (ns.getD k 0) ≤ 1048576 := by
    rw [List.getD_eq_getElem?_getD]
    by_cases hk : k < ns.length
    · rw [List.getElem?_eq_getElem hk]
      exact hb _ (List.getElem_mem hk)
    · rw [List.getElem?_eq_none (by omega)]
      decide
  exact bd_of_bits h
end DL

/- DLt -/
namespace DL
inductive Out (β : Type) where
  | no | val (b : β) | exc (e : Exn)
def Out.sat {β : Type} : Out β → (β → Prop) → DX → Prop
  | .no, _, _ => False
  | .val b, Q, _ => Q b
  | .exc e, _, X => X e
abbrev Has {β : Type} (T : (β → Prop) → DX → Prop) : Prop := ∃ o : Out β, ∀ Q X, T Q X ↔ o.sat Q X
class DetG {β : Type} (t : Env → (β → Prop) → DX → Prop) : Prop where
  h : ∀ r, Has (t r)
class DetF (f : DF) : Prop where
  h : ∀ ds, Has (f ds)
class Det1 {α β : Type} (f : α → (β → Prop) → Prop) : Prop where
  h : ∀ x, Has fun Q (_ : DX) => f x Q
class Det2 {β : Type} (f : D → D → (β → Prop) → Prop) : Prop where
  h : ∀ x y, Has fun Q (_ : DX) => f x y Q
section
variable {β γ : Type}
theorem has_no {T : (β → Prop) → DX → Prop} (h : ∀ Q X, ¬ T Q X) : Has T := ⟨.no, fun Q X => ⟨fun z => h Q X z, fun z => z.elim⟩⟩
theorem has_val (b : β) : Has fun Q (_ : DX) => Q b := ⟨.val b, fun _ _ => Iff.rfl⟩
theorem has_false : Has fun (_ : β → Prop) (_ : DX) => False := ⟨.no, fun _ _ => Iff.rfl⟩
theorem has_if {P : Prop} {T : (β → Prop) → DX → Prop} (h : Has T) : Has fun Q X => P ∧ T Q X := by
  classical
  by_cases p : P
  · obtain ⟨o, h⟩ := h
    exact ⟨o, fun Q X => ⟨fun z => (h Q X).mp z.2, fun z => ⟨p, (h Q X).mpr z⟩⟩⟩
  · exact has_no fun Q X z => p z.1
theorem has_of {T : (β → Prop) → DX → Prop} (h : ∀ Q X, T Q X → ∃ b, ∀ Q' X', T Q' X' ↔ Q' b) : Has T := by
  classical
  by_cases c : ∃ Q X, T Q X
  · obtain ⟨Q, X, z⟩ := c
    obtain ⟨b, hb⟩ := h Q X z
    exact ⟨.val b, hb⟩
  · exact has_no fun Q X z => c ⟨Q, X, z⟩
theorem has_bind {T : (β → Prop) → DX → Prop} {g : β → (γ → Prop) → DX → Prop} (h : Has T) (hg : ∀ b, Has (g b)) : Has fun Q X => T (fun b => g b Q X) X := by
  obtain ⟨o, ho⟩ := h
  cases o with
  | no => exact ⟨.no, fun Q X => ho _ _⟩
  | val b => obtain ⟨o', h'⟩ := hg b; exact ⟨o', fun Q X => (ho _ _).trans (h' Q X)⟩
  | exc e => exact ⟨.exc e, fun Q X => ho _ _⟩
/-- what comes, where nothing may be let out -/
theorem has_bind0 {T : (β → Prop) → DX → Prop} {g : β → (γ → Prop) → Prop} (h : Has T) (hg : ∀ b, Has fun Q (_ : DX) => g b Q) : Has fun Q (_ : DX) => T (fun b => g b Q) fun _ => False := by
  obtain ⟨o, ho⟩ := h
  cases o with
  | no => exact ⟨.no, fun Q X => ho _ _⟩
  | val b => obtain ⟨o', h'⟩ := hg b; exact ⟨o', fun Q X => (ho _ _).trans (h' Q X)⟩
  | exc e => exact ⟨.no, fun Q X => ho _ _⟩
theorem has_use (s : Sl) : Has fun (k : D → Prop) (_ : DX) => s.use k := by cases s <;> first | exact has_val _ | exact has_false
theorem has_told (s : Sl) : Has fun (k : DK) (_ : DX) => s.told k := by cases s <;> first | exact has_val _ | exact has_false
theorem has_given (s : Sl) : Has fun (k : DK) (_ : DX) => s.given k := by cases s <;> first | exact has_val _ | exact has_false
theorem has_bool (s : Sl) : Has fun (k : Bool → Prop) (_ : DX) => s.bool k := by
  cases s with
  | val d => cases d <;> first | exact has_val _ | exact has_false
  | _ => exact has_false
theorem has_owned (s : Sl) : Has fun (k : List D → Prop) (_ : DX) => s.owned k := by cases s <;> first | exact has_val _ | exact has_false
theorem has_datum (s : Sl) : Has fun (k : D → Prop) (_ : DX) => s.datum k := by cases s <;> first | exact has_val _ | exact has_false
theorem has_asInt (d : D) : Has fun (k : Int → Prop) (_ : DX) => d.asInt k := by cases d <;> first | exact has_val _ | exact has_false
theorem has_asLst (d : D) : Has fun (k : List D → Prop) (_ : DX) => d.asLst k := by cases d <;> first | exact has_val _ | exact has_false
theorem has_optD (o : Option D) : Has fun (k : D → Prop) (_ : DX) => optD o k := by cases o <;> first | exact has_val _ | exact has_false
theorem has_optN (o : Option Nat) : Has fun (k : Nat → Prop) (_ : DX) => optN o k := by cases o <;> first | exact has_val _ | exact has_false
theorem has_two {b : Bool} {A B : (β → Prop) → DX → Prop} (ha : Has A) (hb : Has B) : Has fun Q X => two b (A Q X) (B Q X) := by cases b <;> assumption
theorem has_one1 (l : List D) : Has fun (k : D → Prop) (_ : DX) => one1 l k := by
  match l with
  | [] => exact has_false
  | [_] => exact has_val _
  | _ :: _ :: _ => exact has_false
theorem has_tupOf (n : Nat) (d : D) : Has fun (k : List D → Prop) (_ : DX) => tupOf n d k := by
  cases d <;> first | exact has_if (has_val _) | exact has_false
theorem has_lstOf (n : Nat) (d : D) : Has fun (k : List D → Prop) (_ : DX) => lstOf n d k := by
  cases d <;> first | exact has_if (has_val _) | exact has_false
theorem has_itemsOf (d : D) : Has fun (k : List D → Prop) (_ : DX) => itemsOf d k := by cases d <;> first | exact has_val _ | exact has_false
theorem has_itemsL (d : D) : Has fun (k : List D → Prop) (_ : DX) => itemsL d k := by
  cases d <;> first | exact has_if (has_val _) | exact has_false
end
section
variable {ta tb tc td : DE} {ts : DA} {tl th : DO}
instance {d : D} : DetG (dC d) := ⟨fun _ => has_val _⟩
instance {i : Nat} : DetG (dVar i) := ⟨fun r => has_told _⟩
instance : DetG dYes := ⟨fun _ => has_val _⟩
instance [a : DetG ta] : DetG (dView ta) := ⟨fun r => by
  classical
  obtain ⟨o, h⟩ := a.h (view r)
  cases o with
  | no => exact ⟨.no, fun Q X => h _ _⟩
  | val s =>
    by_cases c : s.imm = true
    · exact ⟨.val s, fun Q X => (h _ _).trans ⟨fun z => z.2, fun z => ⟨c, z⟩⟩⟩
    · exact ⟨.no, fun Q X => (h _ _).trans ⟨fun z => c z.1, fun z => z.elim⟩⟩
  | exc e =>
    by_cases c : immL e.fs = true
    · exact ⟨.exc e, fun Q X => (h _ _).trans ⟨fun z => z.2, fun z => ⟨c, z⟩⟩⟩
    · exact ⟨.no, fun Q X => (h _ _).trans ⟨fun z => c z.1, fun z => z.elim⟩⟩⟩
instance [a : DetG ta] : DetG (dViewT ta) := ⟨fun r => by
  classical
  obtain ⟨o, h⟩ := a.h (view r)
  cases o with
  | no => exact ⟨.no, fun Q X => h _ _⟩
  | val s => exact ⟨.val s, fun Q X => h _ _⟩
  | exc e =>
    by_cases c : immL e.fs = true
    · exact ⟨.exc e, fun Q X => (h _ _).trans ⟨fun z => z.2, fun z => ⟨c, z⟩⟩⟩
    · exact ⟨.no, fun Q X => (h _ _).trans ⟨fun z => c z.1, fun z => z.elim⟩⟩⟩
instance {f : D → D → DK → Prop} [k : Det2 f] [a : DetG ta] [b : DetG tb] : DetG (dOp f ta tb) := ⟨fun r => has_bind (T := ta r) (a.h r) fun s => has_bind (has_use s) fun x => has_bind (b.h r) fun s' => has_bind (has_use s') fun y => k.h x y⟩
instance {f : D → DK → Prop} [k : Det1 f] [a : DetG ta] : DetG (dUn f ta) := ⟨fun r => has_bind (T := ta r) (a.h r) fun s => has_bind (has_use s) fun x => k.h x⟩
instance {f : List D → DK → Prop} [k : Det1 f] [a : DetG ts] : DetG (dAs f ts) := ⟨fun r => has_bind (T := ts r) (a.h r) fun xs => k.h xs⟩
instance : DetG dNil := ⟨fun _ => has_val _⟩
instance [a : DetG ta] [b : DetG ts] : DetG (dCons ta ts) := ⟨fun r => has_bind (T := ta r) (a.h r) fun s => has_bind (has_use s) fun x => has_bind (b.h r) fun xs => has_val _⟩
instance [a : DetG ta] [b : DetG tb] : DetG (dAnd ta tb) := ⟨fun r => has_bind (T := ta r) (a.h r) fun s => has_bind (has_bool s) fun k => has_two (b.h r) (has_val _)⟩
instance [a : DetG ta] [b : DetG tb] : DetG (dOr ta tb) := ⟨fun r => has_bind (T := ta r) (a.h r) fun s => has_bind (has_bool s) fun k => has_two (has_val _) (b.h r)⟩
instance [a : DetG ta] : DetG (dNot ta) := ⟨fun r => has_bind (T := ta r) (a.h r) fun s => has_bind (has_bool s) fun k => has_val _⟩
instance [c : DetG tc] [a : DetG ta] [b : DetG tb] : DetG (dIte tc ta tb) := ⟨fun r => has_bind (T := tc r) (c.h r) fun s => has_bind (has_bool s) fun k => has_two (a.h r) (b.h r)⟩
instance : Det1 (fun (xs : List D) (Q : DK) => Q (.val (.tup xs))) := ⟨fun _ => has_val _⟩
instance : Det1 (fun (xs : List D) (Q : DK) => Q (.own xs)) := ⟨fun _ => has_val _⟩
instance [a : DetG ts] : DetG (dTup ts) := ⟨fun r => has_bind (T := ts r) (a.h r) fun xs => has_val _⟩
instance [a : DetG ts] : DetG (dLst ts) := ⟨fun r => has_bind (T := ts r) (a.h r) fun xs => has_val _⟩
instance {f : DF} [k : DetF f] [a : DetG ts] : DetG (dCall f ts) := ⟨fun r => has_bind (T := ts r) (a.h r) fun xs => k.h xs⟩
instance {i j : Nat} {f : DF} [k : DetF f] [a : DetG ts] : DetG (dCallV i j f ts) := ⟨fun r => has_if (has_bind (a.h r) fun xs => k.h xs)⟩
instance : DetG dNewD := ⟨fun _ => has_val _⟩
instance {f g : D → D → (Bool → Prop) → Prop} [k : Det2 f] [l : Det2 g] [a : DetG ta] [b : DetG tb] [c : DetG tc] : DetG (dChain f g ta tb tc) :=
  ⟨fun r => has_bind (T := ta r) (a.h r) fun s => has_bind (has_use s) fun x => has_bind (b.h r) fun s' => has_bind (has_use s') fun y => has_bind (k.h x y) fun p => has_two (has_bind (c.h r) fun s'' => has_bind (has_use s'') fun z => has_bind (l.h y z) fun q => has_val _) (has_val _)⟩
instance {f g e : D → D → (Bool → Prop) → Prop} [k : Det2 f] [l : Det2 g] [m : Det2 e] [a : DetG ta] [b : DetG tb] [c : DetG tc] [d : DetG td] : DetG (dChain3 f g e ta tb tc td) :=
  ⟨fun r => has_bind (T := ta r) (a.h r) fun s => has_bind (has_use s) fun x => has_bind (b.h r) fun s' => has_bind (has_use s') fun y => has_bind (k.h x y) fun p => has_two (has_bind (c.h r) fun s'' => has_bind (has_use s'') fun z => has_bind (l.h y z) fun q => has_two (has_bind (d.h r) fun s3 => has_bind (has_use s3) fun w => has_bind (m.h z w) fun _ => has_val _) (has_val _)) (has_val _)⟩
instance : DetG dNoPart := ⟨fun _ => has_val _⟩
instance [a : DetG ta] : DetG (dPart ta) := ⟨fun r => has_bind (T := ta r) (a.h r) fun s => has_bind (has_use s) fun d => has_bind (has_asInt d) fun i => has_val _⟩
instance [a : DetG ta] [b : DetG tl] [c : DetG th] : DetG (dSl ta tl th) := ⟨fun r => has_bind (T := ta r) (a.h r) fun s => has_bind (has_use s) fun d => has_bind (b.h r) fun lo => has_bind (c.h r) fun hi => has_bind (has_asLst d) fun l => has_val _⟩
instance [a : DetG ta] [b : DetG ts] : DetG (dIndex ta ts) := ⟨fun r => has_bind (T := ta r) (a.h r) fun s => has_bind (has_use s) fun x => has_bind (has_asLst x) fun l => has_bind (b.h r) fun xs => has_bind (has_one1 xs) fun y => has_if (has_bind (has_optN _) fun j => has_val _)⟩
theorem has_each {f : D → (Option D → Prop) → Prop} (h : ∀ x, Has fun Q (_ : DX) => f x Q) : ∀ l, Has fun Q (_ : DX) => dEach f l Q
  | [] => has_val _
  | x :: xs => has_bind (T := fun Q (_ : DX) => f x Q) (h x) fun o => has_bind (T := fun Q (_ : DX) => dEach f xs Q) (has_each h xs) fun ys => has_val _
theorem has_oneLc {i : Nat} [a : DetG tb] [b : DetG tc] (r : Env) (x : D) : Has fun Q (_ : DX) => oneLc i tb tc r x Q :=
  has_bind0 (a.h _) fun s => has_bind (T := fun k (_ : DX) => s.bool k) (has_bool s) fun b' => has_two (has_bind0 (b.h _) fun s' => has_bind (T := fun k (_ : DX) => s'.use k) (has_use s') fun y => has_val _) (has_val _)
instance {i : Nat} [w : DetG ta] [a : DetG tb] [b : DetG tc] : DetG (dLc i ta tb tc) := ⟨fun r => has_bind (T := ta r) (w.h r) fun s => has_bind (has_use s) fun d => has_bind (has_itemsL d) fun l => has_bind (T := fun Q (_ : DX) => dEach (oneLc i tb tc r) l Q) (has_each (has_oneLc r) l) fun ys => has_val _⟩
end
instance : Det2 oAdd := ⟨by (intro x y; cases x <;> cases y <;> first | exact has_val _ | exact has_false | exact has_if (has_val _))⟩
instance : Det2 oSub := ⟨by (intro x y; cases x <;> cases y <;> first | exact has_val _ | exact has_false | exact has_if (has_val _))⟩
instance : Det2 oMul := ⟨by (intro x y; cases x <;> cases y <;> first | exact has_val _ | exact has_false | exact has_if (has_val _))⟩
instance : Det2 oDiv := ⟨by (intro x y; cases x <;> cases y <;> first | exact has_val _ | exact has_false | exact has_if (has_val _))⟩
instance : Det2 oMod := ⟨by (intro x y; cases x <;> cases y <;> first | exact has_val _ | exact has_false | exact has_if (has_val _))⟩
instance : Det2 oPow := ⟨by (intro x y; cases x <;> cases y <;> first | exact has_val _ | exact has_false | exact has_if (has_val _))⟩
instance : Det2 oShl := ⟨by (intro x y; cases x <;> cases y <;> first | exact has_val _ | exact has_false | exact has_if (has_val _))⟩
instance : Det2 iAdd := ⟨by (intro x y; cases x <;> cases y <;> first | exact has_val _ | exact has_false | exact has_if (has_val _))⟩
instance {p : Int → Int → Bool} : Det2 (oCmp p) := ⟨by (intro x y; cases x <;> cases y <;> first | exact has_val _ | exact has_false | exact has_if (has_val _))⟩
instance {f : D → D → (Bool → Prop) → Prop} [k : Det2 f] : Det2 (cB f) := ⟨fun x y => has_bind (T := fun Q (_ : DX) => f x y Q) (k.h x y) fun b => has_val _⟩
instance : Det2 bEq := ⟨by (intro x y; cases x <;> cases y <;> first | exact has_val _ | exact has_false | exact has_if (has_val _))⟩
instance : Det2 bNe := ⟨by (intro x y; cases x <;> cases y <;> first | exact has_val _ | exact has_false | exact has_if (has_val _))⟩
instance : Det2 oIsB := ⟨by (intro x y; cases x <;> cases y <;> first | exact has_val _ | exact has_false | exact has_if (has_val _))⟩
instance : Det2 oNotB := ⟨by (intro x y; cases x <;> cases y <;> first | exact has_val _ | exact has_false | exact has_if (has_val _))⟩
instance : Det2 oIx := ⟨fun x y => by
  cases x <;> cases y <;> first | exact has_bind (has_optD _) fun d => has_val _ | exact has_false⟩
instance : Det2 oDIx := ⟨fun x y => by
  cases x <;> first | exact has_if (has_bind (has_optD _) fun d => has_val _) | exact has_bind (has_optD _) fun d => has_val _ | exact has_false⟩
instance : Det2 bIn := ⟨fun x y => by cases y <;> first | exact has_if (has_val _) | (cases x <;> exact has_false)⟩
instance : Det2 bNotIn := ⟨fun x y => by cases y <;> first | exact has_if (has_val _) | (cases x <;> exact has_false)⟩
instance : Det2 bDIn := ⟨fun x y => by cases y <;> first | exact has_if (has_val _) | (cases x <;> exact has_false)⟩
instance : Det2 bDNotIn := ⟨fun x y => by cases y <;> first | exact has_if (has_val _) | (cases x <;> exact has_false)⟩
instance : Det2 bLtT := ⟨by (intro x y; cases x <;> cases y <;> first | exact has_val _ | exact has_false | exact has_if (has_val _))⟩
instance : Det1 oNeg := ⟨by (intro x; cases x <;> first | exact has_val _ | exact has_false | exact has_if (has_val _))⟩
instance : Det1 oIsN := ⟨fun x => has_val _⟩
instance : Det1 oNotN := ⟨fun x => has_val _⟩
instance : Det1 oBits := ⟨by (intro x; cases x <;> first | exact has_val _ | exact has_false | exact has_if (has_val _))⟩
instance {p : D → Bool} : Det1 (oIsi p) := ⟨fun x => has_if (has_val _)⟩
instance {p : Nat → Bool} : Det1 (oIsX p) := ⟨by (intro x; cases x <;> first | exact has_val _ | exact has_false | exact has_if (has_val _))⟩
instance {cs : List Nat} {i : Nat} : Det1 (oXf cs i) := ⟨fun x => by cases x <;> first | exact has_if (has_bind (has_optD _) fun d => has_val _) | exact has_false⟩
theorem hb_optD {o : Option D} {Q : DK} (h : optD o fun d => Q (.val d)) : ∃ d, ∀ Q' : DK, (optD o fun d => Q' (.val d)) ↔ Q' d := by
  cases o with
  | none => exact h.elim
  | some d => exact ⟨.val d, fun _ => Iff.rfl⟩
instance {i : Nat} : Det1 (oFld i) := ⟨fun x => has_of fun Q X z => by
  unfold oFld at z
  split at z <;> first | exact z.elim | (obtain ⟨d, hd⟩ := hb_optD z; exact ⟨d, fun Q' _ => hd Q'⟩)⟩
instance : Det1 oGround := ⟨fun x => has_of fun Q X z => by
  unfold oGround at z
  split at z <;> first | exact z.elim | (obtain ⟨d, hd⟩ := hb_optD z; exact ⟨d, fun Q' _ => hd Q'⟩)⟩
instance : Det1 oWays := ⟨fun x => has_of fun Q X z => by
  unfold oWays at z
  split at z <;> first | exact z.elim | (obtain ⟨d, hd⟩ := hb_optD z; exact ⟨d, fun Q' _ => hd Q'⟩)⟩
instance {j : Nat} : Det1 (oIsO j) := ⟨fun x => has_of fun Q X z => by
  unfold oIsO at z
  split at z <;> first | exact z.elim | exact ⟨_, fun _ _ => Iff.rfl⟩⟩
instance : Det1 fLen := ⟨by (intro x; refine has_of fun Q X z => ?_; unfold fLen at z; split at z <;> first | exact z.elim | exact ⟨_, fun _ _ => Iff.rfl⟩ | exact ⟨_, fun _ _ => ⟨fun y => y.2, fun q => ⟨z.1, q⟩⟩⟩ | exact ⟨_, fun _ _ => ⟨fun y => y.2.2, fun q => ⟨z.1, z.2.1, q⟩⟩⟩)⟩
instance : Det1 fAbs := ⟨by (intro x; refine has_of fun Q X z => ?_; unfold fAbs at z; split at z <;> first | exact z.elim | exact ⟨_, fun _ _ => Iff.rfl⟩ | exact ⟨_, fun _ _ => ⟨fun y => y.2, fun q => ⟨z.1, q⟩⟩⟩ | exact ⟨_, fun _ _ => ⟨fun y => y.2.2, fun q => ⟨z.1, z.2.1, q⟩⟩⟩)⟩
instance : Det1 fMax := ⟨by (intro x; refine has_of fun Q X z => ?_; unfold fMax at z; split at z <;> first | exact z.elim | exact ⟨_, fun _ _ => Iff.rfl⟩ | exact ⟨_, fun _ _ => ⟨fun y => y.2, fun q => ⟨z.1, q⟩⟩⟩ | exact ⟨_, fun _ _ => ⟨fun y => y.2.2, fun q => ⟨z.1, z.2.1, q⟩⟩⟩)⟩
instance : Det1 fMin := ⟨by (intro x; refine has_of fun Q X z => ?_; unfold fMin at z; split at z <;> first | exact z.elim | exact ⟨_, fun _ _ => Iff.rfl⟩ | exact ⟨_, fun _ _ => ⟨fun y => y.2, fun q => ⟨z.1, q⟩⟩⟩ | exact ⟨_, fun _ _ => ⟨fun y => y.2.2, fun q => ⟨z.1, z.2.1, q⟩⟩⟩)⟩
instance : Det1 fInt := ⟨by (intro x; refine has_of fun Q X z => ?_; unfold fInt at z; split at z <;> first | exact z.elim | exact ⟨_, fun _ _ => Iff.rfl⟩ | exact ⟨_, fun _ _ => ⟨fun y => y.2, fun q => ⟨z.1, q⟩⟩⟩ | exact ⟨_, fun _ _ => ⟨fun y => y.2.2, fun q => ⟨z.1, z.2.1, q⟩⟩⟩)⟩
instance : Det1 fDivmod := ⟨by (intro x; refine has_of fun Q X z => ?_; unfold fDivmod at z; split at z <;> first | exact z.elim | exact ⟨_, fun _ _ => Iff.rfl⟩ | exact ⟨_, fun _ _ => ⟨fun y => y.2, fun q => ⟨z.1, q⟩⟩⟩ | exact ⟨_, fun _ _ => ⟨fun y => y.2.2, fun q => ⟨z.1, z.2.1, q⟩⟩⟩)⟩
instance : Det1 fList := ⟨by (intro x; refine has_of fun Q X z => ?_; unfold fList at z; split at z <;> first | exact z.elim | exact ⟨_, fun _ _ => Iff.rfl⟩ | exact ⟨_, fun _ _ => ⟨fun y => y.2, fun q => ⟨z.1, q⟩⟩⟩ | exact ⟨_, fun _ _ => ⟨fun y => y.2.2, fun q => ⟨z.1, z.2.1, q⟩⟩⟩)⟩
instance : Det1 fListD := ⟨by (intro x; refine has_of fun Q X z => ?_; unfold fListD at z; split at z <;> first | exact z.elim | exact ⟨_, fun _ _ => Iff.rfl⟩ | exact ⟨_, fun _ _ => ⟨fun y => y.2, fun q => ⟨z.1, q⟩⟩⟩ | exact ⟨_, fun _ _ => ⟨fun y => y.2.2, fun q => ⟨z.1, z.2.1, q⟩⟩⟩)⟩
instance : Det1 fSum := ⟨by (intro x; refine has_of fun Q X z => ?_; unfold fSum at z; split at z <;> first | exact z.elim | exact ⟨_, fun _ _ => Iff.rfl⟩ | exact ⟨_, fun _ _ => ⟨fun y => y.2, fun q => ⟨z.1, q⟩⟩⟩ | exact ⟨_, fun _ _ => ⟨fun y => y.2.2, fun q => ⟨z.1, z.2.1, q⟩⟩⟩)⟩
instance : Det1 fMinT := ⟨by (intro x; refine has_of fun Q X z => ?_; unfold fMinT at z; split at z <;> first | exact z.elim | exact ⟨_, fun _ _ => Iff.rfl⟩ | exact ⟨_, fun _ _ => ⟨fun y => y.2, fun q => ⟨z.1, q⟩⟩⟩ | exact ⟨_, fun _ _ => ⟨fun y => y.2.2, fun q => ⟨z.1, z.2.1, q⟩⟩⟩)⟩
instance : Det1 fSortT := ⟨by (intro x; refine has_of fun Q X z => ?_; unfold fSortT at z; split at z <;> first | exact z.elim | exact ⟨_, fun _ _ => Iff.rfl⟩ | exact ⟨_, fun _ _ => ⟨fun y => y.2, fun q => ⟨z.1, q⟩⟩⟩ | exact ⟨_, fun _ _ => ⟨fun y => y.2.2, fun q => ⟨z.1, z.2.1, q⟩⟩⟩)⟩
instance : Det1 fRange := ⟨by (intro x; refine has_of fun Q X z => ?_; unfold fRange at z; split at z <;> first | exact z.elim | exact ⟨_, fun _ _ => Iff.rfl⟩ | exact ⟨_, fun _ _ => ⟨fun y => y.2, fun q => ⟨z.1, q⟩⟩⟩ | exact ⟨_, fun _ _ => ⟨fun y => y.2.2, fun q => ⟨z.1, z.2.1, q⟩⟩⟩)⟩
instance {c : Nat} {f g : DF} [a : DetF f] [b : DetF g] : DetF (mkObj c f g) := ⟨fun ds => by
  match ds with
  | [] => exact has_false
  | [d] => exact has_bind (T := f [d]) (a.h _) fun s => has_bind (has_use s) fun m => has_bind (b.h _) fun s' => has_bind (has_use s') fun g => has_val _
  | _ :: _ :: _ => exact has_false⟩
theorem meth_or (f g : DF) (o : D) : (∀ k, methOf f g o k ↔ k f) ∨ (∀ k, methOf f g o k ↔ k g) ∨ ∀ k, ¬ methOf f g o k := by
  classical
  by_cases c : ∃ k, methOf f g o k
  · obtain ⟨k, z⟩ := c
    unfold methOf at z
    split at z
    · exact .inl fun _ => Iff.rfl
    · exact .inr (.inl fun _ => Iff.rfl)
    · exact z.elim
  · exact .inr (.inr fun k z => c ⟨k, z⟩)
instance {f g : DF} [a : DetF f] [b : DetF g] {to : DE} {ta : DA} [c : DetG to] [d : DetG ta] : DetG (dMeth f g to ta) := ⟨fun r => has_bind (T := to r) (c.h r) fun s => has_bind (has_use s) fun o => by
  have m : Has fun Q X => methOf f g o fun h => ta r (fun xs => h (o :: xs) Q X) X := by
    rcases meth_or f g o with h | h | h
    · obtain ⟨u, hu⟩ := has_bind (T := ta r) (g := fun xs => f (o :: xs)) (d.h r) fun xs => a.h _
      exact ⟨u, fun Q X => (h _).trans (hu Q X)⟩
    · obtain ⟨u, hu⟩ := has_bind (T := ta r) (g := fun xs => g (o :: xs)) (d.h r) fun xs => b.h _
      exact ⟨u, fun Q X => (h _).trans (hu Q X)⟩
    · exact has_no fun Q X => h _
  exact m⟩
inductive OutS where
  | no | nx (r : Env) | rt (s : Sl) | bk (r : Env) | ct (r : Env) | xc (e : Exn) (r : Env)
def OutS.sat : OutS → (Env → Prop) → DK → (Env → Prop) → (Env → Prop) → (Exn → Env → Prop) → Prop
  | .no, _, _, _, _, _ => False
  | .nx r, n, _, _, _, _ => n r
  | .rt s, _, q, _, _, _ => q s
  | .bk r, _, _, b, _, _ => b r
  | .ct r, _, _, _, c, _ => c r
  | .xc e r, _, _, _, _, x => x e r
abbrev HasS (T : (Env → Prop) → DK → (Env → Prop) → (Env → Prop) → (Exn → Env → Prop) → Prop) : Prop := ∃ o : OutS, ∀ n q b c x, T n q b c x ↔ o.sat n q b c x
class DetS (t : DS) : Prop where
  h : ∀ r, HasS fun n q b c x => t n q b c x r
theorem hs_no : HasS fun _ _ _ _ _ => False := ⟨.no, fun _ _ _ _ _ => Iff.rfl⟩
theorem hs_nx (r : Env) : HasS fun n _ _ _ _ => n r := ⟨.nx r, fun _ _ _ _ _ => Iff.rfl⟩
theorem hs_if {P : Prop} {T} (h : HasS T) : HasS fun n q b c x => P ∧ T n q b c x := by
  classical
  by_cases p : P
  · obtain ⟨o, h⟩ := h
    exact ⟨o, fun n q b c x => ⟨fun z => (h ..).mp z.2, fun z => ⟨p, (h ..).mpr z⟩⟩⟩
  · exact ⟨.no, fun n q b c x => ⟨fun z => p z.1, fun z => z.elim⟩⟩
theorem hs_bind {β : Type} {T : (β → Prop) → DX → Prop} {g : β → (Env → Prop) → DK → (Env → Prop) → (Env → Prop) → (Exn → Env → Prop) → Prop} (r : Env) (h : Has T) (hg : ∀ b, HasS (g b)) : HasS fun n q b c x => T (fun y => g y n q b c x) fun e => x e r := by
  obtain ⟨o, ho⟩ := h
  cases o with
  | no => exact ⟨.no, fun n q b c x => ho _ _⟩
  | val y => obtain ⟨o', h'⟩ := hg y; exact ⟨o', fun n q b c x => (ho _ _).trans (h' n q b c x)⟩
  | exc e => exact ⟨.xc e r, fun n q b c x => ho _ _⟩
/-- .. of something that lets nothing out -/
theorem hs_bindV {β : Type} {T : (β → Prop) → Prop} {g : β → (Env → Prop) → DK → (Env → Prop) → (Env → Prop) → (Exn → Env → Prop) → Prop} (h : Has fun Q (_ : DX) => T Q) (hg : ∀ b, HasS (g b)) : HasS fun n q b c x => T (fun y => g y n q b c x) := by
  obtain ⟨o, ho⟩ := h
  cases o with
  | no => exact ⟨.no, fun n q b c x => ho _ fun _ => False⟩
  | val y => obtain ⟨o', h'⟩ := hg y; exact ⟨o', fun n q b c x => (ho _ fun _ => False).trans (h' n q b c x)⟩
  | exc e => exact ⟨.no, fun n q b c x => ho _ fun _ => False⟩
theorem hs_two {k : Bool} {A B} (ha : HasS A) (hb : HasS B) : HasS fun n q b c x => two k (A n q b c x) (B n q b c x) := by cases k <;> assumption
section
variable {ta tb tk tv te tc : DE} {ts : DA} {t u : DS}
instance : DetS dNext := ⟨fun r => hs_nx r⟩
instance : DetS dPass := ⟨fun r => hs_nx r⟩
instance : DetS dNever := ⟨fun r => hs_no⟩
instance : DetS dBreak := ⟨fun r => ⟨.bk r, fun _ _ _ _ _ => Iff.rfl⟩⟩
instance : DetS dCont := ⟨fun r => ⟨.ct r, fun _ _ _ _ _ => Iff.rfl⟩⟩
instance [a : DetS t] [b : DetS u] : DetS (dSeq t u) := ⟨fun r => by
  obtain ⟨o, h⟩ := a.h r
  cases o with
  | nx r' => obtain ⟨o', h'⟩ := b.h r'; exact ⟨o', fun n q b c x => (h _ q b c x).trans (h' n q b c x)⟩
  | no => exact ⟨.no, fun n q b c x => h _ q b c x⟩
  | rt s => exact ⟨.rt s, fun n q b c x => h _ q b c x⟩
  | bk s => exact ⟨.bk s, fun n q b c x => h _ q b c x⟩
  | ct s => exact ⟨.ct s, fun n q b c x => h _ q b c x⟩
  | xc e s => exact ⟨.xc e s, fun n q b c x => h _ q b c x⟩⟩
instance {i : Nat} [a : DetG te] : DetS (dSet i te) := ⟨fun r => hs_bind r (a.h r) fun s => hs_nx _⟩
instance {i : Nat} [a : DetG te] : DetS (dSetV i te) := ⟨fun r => hs_bind r (a.h r) fun s => hs_nx _⟩
instance {is : List Nat} [a : DetG te] : DetS (dUnp is te) := ⟨fun r => hs_bind r (a.h r) fun s => hs_bindV (has_use s) fun d => hs_bindV (has_tupOf _ d) fun l => hs_nx _⟩
instance {is : List Nat} [a : DetG te] : DetS (dUnpL is te) := ⟨fun r => hs_bind r (a.h r) fun s => hs_bindV (has_use s) fun d => hs_bindV (has_lstOf _ d) fun l => hs_nx _⟩
instance {is : List Nat} [a : DetG ts] : DetS (dPar is ts) := ⟨fun r => hs_bind r (a.h r) fun ds => hs_nx _⟩
instance [a : DetG te] : DetS (dDrop te) := ⟨fun r => hs_bind r (a.h r) fun _ => hs_nx _⟩
theorem hs_rt (s : Sl) : HasS fun _ q _ _ _ => q s := ⟨.rt s, fun _ _ _ _ _ => Iff.rfl⟩
instance [a : DetG te] : DetS (dRet te) := ⟨fun r => hs_bind r (a.h r) fun s => hs_rt s⟩
instance {i : Nat} : DetS (dRetOwn i) := ⟨fun r => hs_bindV (has_given _) fun s => hs_rt s⟩
instance : DetS dRetN := ⟨fun r => hs_rt _⟩
instance [c : DetG tc] [a : DetS t] [b : DetS u] : DetS (dIf tc t u) := ⟨fun r => hs_bind r (c.h r) fun s => hs_bindV (has_bool s) fun k => hs_two (a.h r) (b.h r)⟩
instance {i : Nat} [a : DetS t] : DetS (dFrz i t) := ⟨fun r => a.h _⟩
instance {i : Nat} [a : DetG te] : DetS (dApp i te) := ⟨fun r => hs_bindV (has_owned _) fun l => hs_bind r (a.h r) fun s => hs_bindV (has_use s) fun d => hs_if (hs_nx _)⟩
instance {i : Nat} [a : DetG tk] [b : DetG tv] : DetS (dLPut i tk tv) := ⟨fun r => hs_bindV (has_owned _) fun l => hs_bind r (b.h r) fun s => hs_bindV (has_use s) fun v => hs_bind r (a.h r) fun s' => hs_bindV (has_use s') fun y => hs_bindV (has_asInt y) fun j => hs_bindV (has_optN _) fun m => hs_nx _⟩
theorem has_ownedD (s : Sl) : Has fun (k : List D × List D → Prop) (_ : DX) => s.ownedD fun ks vs => k (ks, vs) := by cases s <;> first | exact has_val (β := List D × List D) (_, _) | exact has_false
instance {i : Nat} [a : DetG tk] [b : DetG tv] : DetS (dPut i tk tv) := ⟨fun r => hs_bindV (T := fun k : List D × List D → Prop => (slotAt r i).ownedD fun ks vs => k (ks, vs)) (g := fun p n q b c x => tv r (fun s => s.use fun v => tk r (fun s' => s'.use fun y => (y.keyed = true ∧ p.1.length < 16777216) ∧ n (r.set i (.ownd (putKs y p.1) (putVs y v p.1 p.2)))) fun e => x e r) fun e => x e r) (has_ownedD _) fun p => hs_bind r (b.h r) fun s => hs_bindV (has_use s) fun v => hs_bind r (a.h r) fun s' => hs_bindV (has_use s') fun y => hs_if (hs_nx _)⟩
instance {i : Nat} : DetS (dClear i) := ⟨fun r => hs_bindV (has_owned _) fun l => hs_nx _⟩
instance {i : Nat} {f : D → D → DK → Prop} [k : Det2 f] [a : DetG te] : DetS (dAug i f te) := ⟨fun r => hs_bindV (has_datum _) fun d => hs_bind r (a.h r) fun s => hs_bindV (has_use s) fun y => hs_bindV (k.h d y) fun s => hs_nx _⟩
instance {c : Nat} [a : DetG ts] : DetS (dRaise c ts) := ⟨fun r => hs_bind r (a.h r) fun xs => ⟨.xc _ _, fun _ _ _ _ _ => Iff.rfl⟩⟩
instance {i j : Nat} [a : DetS t] : DetS (dTry i j t) := ⟨fun r => by
  classical
  obtain ⟨o, h⟩ := a.h r
  cases o with
  | nx r' => exact ⟨.nx r', fun n q b c x => h n q b c _⟩
  | no => exact ⟨.no, fun n q b c x => h n q b c _⟩
  | rt s => exact ⟨.rt s, fun n q b c x => h n q b c _⟩
  | bk s => exact ⟨.bk s, fun n q b c x => h n q b c _⟩
  | ct s => exact ⟨.ct s, fun n q b c x => h n q b c _⟩
  | xc e s =>
    by_cases he : e.cls < 11
    · exact ⟨.nx _, fun n q b c x => (h n q b c _).trans ⟨fun z => z.2, fun z => ⟨he, z⟩⟩⟩
    · exact ⟨.no, fun n q b c x => (h n q b c _).trans ⟨fun z => he z.1, fun z => z.elim⟩⟩⟩
/-- a turn of a loop over items -/
theorem hs_turn {T : (Env → Prop) → DK → (Env → Prop) → (Env → Prop) → (Exn → Env → Prop) → Prop} (h : HasS T) {R : Env → (Env → Prop) → DK → (Exn → Env → Prop) → Prop} (hr : ∀ r, HasS fun n q _ _ x => R r n q x) : HasS fun n q _ _ x => T (fun r' => R r' n q x) q n (fun r' => R r' n q x) x := by
  obtain ⟨o, h⟩ := h
  cases o with
  | nx r' => obtain ⟨o', h'⟩ := hr r'; exact ⟨o', fun n q b c x => (h _ q n _ x).trans (h' n q b c x)⟩
  | ct r' => obtain ⟨o', h'⟩ := hr r'; exact ⟨o', fun n q b c x => (h _ q n _ x).trans (h' n q b c x)⟩
  | no => exact ⟨.no, fun n q b c x => h _ q n _ x⟩
  | rt s => exact ⟨.rt s, fun n q b c x => h _ q n _ x⟩
  | bk s => exact ⟨.nx s, fun n q b c x => h _ q n _ x⟩
  | xc e s => exact ⟨.xc e s, fun n q b c x => h _ q n _ x⟩
theorem hs_every {i : Nat} [a : DetS t] : ∀ (l : List D) (r : Env), HasS fun n q _ _ x => dEvery i t n q x l r
  | [], r => hs_nx r
  | d :: l, r => hs_turn (a.h (r.set i (.val d))) fun r' => hs_every l r'
instance {i : Nat} [w : DetG ta] [a : DetS t] : DetS (dFor i ta t) := ⟨fun r => hs_bind r (w.h r) fun s => hs_bindV (has_use s) fun d => hs_bindV (has_itemsOf d) fun l => hs_every l r⟩
theorem hs_everyU {is : List Nat} [a : DetS t] : ∀ (l : List D) (r : Env), HasS fun n q _ _ x => dEveryU is t n q x l r
  | [], r => hs_nx r
  | d :: l, r => hs_bindV (has_tupOf _ d) fun xs => hs_turn (a.h (setAll is xs r)) fun r' => hs_everyU l r'
instance {is : List Nat} [w : DetG ta] [a : DetS t] : DetS (dForU is ta t) := ⟨fun r => hs_bind r (w.h r) fun s => hs_bindV (has_use s) fun d => hs_bindV (has_itemsOf d) fun l => hs_everyU l r⟩
theorem hs_everyUL {is : List Nat} [a : DetS t] : ∀ (l : List D) (r : Env), HasS fun n q _ _ x => dEveryUL is t n q x l r
  | [], r => hs_nx r
  | d :: l, r => hs_bindV (has_lstOf _ d) fun xs => hs_turn (a.h (setAll is xs r)) fun r' => hs_everyUL l r'
instance {is : List Nat} [w : DetG ta] [a : DetS t] : DetS (dForUL is ta t) := ⟨fun r => hs_bind r (w.h r) fun s => hs_bindV (has_use s) fun d => hs_bindV (has_itemsOf d) fun l => hs_everyUL l r⟩
abbrev WOk (tc : DE) (tb : DS) (n : Env → Prop) (q : DK) (x : Exn → Env → Prop) (W : Nat → Env → Prop) : Prop := ∀ m r, W m r → tc r (fun s => s.bool fun k => two k (tb (fun r' => ∃ m', m' < m ∧ W m' r') q n (fun r' => ∃ m', m' < m ∧ W m' r') x r) (n r)) fun e => x e r
theorem hs_wh [a : DetG tc] [bb : DetS t] : ∀ (m : Nat) (r : Env), (∃ W n q x, WOk tc t n q x W ∧ W m r) → HasS fun n q b c x => dWhile tc t n q b c x r := by
  intro m
  induction m using Nat.strongRecOn with
  | ind m ih =>
    rintro r ⟨W, n0, q0, x0, hW, hm⟩
    -- one step told
    have step : ∀ {n q x} {W : Nat → Env → Prop} {m : Nat}, WOk tc t n q x W → W m r → tc r (fun s => s.bool fun k => two k (t (fun r' => ∃ m', m' < m ∧ W m' r') q n (fun r' => ∃ m', m' < m ∧ W m' r') x r) (n r)) fun e => x e r := fun h1 h2 => h1 _ r h2
    have one : ∀ {n q x}, (tc r (fun s => s.bool fun k => two k (t (fun _ => False) q n (fun _ => False) x r) (n r)) fun e => x e r) → dWhile tc t n q (fun _ => False) (fun _ => False) x r := fun {n q x} h => by
      refine ⟨fun m' r' => m' = 0 ∧ r' = r, ⟨0, rfl, rfl⟩, ?_⟩
      rintro m' r' ⟨e1, e2⟩
      subst e1 e2
      obtain ⟨o, ho⟩ := a.h r'
      rw [ho] at h ⊢
      cases o with
      | no => exact h
      | exc e => exact h
      | val s =>
        obtain ⟨o2, h2'⟩ := has_bool s
        have h2 : ∀ k : Bool → Prop, s.bool k ↔ o2.sat k fun _ => False := fun k => h2' k _
        have h : s.bool fun k => two k (t (fun _ => False) q n (fun _ => False) x r') (n r') := h
        show s.bool _
        rw [h2] at h ⊢
        cases o2 with
        | no => exact h
        | exc e => exact h
        | val k =>
          cases k with
          | false => exact h
          | true =>
            have h : t (fun _ => False) q n (fun _ => False) x r' := h
            show t _ q n _ x r'
            obtain ⟨o3, h3'⟩ := bb.h r'
            have h3 : ∀ n q b c x, t n q b c x r' ↔ o3.sat n q b c x := h3'
            rw [h3] at h ⊢
            cases o3 <;> first | exact h | exact h.elim
    have h0 := step hW hm
    obtain ⟨o, ho⟩ := a.h r
    rw [ho] at h0
    cases o with
    | no => exact h0.elim
    | exc e =>
      refine ⟨.xc e r, fun n q b c x => ⟨fun ⟨W, ⟨m, h1⟩, h2⟩ => ?_, fun z => one ?_⟩⟩
      · exact (ho _ _).mp (step h2 h1)
      · exact (ho _ _).mpr z
    | val s =>
      have h0 : s.bool fun k => two k (t (fun r' => ∃ m', m' < m ∧ W m' r') q0 n0 (fun r' => ∃ m', m' < m ∧ W m' r') x0 r) (n0 r) := h0
      obtain ⟨o2, h2'⟩ := has_bool s
      have h2 : ∀ k : Bool → Prop, s.bool k ↔ o2.sat k fun _ => False := fun k => h2' k _
      rw [h2] at h0
      cases o2 with
      | no => exact h0.elim
      | exc e => exact h0.elim
      | val k =>
        have at_ : ∀ {P : Bool → Prop} {X : DX}, tc r (fun s => s.bool P) X ↔ P k := fun {P X} => (ho _ _).trans (h2 P)
        cases k with
        | false =>
          refine ⟨.nx r, fun n q b c x => ⟨fun ⟨W, ⟨m, h1⟩, h2⟩ => ?_, fun z => one ?_⟩⟩
          · exact at_.mp (step h2 h1)
          · exact at_.mpr z
        | true =>
          have h0 : t (fun r' => ∃ m', m' < m ∧ W m' r') q0 n0 (fun r' => ∃ m', m' < m ∧ W m' r') x0 r := h0
          obtain ⟨o3, h3'⟩ := bb.h r
          have h3 : ∀ n q b c x, t n q b c x r ↔ o3.sat n q b c x := h3'
          rw [h3] at h0
          have simple : ∀ {o' : OutS}, o3 = o' → (∀ n q x (A B : Env → Prop), o'.sat A q n B x ↔ o'.sat (fun _ => False) q n (fun _ => False) x) → HasS fun n q b c x => dWhile tc t n q b c x r := fun {o'} e hs => by
            subst e
            refine ⟨match o3 with | .bk r' => .nx r' | .rt s => .rt s | .xc e r' => .xc e r' | _ => .no, fun n q b c x => ⟨fun ⟨W, ⟨m, h1⟩, h2⟩ => ?_, fun z => one ?_⟩⟩
            · have z := (h3 ..).mp (show t _ q n _ x r from at_.mp (step h2 h1))
              rw [hs] at z
              cases o3 <;> first | exact z | exact z.elim
            · refine at_.mpr (show t _ q n _ x r from (h3 ..).mpr ?_)
              cases o3 <;> first | exact z | exact z.elim
          have goes : ∀ {r' : Env} (m' : Nat), m' < m → W m' r' → (∀ n q x (A : Env → Prop), t A q n A x r ↔ A r') → HasS fun n q b c x => dWhile tc t n q b c x r := fun {r'} m' lt w eq => by
            obtain ⟨o', h'⟩ := ih m' lt r' ⟨W, n0, q0, x0, hW, w⟩
            refine ⟨o', fun n q b c x => Iff.trans ⟨fun ⟨W, ⟨m, h1⟩, h2⟩ => ?_, fun ⟨W, ⟨m, h1⟩, h2⟩ => ?_⟩ (h' n q b c x)⟩
            · have z := (eq n q x _).mp (show t _ q n _ x r from at_.mp (step h2 h1))
              obtain ⟨m'', _, z⟩ := z
              exact ⟨W, ⟨m'', z⟩, h2⟩
            · refine ⟨fun k r0 => (k = m + 1 ∧ r0 = r) ∨ W k r0, ⟨m + 1, .inl ⟨rfl, rfl⟩⟩, ?_⟩
              rintro k r0 (⟨rfl, rfl⟩ | w)
              · exact at_.mpr (show t _ q n _ x r0 from (eq n q x _).mpr ⟨m, Nat.lt_succ_self m, .inr h1⟩)
              · have z := h2 k r0 w
                -- the same with more
                obtain ⟨o, ho⟩ := a.h r0
                rw [ho] at z ⊢
                cases o with
                | no => exact z
                | exc e => exact z
                | val s =>
                  obtain ⟨o2, h2'⟩ := has_bool s
                  have h2 : ∀ k : Bool → Prop, s.bool k ↔ o2.sat k fun _ => False := fun k => h2' k _
                  have z : s.bool fun k' => two k' (t (fun r' => ∃ m', m' < k ∧ W m' r') q n (fun r' => ∃ m', m' < k ∧ W m' r') x r0) (n r0) := z
                  show s.bool _
                  rw [h2] at z ⊢
                  cases o2 with
                  | no => exact z
                  | exc e => exact z
                  | val k' =>
                    cases k' with
                    | false => exact z
                    | true =>
                      have z : t (fun r' => ∃ m', m' < k ∧ W m' r') q n (fun r' => ∃ m', m' < k ∧ W m' r') x r0 := z
                      show t _ q n _ x r0
                      obtain ⟨o3, h3'⟩ := bb.h r0
                      have h3 : ∀ n q b c x, t n q b c x r0 ↔ o3.sat n q b c x := h3'
                      rw [h3] at z ⊢
                      cases o3 with
                      | nx r' => obtain ⟨m', e1, e2⟩ := z; exact ⟨m', e1, .inr e2⟩
                      | ct r' => obtain ⟨m', e1, e2⟩ := z; exact ⟨m', e1, .inr e2⟩
                      | no => exact z
                      | rt s => exact z
                      | bk s => exact z
                      | xc e s => exact z
          cases o3 with
          | no => exact h0.elim
          | nx r' => obtain ⟨m', e1, e2⟩ := h0; exact goes m' e1 e2 fun n q x A => h3 ..
          | ct r' => obtain ⟨m', e1, e2⟩ := h0; exact goes m' e1 e2 fun n q x A => h3 ..
          | rt s => exact simple rfl fun _ _ _ _ _ => Iff.rfl
          | bk s => exact simple rfl fun _ _ _ _ _ => Iff.rfl
          | xc e s => exact simple rfl fun _ _ _ _ _ => Iff.rfl
instance [a : DetG tc] [b : DetS t] : DetS (dWhile tc t) := ⟨fun r => by
  classical
  by_cases h : ∃ m W n q x, WOk tc t n q x W ∧ W m r
  · obtain ⟨m, W, n, q, x, h1, h2⟩ := h
    exact hs_wh m r ⟨W, n, q, x, h1, h2⟩
  · refine ⟨.no, fun n q b c x => ⟨fun ⟨W, ⟨m, h1⟩, h2⟩ => h ⟨m, W, n, q, x, h2, h1⟩, fun z => z.elim⟩⟩⟩
instance {np n : Nat} [a : DetS t] : DetF (dFun np n t) := ⟨fun ds => by
  classical
  by_cases hl : ds.length = np
  · obtain ⟨o, h⟩ := a.h (ds.map Sl.val ++ List.replicate (n - np) .un)
    have key : ∀ Q X, dFun np n t ds Q X ↔ o.sat (fun _ => Q (.val .non)) Q (fun _ => False) (fun _ => False) (fun x _ => X x) := fun Q X => ⟨fun z => (h ..).mp z.go, fun z => ⟨hl, (h ..).mpr z⟩⟩
    cases o with
    | no => exact ⟨.no, key⟩
    | nx r => exact ⟨.val (.val .non), key⟩
    | rt s => exact ⟨.val s, key⟩
    | bk r => exact ⟨.no, key⟩
    | ct r => exact ⟨.no, key⟩
    | xc e r => exact ⟨.exc e, key⟩
  · exact has_no fun Q X z => hl z.len⟩
end
theorem tells {f : DF} [a : DetF f] {ds : List D} {P : Sl → Prop} (h : f ds P fun _ => False) : ∃ s, P s ∧ ∀ {Q : DK} {X : DX}, Q s → f ds Q X := by
  obtain ⟨o, ho⟩ := a.h ds
  have h1 := (ho _ _).mp h
  cases o with
  | no => exact h1.elim
  | exc e => exact h1.elim
  | val s => exact ⟨s, h1, fun {Q X} q => (ho Q X).mpr q⟩
/-- a method by its object's class -/
def methF (f g : DF) : DF := fun xs Q X => match xs with
  | o :: l => methOf f g o fun h => h (o :: l) Q X
  | [] => False
instance {f g : DF} [a : DetF f] [b : DetF g] : DetF (methF f g) := ⟨fun xs => by
  cases xs with
  | nil => exact has_false
  | cons o l =>
    rcases meth_or f g o with h | h | h
    · obtain ⟨u, hu⟩ := a.h (o :: l)
      exact ⟨u, fun Q X => (h _).trans (hu Q X)⟩
    · obtain ⟨u, hu⟩ := b.h (o :: l)
      exact ⟨u, fun Q X => (h _).trans (hu Q X)⟩
    · exact has_no fun Q X => h _⟩
end DL

/- DLu -/
namespace DL
/-- min(a, b) of tuples of whole numbers -/
def fMin2T : List D → DK → Prop
  | [x, y], Q => ([x, y].all D.ints) = true ∧ Q (.val (tupI (minL x.nums [y.nums])))
  | _, _ => False
instance : Det1 fMin2T := ⟨by (intro x; refine has_of fun Q X z => ?_; unfold fMin2T at z; split at z <;> first | exact z.elim | exact ⟨_, fun _ _ => ⟨fun y => y.2, fun q => ⟨z.1, q⟩⟩⟩)⟩
def keysD : D → (List D → Prop) → Prop
  | .dct ks _, k => ks.length ≤ 16777216 ∧ k ks
  | _, _ => False
/-- [e for x in d if t], d a dict -/
def dLcD (i : Nat) (w : DE) (tt te : DE) : DE := fun r Q X => w r (fun s => s.use fun d => keysD d fun l => dEach (oneLc i tt te r) l fun ys => Q (.own ys)) X
theorem has_keysD (d : D) : Has (fun (Q : List D → Prop) (_ : DX) => keysD d Q) := has_of fun Q X z => by
  unfold keysD at z
  split at z
  · exact ⟨_, fun _ _ => ⟨fun y => y.2, fun q => ⟨z.1, q⟩⟩⟩
  · exact z.elim
instance {i : Nat} [w : DetG ta] [a : DetG tb] [b : DetG tc] : DetG (dLcD i ta tb tc) := ⟨fun r => has_bind (T := ta r) (w.h r) fun s => has_bind (has_use s) fun d => has_bind (has_keysD d) fun l => has_bind (T := fun Q (_ : DX) => dEach (oneLc i tb tc r) l Q) (has_each (has_oneLc r) l) fun ys => has_val _⟩
theorem keys_d {ks us : List D} {k : List D → Prop} : keysD (.dct ks us) k = (ks.length ≤ 16777216 ∧ k ks) := rfl
end DL

/- DLv -/
namespace DL
open PySem PySem.Spec PySem.W PyProof.Rows L2
section
variable {prog : Program} {w : World} {A : Around} {E : Value → Shared → Prop} {s : Shared}
theorem min_two_data {a b : Value} {x y : PyData} {as : List Addr} {Q : Value → Shared → Prop} (hh : A.handled = none) (hr : ReadsAll s.heap [a, b] [x, y] as) (ha : AlikeAll [x, y]) (hu : A.units + 1 + PyData.depthAll [x, y] < cLine)
    (h : ∀ (i : Nat) v h' tk bs, [a, b][i]? = some v → Reads h' v (minD x [y]) bs → (∀ b o, s.heap.get? b = some o → h'.get? b = some o) → Q v { s with heap := h', toks := tk }) :
    wpAny (model prog w) A (call (.builtin "min") [a, b]) Q E s := by
  have hname : (toString "min" ++ toString ".loop" : String) = "min.loop" := by decide
  have hold : ∀ c o, s.heap.get? c = some o → (s.heap.push { cls := .type "tuple", data := .seq #[a, b] }).get? c = some o := fun c o e => Heap.get?_push_of_some _ e
  have hT : (s.heap.push { cls := .type "tuple", data := .seq #[a, b] }).IsTuple s.heap.objs.size #[a, b] := ⟨_, Heap.get?_push_size _ rfl, rfl, 0, rfl⟩
  refine call_function_tree F.kind_min F.plain_min F.entry_min (F.args_min2 _ _) ?_
  show wpAny _ A.in1 (Builtin.Builtins.bindParams "min" ["key", "default"] 0 ⟨[], []⟩ >>= _) _ _ s
  refine wpAny_bind (wpAny_of_eq (show Builtin.Builtins.bindParams "min" ["key", "default"] 0 ⟨[], []⟩ = pure [none, none] from rfl) ?_)
  show wpAny _ A.in1 (newTuple [a, b] >>= _) _ _ s
  refine wpAny_bind (wpAny_newObj_type ?_)
  have hr' : ReadsAll (s.heap.push { cls := .type "tuple", data := .seq #[a, b] }) (#[a, b] : Array Value).toList [x, y] as := ReadsAll.keeps hold hr
  refine wpAny_bind (iter_tupleW (s := { s with heap := s.heap.push { cls := .type "tuple", data := .seq #[a, b] } }) (A := A.in1) hh hT fun s₂ e W st hfp hw hk => ?_)
  refine wpAny_bind (wpAny_newObj_type ?_)
  have hSf : s₂.heap.objs.size ∉ [({ s with heap := s.heap.push { cls := .type "tuple", data := .seq #[a, b] } } : Shared).heap.objs.size, s.heap.objs.size] := fun hm => Nat.lt_irrefl _ (hfp _ hm)
  rw [hname]
  refine wpAny_pure ⟨plainId_quiet F.plain_min_loop _, codeAny_min_loop_firstH W _ hw _ (cmpIn_lt (s := { s with heap := s.heap.push { cls := .type "tuple", data := .seq #[a, b] } }) (A := A.in1) hr' ha (by show A.units + 1 + _ < _; exact hu)) s₂.heap.objs.size hSf (fresh_in hk) _ (by show 0 < 2; decide) (fun b o e => Heap.get?_push_of_some _ (hk b o e)) (W.frame 0 s₂ _ s₂.toks st (Nat.le_refl _) fun b _ o e => Heap.get?_push_of_some _ e) (Heap.get?_push_size _ rfl) fun v s' hP hm => ?_⟩
  have hm2 := Moved.drop_new (tk := s₂.toks) hm (Nat.le_refl _)
  obtain ⟨h', tk, rfl, hk'⟩ := moved_old e rfl hm2
  obtain ⟨bs, r, _, _, _⟩ := readsAll_atA hr' _ v hP
  have e2 := (argBest_fold dataLt PyData.none x [y] 1 (Nat.le_refl _)).2
  rw [show List.take 1 [y] = [y] from rfl] at e2
  have hP2 : ([a, b] : List Value)[argBest (fun i j => dataLt ([x, y].getD i PyData.none) ([x, y].getD j PyData.none)) 1]? = some v := by rw [← List.getElem?_toArray]; exact hP
  exact h _ v h' tk bs hP2 (reads_keeps hk' (by unfold minD; rw [← e2]; exact r)) fun b o z => hk' b o (hold b o z)
end
section
variable {X : Cx}
/-- min(a, b), two tuples of whole numbers -/
def rMin2P (K : PySem.W.Frag) : List V → Hp → VK → Prop := fun xs H Q => ∃ (v w : V) (n m : List Int) (Good : V → List Int → Prop), xs = [v, w] ∧ Good v n ∧ Good w m ∧ Tpl K H Good ∧ ∀ v, Good v (minL n [m]) → Q v H
theorem cr_min2P (hc : X.calm = true) (hu : X.A.units + 64 < cLine) : CallR X (.builtin "min") (rMin2P X.K) := by
  intro pins s σ H vs us Q I r h
  obtain ⟨a, b, n, m, Good, rfl, g1, g2, hg, q⟩ := h
  obtain ⟨va, vb, rfl, ra, rb⟩ : ∃ va vb, us = [va, vb] ∧ RelV a va ∧ RelV b vb := by
    cases r with
    | cons r1 r2 =>
      cases r2 with
      | cons r2 r3 =>
        cases r3
        exact ⟨_, _, rfl, r1, r2⟩
  have eR : PySem.W.EachIs (fun v ns => ∃ x, RelV x v ∧ Good x ns) [va, vb] [n, m] := .cons ⟨a, ra, g1⟩ (.cons ⟨b, rb, g2⟩ .nil)
  obtain ⟨as, hr⟩ := PySem.W.each_readsAll (h := s.heap) encT (eR.mono fun v ns ⟨x, rx, g⟩ => tpl_reads I hg rx g)
  have hr' : ReadsAll s.heap [va, vb] [encT n, encT m] as := hr
  refine min_two_data (I.ok.hd hc) hr' ⟨fun x hx y hy => ?_, fun x hx e => ?_⟩ ?_ fun i v h' tk bs hi hrd hk => ?_
  · obtain ⟨a, _, rfl⟩ := List.mem_map.mp (show x ∈ [n, m].map encT from hx)
    obtain ⟨b, _, rfl⟩ := List.mem_map.mp (show y ∈ [n, m].map encT from hy)
    exact alike_tups a b
  · obtain ⟨a, _, rfl⟩ := List.mem_map.mp (show x ∈ [n, m].map encT from hx)
    cases e
  · have := depth_tups [n, m]
    have e : PyData.depthAll [encT n, encT m] = PyData.depthAll ([n, m].map encT) := rfl
    rw [e]
    omega
  · have em := minD_enc [m] n
    rw [show [encT m] = [m].map encT from rfl, em] at hrd
    have hmem : v ∈ [va, vb] := List.mem_of_getElem? hi
    have hx : ∃ ns x, RelV x v ∧ Good x ns := by
      rcases List.mem_cons.mp hmem with rfl | hmem
      · exact ⟨n, a, ra, g1⟩
      · rcases List.mem_cons.mp hmem with rfl | hmem
        · exact ⟨m, b, rb, g2⟩
        · cases hmem
    obtain ⟨ns, x, rx, g⟩ := hx
    obtain ⟨as2, r2⟩ := tpl_reads I hg rx g
    have e := (Reads.unique (PyProof.Rows.Reads.keeps hk r2) _ _ hrd).1
    have e2 : ns = minL n [m] := ints_inj (PyData.tuple.inj e)
    subst e2
    exact ⟨x, H, I.kept (t' := tk) fun b u z => hk b u z, rx, q x g⟩
end
section
variable {G : Gx}
theorem lr_min2T : LRs G fMin2T (rMin2P G.K) := fun F H xs us Q QV e r q hq => by
  unfold fMin2T at q
  split at q
  · rename_i x y
    obtain ⟨v, w, rfl, h1, h2⟩ := two_rep r
    have hx := Bool.and_eq_true_iff.mp q.1
    have hy := (Bool.and_eq_true_iff.mp hx.2).1
    rw [ints_is hx.1] at h1
    rw [ints_is hy] at h2
    exact ⟨v, w, x.nums, y.nums, _, rfl, h1, h2, rep_tpl e, fun v hv => hq _ v F H (.val (.refl e) hv) q.2⟩
  · exact q.elim
end
section
variable {X : Cx} {G : Gx} {W : WX} {k : Nat} {a b c e : Expr} {es : List Expr} {ta tb tc te : DE} {ts : DA} {t u : DS} {pos p p2 p3 : Pos} {n i j l : Nat} {x y : Str}
theorem j_min2T (C : Cxt X G W k) (hm : X.mg "min" = none) (ha : JA X G W n (a :: [b]) ts) (hg : Gl X "min" := by rfl) (he : starEach (a :: [b]) X.env = (false, eval a X.env) :: starEach [b] X.env := by rfl) (hpl : (backTo pos (starEach [b] X.env)).any (·.1) = false := by rfl) : JE X G W (.Call (.Name "min" p) [a, b] [] pos) (dAs fMin2T ts) :=
  j_bi (cr_min2P C.calm C.units) (by rw [C.K]; exact lr_min2T) hg hm boot_min ha (he := he) (hpl := hpl)
end
section
variable {G : Gx}
/-- locked or let go -/
def Flip (F F' : Hp) : Prop := ∀ b u, F b = some u → F' b = some u ∨ (∃ o kvs, u = .dT kvs ∧ F' b = some (.frz o (.dT kvs))) ∨ ∃ o kvs, u = .frz o (.dT kvs) ∧ F' b = some (.dT kvs)
theorem Flip.tup {F F' : Hp} (e : Flip F F') {b : Addr} {vs : List V} (h : F b = some (.tup vs)) : F' b = some (.tup vs) := by
  rcases e b _ h with z | ⟨o, kvs, z, _⟩ | ⟨o, kvs, z, _⟩
  · exact z
  · cases z
  · cases z
theorem Flip.frt {F F' : Hp} (e : Flip F F') {b : Addr} {o : Obj} {vs : List V} (h : F b = some (.frz o (.tup vs))) : F' b = some (.frz o (.tup vs)) := by
  rcases e b _ h with z | ⟨o, kvs, z, _⟩ | ⟨o, kvs, z, _⟩
  · exact z
  · cases z
  · cases z
theorem Flip.lst {F F' : Hp} (e : Flip F F') {b : Addr} {vs : List V} (h : F b = some (.lst vs)) : F' b = some (.lst vs) := by
  rcases e b _ h with z | ⟨o, kvs, z, _⟩ | ⟨o, kvs, z, _⟩
  · exact z
  · cases z
  · cases z
theorem Flip.frl {F F' : Hp} (e : Flip F F') {b : Addr} {o : Obj} {vs : List V} (h : F b = some (.frz o (.lst vs))) : F' b = some (.frz o (.lst vs)) := by
  rcases e b _ h with z | ⟨o, kvs, z, _⟩ | ⟨o, kvs, z, _⟩
  · exact z
  · cases z
  · cases z
theorem Flip.ins {F F' : Hp} (e : Flip F F') {b c dx : Addr} {fs : List (Str × V)} (h : F b = some (.ins c dx fs)) : F' b = some (.ins c dx fs) := by
  rcases e b _ h with z | ⟨o, kvs, z, _⟩ | ⟨o, kvs, z, _⟩
  · exact z
  · cases z
  · cases z
theorem Flip.own {F F' : Hp} (e : Flip F F') {b c : Addr} (h : F b = some (.own c)) : F' b = some (.own c) := by
  rcases e b _ h with z | ⟨o, kvs, z, _⟩ | ⟨o, kvs, z, _⟩
  · exact z
  · cases z
  · cases z
theorem Flip.exk {F F' : Hp} (e : Flip F F') {b : Addr} {c : Value} {d : Option Addr} {a : Addr} (h : F b = some (ExK c d a)) : F' b = some (ExK c d a) := by
  rcases e b _ h with z | ⟨o, kvs, z, _⟩ | ⟨o, kvs, z, _⟩
  · exact z
  · unfold ExK at z; cases z
  · unfold ExK at z; cases z
theorem Flip.xd {F F' : Hp} (e : Flip F F') {b : Addr} {fs : List (Str × V)} (h : F b = some (.xd fs)) : F' b = some (.xd fs) := by
  rcases e b _ h with z | ⟨o, kvs, z, _⟩ | ⟨o, kvs, z, _⟩
  · exact z
  · cases z
  · cases z
theorem Flip.t {K : PySem.W.Frag} {F F' : Hp} (e : Flip F F') {a : Addr} {vs : List V} (h : SqT K F a vs) : SqT K F' a vs := by
  rcases h with (h | ⟨o, h⟩) | h
  · exact .inl (.inl (Flip.tup e h))
  · exact .inl (.inr ⟨o, Flip.frt e h⟩)
  · exact .inr h
theorem Flip.l {K : PySem.W.Frag} {F F' : Hp} (e : Flip F F') {a : Addr} {vs : List V} (h : SqL K F a vs) : SqL K F' a vs := by
  rcases h with (h | ⟨o, h⟩) | h
  · exact .inl (.inl (Flip.lst e h))
  · exact .inl (.inr ⟨o, Flip.frl e h⟩)
  · exact .inr h
theorem Flip.d {F F' : Hp} (e : Flip F F') {a : Addr} {kvs : List (List L2.Key × V)} (h : Rd F a (.dT kvs)) : Rd F' a (.dT kvs) := by
  rcases h with h | ⟨o, h⟩
  · rcases e _ _ h with z | ⟨o, k2, z, y⟩ | ⟨o, k2, z, _⟩
    · exact .inl z
    · cases z; exact .inr ⟨o, y⟩
    · cases z
  · rcases e _ _ h with z | ⟨o, k2, z, _⟩ | ⟨o, k2, z, y⟩
    · exact .inr ⟨_, z⟩
    · cases z
    · cases z; exact .inl y
mutual
theorem Rep.flip {F F' : Hp} (e : Flip F F') : ∀ (d : D) {v : V}, Rep G F d v → Rep G F' d v
  | .non, _, h => h
  | .bl _, _, h => h
  | .int _, _, h => h
  | .str _, _, h => h
  | .tup l, _, ⟨a, vs, e1, h1, h2⟩ => ⟨a, vs, e1, ⟨Flip.t e h1.1, fun k => Flip.tup e (h1.2 k)⟩, RepL.flip e l h2⟩
  | .lst l, _, ⟨a, vs, e1, h1, h2⟩ => ⟨a, vs, e1, Flip.l e h1, RepL.flip e l h2⟩
  | .dct _ us, _, ⟨a, kvs, e1, h1, h2, h3⟩ => ⟨a, kvs, e1, Flip.d e h1, h2, RepL.flip e us h3⟩
  | .obj _ us, _, ⟨a, e1, .inl ⟨hc, dx, fs, h1, h2, h3, h4⟩⟩ => ⟨a, e1, .inl ⟨hc, dx, fs, Flip.ins e h1, Flip.own e h2, h3, RepL.flip e us h4⟩⟩
  | .obj _ us, _, ⟨a, e1, .inr ⟨hc, d, h1, .inl h2⟩⟩ => ⟨a, e1, .inr ⟨hc, d, Flip.exk e h1, .inl h2⟩⟩
  | .obj _ us, _, ⟨a, e1, .inr ⟨hc, d, h1, .inr ⟨dd, fs, vs, h2, h3, h4, h5⟩⟩⟩ => ⟨a, e1, .inr ⟨hc, d, Flip.exk e h1, .inr ⟨dd, fs, vs, h2, Flip.xd e h3, RepL.flip e us h4, h5⟩⟩⟩
  | .fn _, _, h => h
theorem RepL.flip {F F' : Hp} (e : Flip F F') : ∀ (l : List D) {vs : List V}, RepL G F l vs → RepL G F' l vs
  | [], _, h => h
  | d :: ds, _, ⟨v, r, e1, h1, h2⟩ => ⟨v, r, e1, Rep.flip e d h1, RepL.flip e ds h2⟩
end
theorem ext_tup {F H : Hp} {q : Addr} {xs : List V} (e : Same F H) (h : H q = some (.tup xs)) : Ext F H (fun b => if b = q then some (.tup xs) else F b) H := by
  refine ⟨fun b u z => ?_, fun b u z => ?_, Same.refl _, fun b u z => ?_⟩
  · by_cases hb : b = q
    · subst hb
      rw [if_pos rfl]
      rw [e _ _ z] at h
      exact h.symm
    · rw [if_neg hb]; exact z
  · by_cases hb : b = q
    · subst hb
      rw [if_pos rfl] at z
      cases z; exact h
    · rw [if_neg hb] at z; exact e _ _ z
  · by_cases hb : b = q
    · subst hb
      rw [if_pos rfl] at z
      cases z; exact .inr (.inr ⟨_, rfl⟩)
    · rw [if_neg hb] at z; exact .inl z
theorem flip_lock {F : Hp} {d : Addr} {o : Obj} {kvs : List (List L2.Key × V)} (h : F d = some (.dT kvs)) : Flip F (upd F d (.frz o (.dT kvs))) := fun b u z => by
  by_cases hb : b = d
  · subst hb
    rw [h] at z; cases z
    exact .inr (.inl ⟨o, kvs, rfl, upd_same⟩)
  · exact .inl (by rw [upd_ne hb]; exact z)
theorem flip_free {F : Hp} {d : Addr} {o : Obj} {kvs : List (List L2.Key × V)} (h : F d = some (.frz o (.dT kvs))) : Flip F (upd F d (.dT kvs)) := fun b u z => by
  by_cases hb : b = d
  · subst hb
    rw [h] at z; cases z
    exact .inr (.inr ⟨o, kvs, rfl, upd_same⟩)
  · exact .inl (by rw [upd_ne hb]; exact z)
/-- the state while the dict is locked -/
theorem SRep.lock {F0 H0 F H : Hp} {σ : Sg} {ρ : Env} {d : Addr} {kvs : List (List L2.Key × V)} (S : SRep G F0 H0 F H σ ρ) (hd : F d = some (.dT kvs)) (o : Obj) :
    SRep G (fun b => if b = d then (if (F0 d).isSome then some (.frz o (.dT kvs)) else none) else F0 b) (fun b => if b = d then (if (H0 d).isSome then some (.frz o (.dT kvs)) else none) else H0 b) (upd F d (.frz o (.dT kvs))) (upd H d (.frz o (.dT kvs))) σ ρ := by
  have hH := S.same _ _ hd
  refine ⟨S.len, ⟨fun b u z => ?_, fun b u z => ?_, fun b u z => ?_, fun b u z => ?_⟩, fun i s z => ?_, S.dis⟩
  · by_cases hb : b = d
    · subst hb
      rw [if_pos rfl] at z
      rw [upd_same]
      split at z <;> first | exact z | cases z
    · rw [if_neg hb] at z
      rw [upd_ne hb]; exact S.e.f _ _ z
  · by_cases hb : b = d
    · subst hb
      rw [upd_same] at z ⊢; exact z
    · rw [upd_ne hb] at z ⊢; exact S.e.fh _ _ z
  · by_cases hb : b = d
    · subst hb
      rw [if_pos rfl] at z
      rw [upd_same]
      split at z <;> first | exact z | cases z
    · rw [if_neg hb] at z
      rw [upd_ne hb]; exact S.e.h _ _ z
  · by_cases hb : b = d
    · subst hb
      rw [upd_same] at z
      rw [if_pos rfl, if_pos rfl]
      rcases S.e.new _ _ hd with y | y | ⟨xs, y⟩
      · rw [y]; exact .inl z
      · rw [y]; exact .inr (.inl rfl)
      · cases y
    · rw [upd_ne hb] at z
      rw [if_neg hb, if_neg hb]; exact S.e.new _ _ z
  · have y := S.sl i s z
    cases s with
    | un => exact y
    | val x =>
      obtain ⟨v, h1, h2⟩ := y
      exact ⟨v, h1, Rep.flip (flip_lock hd) x h2⟩
    | own l =>
      obtain ⟨p, vs, h1, h2, h3, h4, h5⟩ := y
      have hp : p ≠ d := fun h => by subst h; rw [hd] at h3; cases h3
      exact ⟨p, vs, h1, by rw [upd_ne hp]; exact h2, by rw [upd_ne hp]; exact h3, by show (if p = d then _ else _) = _; rw [if_neg hp]; exact h4, RepL.flip (flip_lock hd) l h5⟩
    | ownd ks us =>
      obtain ⟨p, vs, h1, h2, h3, h4, h5, h6⟩ := y
      have hp : p ≠ d := fun h => by subst h; rw [hd] at h3; cases h3
      exact ⟨p, vs, h1, by rw [upd_ne hp]; exact h2, by rw [upd_ne hp]; exact h3, by show (if p = d then _ else _) = _; rw [if_neg hp]; exact h4, h5, RepL.flip (flip_lock hd) us h6⟩
/-- over the keys of a locked dict -/
theorem lc_keysT {d : Addr} {o : Obj} {kvs : List (List L2.Key × V)} {g : TG} {tt : TT} {te : TE} {vs : List Nat} {σ : Sg} {H1 : Hp} {D : Addr} {Qd : Hp → Prop} (Pv : Nat → Hp → Prop) (h0 : Pv 0 (upd H1 D (.lst []))) (hl : ∀ i H, i ≤ kvs.length → Pv i H → H d = some (.frz o (.dT kvs)))
    (hs : ∀ i k v q H, kvs[i]? = some (k, v) → H q = some (.tup (k.map kV)) → Pv i H → g (.ref q) (wipe σ vs) H fun σ2 H2 => wipe σ2 vs = wipe σ vs ∧ tt σ2 H2 fun b H3 =>
      if b = true then te σ2 H3 fun y H4 => ∃ acc, H4 D = some (.lst acc) ∧ acc.length < sizeLine ∧ Pv (i + 1) (upd H4 D (.lst (acc ++ [y]))) else Pv (i + 1) H3) (hd : ∀ H, Pv kvs.length H → Qd H) :
    ∃ W : Nat → Nat → Hp → Prop, (∃ m, W 0 m (upd H1 D (.lst []))) ∧ ∀ i m H, W i m H →
      ((Itkt d o kvs).stop i H ∧ Qd H) ∨ ((Itkt d o kvs).go i H ∧ ∃ Nx : Hp → Prop, (∀ H', Nx H' → ∃ m', m' < m ∧ W (i + 1) m' H') ∧ ∀ x H', (Itkt d o kvs).yld i H x H' → g x (wipe σ vs) H' fun σ2 H2 => wipe σ2 vs = wipe σ vs ∧ tt σ2 H2 fun b H3 =>
        if b = true then te σ2 H3 fun y H4 => ∃ acc, H4 D = some (.lst acc) ∧ acc.length < sizeLine ∧ Nx (upd H4 D (.lst (acc ++ [y]))) else Nx H3) := by
  refine ⟨fun i m H => m = kvs.length - i ∧ i ≤ kvs.length ∧ Pv i H, ⟨kvs.length, by simp, Nat.zero_le _, h0⟩, ?_⟩
  rintro i m H ⟨rfl, hi, p⟩
  have q := hl i H hi p
  by_cases hlt : i < kvs.length
  · refine .inr ⟨⟨q, hlt⟩, Pv (i + 1), fun H' p' => ⟨kvs.length - (i + 1), by omega, rfl, hlt, p'⟩, fun x H' y => ?_⟩
    obtain ⟨e, k, v, r, h1, rfl, h2⟩ := y
    subst e
    exact hs i k v r _ h1 h2 p
  · have e : i = kvs.length := by omega
    subst e
    exact .inl ⟨⟨q, Nat.le_refl _⟩, hd H p⟩
theorem keys_rl {F : Hp} : ∀ k : List L2.Key, RepL G F (k.map keyD) (k.map kV)
  | [] => rfl
  | .inl i :: k => ⟨_, _, rfl, rfl, keys_rl k⟩
  | .inr x :: k => ⟨_, _, rfl, rfl, keys_rl k⟩
theorem lcD_core {tt te : DE} {TT' : TT} {Te : TE} {i j : Nat} (ht : LT G (fun _ _ _ _ => False) tt TT') (he : LE G (fun _ _ _ _ => False) te Te) {F0 H0 : Hp} {ρ : Env} {F : Hp} {σ : Sg} {H : Hp} {Q : DK} {QV : VK} {d : Addr} {o : Obj} {kvs : List (List L2.Key × V)} (S : SRep G F0 H0 F H σ ρ) (hf : F d = some (.frz o (.dT kvs))) (hσ : σ[j]? = some (some (.ref d))) (hN : i < σ.length) (hl : kvs.length ≤ 16777216)
    (q : dEach (oneLc i tt te ρ) (kvs.map fun p => DL.D.tup (p.1.map keyD)) fun ys => Q (.own ys))
    (hq : ∀ (D : Addr) acc ys F' H', Ext F H F' H' → H D = none → H' D = some (.lst acc) → F' D = none → RepL G F' ys acc → Q (.own ys) → QV (.ref D) H') :
    tLc (iKeys (tVar j)) (gName i) TT' Te [i] σ H QV := by
  have hHd := S.same _ _ hf
  refine ⟨.ref d, hσ, d, o, rfl, .inr ⟨kvs, hHd, fun D hD => lc_keysT (fun n H' => ∃ F' acc ys, Ext F H F' H' ∧ H' D = some (.lst acc) ∧ F' D = none ∧ RepL G F' ys acc ∧ acc.length ≤ n ∧ dEach (oneLc i tt te ρ) ((kvs.map fun p => DL.D.tup (p.1.map keyD)).drop n) fun zs => Q (.own (ys ++ zs))) ⟨F, [], [], ⟨Same.refl _, S.same.trans (same_upd hD), same_upd hD, fun _ _ z => .inl z⟩, upd_same, S.same.free hD, rfl, Nat.le_refl _, q⟩ ?_ ?_ ?_⟩⟩
  · rintro n H' hn ⟨F', acc, ys, e, _⟩
    exact e.fh _ _ (e.f _ _ hf)
  · rintro n k v r H' hk hr ⟨F', acc, ys, e, g1, g2, g3, g4, g5⟩
    have hd : (kvs.map fun p => DL.D.tup (p.1.map keyD))[n]? = some (DL.D.tup (k.map keyD)) := by
      rw [List.getElem?_map, hk]; rfl
    have hjl := (List.getElem?_eq_some_iff.mp hd).1
    rw [List.length_map] at hjl
    rw [drop_at hd] at g5
    have e1 := ext_tup e.fh hr
    have hDr : D ≠ r := fun h => by subst h; rw [g1] at hr; cases hr
    have rx : Rep G (fun b => if b = r then some (.tup (k.map kV)) else F' b) (.tup (k.map keyD)) (.ref r) := ⟨r, k.map kV, rfl, ⟨.inl (.inl (if_pos rfl)), fun _ => if_pos rfl⟩, keys_rl k⟩
    refine lc_step ht he S (e.trans e1) g1 (by show (if D = r then _ else _) = _; rw [if_neg hDr]; exact g2) hD (RepL.mono e1.f ys g3) rx hN (by omega) g5 fun F2 H2 acc' o e2 sF k1 k2 k3 k4 => ⟨F2, acc', _, e2, k1, k2, k3, ?_, ?_⟩
    · have w := k3.length
      have w0 := g3.length
      cases o <;> simp at w <;> omega
    · cases o with
      | none => exact k4
      | some y => simpa using k4
  · rintro H' ⟨F', acc, ys, e, g1, g2, g3, g4, g5⟩
    rw [← List.length_map (f := fun p : List L2.Key × V => DL.D.tup (p.1.map keyD)), List.drop_length] at g5
    have g5 : Q (.own (ys ++ [])) := g5
    rw [List.append_nil] at g5
    exact hq D acc ys F' H' e hD g1 g2 g3 g5
theorem ext_unlock {F H F2 H2 : Hp} {a : Addr} {od : Obj} {kvs : List (List L2.Key × V)} (hd : F a = some (.dT kvs)) (sm : Same F H) (e : Ext (upd F a (.frz od (.dT kvs))) (upd H a (.frz od (.dT kvs))) F2 H2) : Ext F H (upd F2 a (.dT kvs)) (upd H2 a (.dT kvs)) := by
  have hH := sm _ _ hd
  refine ⟨fun b u z => ?_, fun b u z => ?_, fun b u z => ?_, fun b u z => ?_⟩
  · by_cases hb : b = a
    · subst hb
      rw [hd] at z; cases z; exact upd_same
    · rw [upd_ne hb]; exact e.f _ _ (by rw [upd_ne hb]; exact z)
  · by_cases hb : b = a
    · subst hb
      rw [upd_same] at z ⊢; exact z
    · rw [upd_ne hb] at z ⊢; exact e.fh _ _ z
  · by_cases hb : b = a
    · subst hb
      rw [hH] at z; cases z; exact upd_same
    · rw [upd_ne hb]; exact e.h _ _ (by rw [upd_ne hb]; exact z)
  · by_cases hb : b = a
    · subst hb
      rw [upd_same] at z; cases z; exact .inl hd
    · rw [upd_ne hb] at z
      have y := e.new _ _ z
      rw [upd_ne hb, upd_ne hb] at y
      exact y
theorem le_lcD {tt te : DE} {TT' : TT} {Te : TE} {i j : Nat} (ht : LT G (fun _ _ _ _ => False) tt TT') (he : LE G (fun _ _ _ _ => False) te Te) {F0 H0 : Hp} {ρ : Env} {F : Hp} {σ : Sg} {H : Hp} {Q : DK} {QX : DX} {QV : VK} (hN : i < σ.length) (S : SRep G F0 H0 F H σ ρ) (q : dLcD i (dVar j) tt te ρ Q QX) (hq : ∀ s v F' H', Post G F H s v F' H' → Q s → QV v H') :
    tLockE (tLc (iKeys (tVar j)) (gName i) TT' Te [i]) σ H QV ∨ tLc (iKeys (tVar j)) (gName i) TT' Te [i] σ H QV := by
  unfold dLcD dVar at q
  cases hs : ρ[j]? with
  | none => rw [hs] at q; exact q.elim
  | some s =>
    rw [hs] at q
    cases s with
    | val d =>
      obtain ⟨v, h1, h2⟩ := S.sl j _ hs
      cases d with
      | dct ks us =>
        obtain ⟨a, kvs, rfl, rd, rfl, h3⟩ := h2
        obtain ⟨hl, q⟩ := q
        rw [List.length_map] at hl
        rcases rd with h | ⟨o, h⟩
        · refine .inl ⟨a, .dT kvs, S.same _ _ h, trivial, fun od => lcD_core ht he (S.lock h od) upd_same h1 hN hl q fun D acc ys F' H' e hD k1 k2 k3 k4 => ⟨e.fh _ _ (e.f _ _ upd_same), ?_⟩⟩
          have hDa : D ≠ a := fun h => by subst h; rw [upd_same] at hD; cases hD
          rw [upd_ne hDa] at hD
          refine hq (.own ys) (.ref D) (upd F' a (.dT kvs)) (upd H' a (.dT kvs)) ⟨ext_unlock h S.same e, D, acc, rfl, ?_, ?_, hD, RepL.flip (flip_free (e.f _ _ upd_same)) ys k3⟩ k4
          · rw [upd_ne hDa]; exact k1
          · rw [upd_ne hDa]; exact k2
        · exact .inr (lcD_core ht he S h h1 hN hl q fun D acc ys F' H' e hD k1 k2 k3 k4 => hq (.own ys) _ F' H' ⟨e, D, acc, rfl, k1, k2, hD, k3⟩ k4)
      | _ => exact q.elim
    | _ => exact q.elim
end
section
variable {X : Cx} {G : Gx} {W : WX} {k : Nat} {te : DE} {pos p : Pos} {n i j : Nat} {x y : Str} {scope : Scope} {elt : Expr} {ifs : List Expr} {tt : DE} {sp : Pos}
theorem pe_or {e : Expr} {t1 t2 : TE} (h1 : PE X e t1) (h2 : PE X e t2) : PE X e (fun σ H Q => t1 σ H Q ∨ t2 σ H Q) := ⟨fun pins s σ H Q I h => h.elim (fun z => h1.run pins s σ H Q I z) fun z => h2.run pins s σ H Q I z⟩
theorem j_lcD {p2 : Pos} (C : Cxt X G W k) {el : DE} (ok : BlkOk X.N X.env.scope scope [(x, i)]) (ht : ∀ q : BI, JI (blkOf X scope q) G ifs tt) (he : ∀ q : BI, JE (blkOf X scope q) G W0 elt el)
    (hNj : X.N[j]? = some y := by rfl) (hv : Vis X.env.scope y := by first | exact Or.inl rfl | exact Or.inr (Or.inl rfl) | exact Or.inr (Or.inr rfl)) (hd : (y == ("__debug__" : Str)) = false := by decide) (hcd : (y == ("__classdict__" : Str)) = false := by decide)
    (hx : ∀ q : BI, Loc (blkOf X scope q).env.scope x := by exact fun _ => Or.inl rfl) (hf : ∀ q : BI, (blkOf X scope q).fn x = true ∨ (blkOf X scope q).env.scope.names.lookup x = some .local := by first | exact fun _ => .inr rfl | exact fun _ => .inl rfl)
    (hi : X.N[i]? = some x := by rfl) (hs : ∀ x, foldedSetIterable (.Name y p2) X.env x = pure x := by intro _; rfl) : JE X G W (.ListComp elt [⟨.Name x p, .Name y p2, ifs, 0⟩] scope pos) (dLcD i (dVar j) tt el) := by
  obtain ⟨TT', h1, l1⟩ := pts_uni ht
  obtain ⟨Te, h2, l2⟩ := pe_uni he
  have hil : i < X.N.length := (List.getElem?_eq_some_iff.mp hi).1
  have hp := pe_lc (pos := pos) (tg := .Name x p) (own := [(x, i)]) C.calm C.nd (pi_keys (pe_var hNj hv hd hcd)) ok (fun s H C' cl fp => pg_name (i := i) C.nd hi (hx (s, H, C', cl, fp)) (hf (s, H, C', cl, fp))) (fun s H C' cl fp => h1 (s, H, C', cl, fp)) (fun s H C' cl fp => h2 (s, H, C', cl, fp)) hs
  refine ⟨_, PE.len (pe_or (pe_lock hp) hp), LE.len _ ?_⟩
  intro F0 H0 ρ F σ H Q QX QV hN S qq hq hxx
  exact le_lcD l1 l2 (by rw [hN]; exact hil) S qq hq
end
end DL

/- DLs -/
namespace DL
def sortI (l : List Int) : List Int := l.mergeSort fun a b => decide (a ≤ b)
/-- sorted(xs) of whole numbers -/
def fSortI : List D → DK → Prop
  | [.lst l], Q => l.all D.isI = true ∧ l.length ≤ 16777216 ∧ Q (.own ((sortI (l.map D.num)).map D.int))
  | _, _ => False
instance : Det1 fSortI := ⟨by (intro x; refine has_of fun Q X z => ?_; unfold fSortI at z; split at z <;> first | exact z.elim | exact ⟨_, fun _ _ => ⟨fun y => y.2.2, fun q => ⟨z.1, z.2.1, q⟩⟩⟩)⟩
/-- list(range(j)) -/
def fListR : List D → DK → Prop
  | [.int j], Q => (-(2 ^ 62) ≤ j ∧ j ≤ 16777216) ∧ Q (.own (rangeD 0 j))
  | _, _ => False
instance : Det1 fListR := ⟨by (intro x; refine has_of fun Q X z => ?_; unfold fListR at z; split at z <;> first | exact z.elim | exact ⟨_, fun _ _ => ⟨fun y => y.2, fun q => ⟨z.1, q⟩⟩⟩)⟩
/-- isinstance(x, (list, tuple)) -/
def oIsLT (x : D) (Q : DK) : Prop := x.plain = true ∧ Q (.val (.bl (x.isList || x.isTuple)))
instance : Det1 oIsLT := ⟨fun x => has_if (has_val _)⟩
/-- how many numbers range(i, j, c) has, c above nought -/
def stepN (i j c : Int) : Nat := if i < j then ((j - i - 1) / c + 1).toNat else 0
def rangeS (i c : Int) (n : Nat) : List D := (List.range n).map fun (k : Nat) => D.int (i + (k : Int) * c)
/-- range(i, j, c), c above nought, walked at once -/
def fRange3 : List D → DK → Prop
  | [.int i, .int j, .int c], Q => (-1000000000 ≤ i ∧ i ≤ 1000000000 ∧ -1000000000 ≤ j ∧ j ≤ 1000000000 ∧ 1 ≤ c ∧ c ≤ 1000) ∧ Q (.val (.lst (rangeS i c (stepN i j c))))
  | _, _ => False
instance : Det1 fRange3 := ⟨by (intro x; refine has_of fun Q X z => ?_; unfold fRange3 at z; split at z <;> first | exact z.elim | exact ⟨_, fun _ _ => ⟨fun y => y.2, fun q => ⟨z.1, q⟩⟩⟩)⟩
/-- for x in xs: if c: return e; xs the def's own list in slot j -/
def dForO (i j : Nat) (tc te : DE) : DS := fun n q _ _ x r => i ≠ j ∧ (slotAt r j).owned fun l => dEvery i (dIf tc (dRet te) dNext) n q x l r
/-- an exception of class c, made with these fields -/
def dMkX (c : Nat) (ta : DA) : DE := fun r Q X => ta r (fun ds => Q (.val (.obj c ds))) X
/-- two rising rows of the same numbers are one -/
theorem rising_one : ∀ {a b : List Int}, a.Perm b → a.Pairwise (· ≤ ·) → b.Pairwise (· ≤ ·) → a = b
  | [], b, p, _, _ => (List.nil_perm.mp p).symm
  | x :: a, [], p, _, _ => absurd (p.length_eq) (by simp)
  | x :: a, y :: b, p, h1, h2 => by
    obtain ⟨a1, a2⟩ := List.pairwise_cons.mp h1
    obtain ⟨b1, b2⟩ := List.pairwise_cons.mp h2
    have exy : x = y := by
      have hx : x ∈ y :: b := p.mem_iff.mp List.mem_cons_self
      have hy : y ∈ x :: a := p.mem_iff.mpr List.mem_cons_self
      rcases List.mem_cons.mp hx with e | hx
      · exact e
      · rcases List.mem_cons.mp hy with e | hy
        · exact e.symm
        · have := a1 y hy
          have := b1 x hx
          omega
    subst exy
    rw [rising_one (List.perm_cons x |>.mp p) a2 b2]
theorem sortI_is {l l' : List Int} (p : l'.Perm l) (h : l'.Pairwise (· ≤ ·)) : l' = sortI l := by
  unfold sortI
  refine rising_one (p.trans (List.mergeSort_perm l _).symm) h ?_
  have := List.pairwise_mergeSort (le := fun a b : Int => decide (a ≤ b)) (fun a b c h1 h2 => decide_eq_true (Int.le_trans (of_decide_eq_true h1) (of_decide_eq_true h2))) (fun a b => by
    rcases Int.le_total a b with g | g
    · rw [decide_eq_true g]; rfl
    · rw [decide_eq_true g, Bool.or_true]) l
  exact this.imp fun {a b} h => of_decide_eq_true h
end DL

/- DLw -/
namespace DL
open PySem PySem.Spec PyProof.Rows L2
/-- a comprehension's own scope in a def of scope D -/
def relab (D scope : Scope) : Scope := { scope with names := scope.names.map fun p => if (p.2 == .free && D.kind == .function && D.names.lookup p.1 == some .cell) then (p.1, .cell) else p }
/-- a comprehension within a comprehension -/
theorem blkOk_at {X : Cx} {scope scope' D : Scope} {own : List (Str × Nat)} {N : List Str} {q : BI} (hN : X.N = N) (hD : X.env.scope = D) (h : blkC N (relab D scope) scope' own = true) : BlkOk (blkOf X scope q).N (blkOf X scope q).env.scope scope' own := by
  subst hN hD
  have e : (blkOf X scope q).env.scope = relab X.env.scope scope := by
    show relabel scope X.env = _
    unfold relabel relab
    congr 1
  rw [e]
  exact blkOk_by (N := X.N) h
section
variable {G : Gx} {W : WX} {ta te : DE} {Ta Te : TE} {ts : DA} {Ts : TA} {t : DS} {T : TS}
theorem ints_isI {l : List D} (h : l.all D.isI = true) : l = (l.map D.num).map D.int := by
  rw [List.map_map]
  have key : ∀ x ∈ l, (D.int ∘ D.num) x = x := fun x hx => by
    have z := List.all_eq_true.mp h x hx
    cases x <;> first | rfl | cases z
  rw [List.map_congr_left key, List.map_id'']
  exact fun _ => rfl
theorem rep_ints {F : Hp} : ∀ {ns : List Int} {vs : List V}, RepL G F (ns.map D.int) vs → vs = ns.map V.int
  | [], _, h => h
  | n :: ns, _, ⟨v, r, e, h1, h2⟩ => by rw [e, show v = V.int n from h1, rep_ints h2]; rfl
theorem lr_sortI : LRs G fSortI (rSortedI G.K) := fun F H xs us Q QV e r q hq => by
  unfold fSortI at q
  split at q
  · rename_i l
    obtain ⟨v, rfl, a, vs, rfl, h1, h2⟩ := one_rep r
    obtain ⟨q1, q2, q3⟩ := q
    rw [ints_isI q1] at h2
    have ev := rep_ints h2
    subst ev
    refine ⟨a, l.map D.num, rfl, sqL_mono e h1, fun ns' p hp hs hn => ?_⟩
    rw [sortI_is hp hs] 
    exact hq _ _ F _ (.mkOwn (.refl e) hn (intsL _)) q3
  · exact q.elim
theorem le_listR (ha : LE G W ta Ta) : LE G W (dAs fListR (dCons ta dNil)) (tLstRg (tRg1 Ta)) := fun F0 H0 ρ F σ H Q QX QV S q hq hx =>
  ha.v S q (fun d v F1 H1 e1 r1 q1 => by
    cases d with
    | int j =>
      obtain ⟨⟨b1, b2⟩, q2⟩ := q1
      refine ⟨j, r1, ⟨by decide, by decide, b1, by omega, by omega⟩, fun p hp => hq _ _ F1 _ (.mkOwn e1 hp ?_) q2⟩
      have key : ∀ (l : List Nat), RepL G F1 (l.map fun (i : Nat) => D.int (0 + (i : Int))) (l.map fun i => V.int (0 + (i : Nat))) := fun l => by
        induction l with
        | nil => exact rfl
        | cons x l ih => exact ⟨_, _, rfl, rfl, ih⟩
      exact key _
    | _ => exact q1.elim) hx
theorem le_isLT (ha : LE G W ta Ta) : LE G W (dUn oIsLT ta) (tCB (rIsiT G.K) (tCons Ta (tCons (tTup (tCons (tC (.ty "list")) (tCons (tC (.ty "tuple")) tNil))) tNil))) := fun F0 H0 ρ F σ H Q QX QV S q hq hx =>
  ha.v S q (fun x v F1 H1 e1 r1 q1 => ⟨by rw [sizeLine_eq]; decide, fun tp htp => by
    have e2 : Ext F1 H1 (upd F1 tp (.tup [.ty "list", .ty "tuple"])) (upd H1 tp (.tup [.ty "list", .ty "tuple"])) := .put e1.fh htp
    refine ⟨v, tp, [.ty "list", .ty "tuple"], .type x.tyn, [.type "list", .type "tuple"], x.isList || x.isTuple, rfl, upd_same, .cons (.ty _) (.cons (.ty _) .nil), rep_ty e2.fh q1.1 (Rep.mono e2.f x r1), ?_, hq _ _ _ _ (.val (e1.trans e2) (show Rep G _ (.bl _) (.bl _) from rfl)) q1.2⟩
    have k1 := kit_ty (K := G.K) (isi_list x q1.1)
    have k2 := kit_ty (K := G.K) (isi_tuple x q1.1)
    unfold PySem.W.kitAny
    rw [k1]
    cases hx : x.isList with
    | true => rfl
    | false =>
      show PySem.W.kitAny G.K _ _ = _
      unfold PySem.W.kitAny
      rw [k2]
      cases hy : x.isTuple with
      | true => rfl
      | false => rfl⟩) hx
theorem rangeS_at {i c : Int} {n k : Nat} (h : k < n) : (rangeS i c n)[k]? = some (.int (i + (k : Nat) * c)) := by
  unfold rangeS
  rw [List.getElem?_map, List.getElem?_range h]
  rfl
theorem rangeS_len {i c : Int} {n : Nat} : (rangeS i c n).length = n := by
  unfold rangeS
  rw [List.length_map, List.length_range]
theorem rgC_of {i j c : Int} (h : -1000000000 ≤ i ∧ i ≤ 1000000000 ∧ -1000000000 ≤ j ∧ j ≤ 1000000000 ∧ 1 ≤ c ∧ c ≤ 1000) : RgC i j c (stepN i j c) := by
  have hn : Builtin.Range.rangeSize i j c = (stepN i j c : Nat) := by
    unfold Builtin.Range.rangeSize stepN
    rw [if_pos (by omega)]
    split
    · have := Int.ediv_nonneg (a := j - i - 1) (b := c) (by omega) (by omega)
      omega
    · rfl
  have hle : ((stepN i j c : Nat) : Int) ≤ 2000000001 := by
    unfold stepN
    split
    · have := Int.ediv_nonneg (a := j - i - 1) (b := c) (by omega) (by omega)
      have := Int.ediv_le_self (a := j - i - 1) c (by omega)
      omega
    · decide
  have hmul : ((stepN i j c : Nat) : Int) * c ≤ 2000000001 + 1000 := by
    unfold stepN
    split
    · have h0 := Int.ediv_nonneg (a := j - i - 1) (b := c) (by omega) (by omega)
      have h1 := Int.mul_ediv_add_emod (j - i - 1) c
      have h2 := Int.emod_nonneg (j - i - 1) (show c ≠ 0 by omega)
      have e : (((j - i - 1) / c + 1).toNat : Int) = (j - i - 1) / c + 1 := by omega
      rw [e, Int.add_mul, Int.one_mul, Int.mul_comm]
      omega
    · have : ((0 : Nat) : Int) * c = 0 := Int.zero_mul c
      omega
  have hmul0 : 0 ≤ ((stepN i j c : Nat) : Int) * c := Int.mul_nonneg (by omega) (by omega)
  refine ⟨by omega, by omega, ?_, hn⟩
  unfold Builtin.Range.small
  rw [hn]
  simp only [Builtin.Range.rangeFitsLong, Bool.and_eq_true, Bool.or_eq_true, decide_eq_true_eq, beq_iff_eq]
  refine ⟨by omega, .inr ?_⟩
  rw [if_pos (by omega), Bool.and_eq_true, decide_eq_true_eq, decide_eq_true_eq]
  omega
theorem ls_forR3 {i n : Nat} (ha : LA G W n ts Ts) (hb : LS G W t T) : LS G W (dFor i (dAs fRange3 ts) t) (tFor (iRng3 Ts) (gName i) T) := fun F0 H0 ρ F σ H N D' S E q =>
  ha F0 H0 ρ F σ H _ _ _ S q (fun ds vs F1 H1 e1 r1 l1 q1 => by
    unfold fRange3 at q1
    split at q1
    · rename_i lo hi c
      obtain ⟨v, r', rfl, h1, h2⟩ := r1
      obtain ⟨w, x, rfl, h3, h4⟩ := two_rep h2
      refine ⟨lo, hi, c, stepN lo hi c, by rw [rint h1, rint h3, rint h4], rgC_of q1.1, ?_⟩
      refine for_rangeC (lo := lo) (c := c) (n := stepN lo hi c) (fun j σ H => ∃ ρ F, SRep G F0 H0 F H σ ρ ∧ dEvery i t N.nx N.rt N.xc ((rangeS lo c (stepN lo hi c)).drop j) ρ) ⟨ρ, F1, S.ext e1, q1.2⟩ ?_ ?_
      · rintro j σ' H' hj ⟨ρ', F', S', g3⟩
        rw [drop_at (rangeS_at hj)] at g3
        exact turn_step hb E (S'.set i (.val (.refl S'.same) (show Rep G F' (.int _) (.int _) from rfl))) g3 fun ρ2 F2 σ2 H2 S2 sF m => ⟨ρ2, F2, S2, m⟩
      · rintro σ' H' ⟨ρ', F', S', g3⟩
        have e : (rangeS lo c (stepN lo hi c)).drop (stepN lo hi c) = [] := List.drop_eq_nil_of_le (by rw [rangeS_len]; exact Nat.le_refl _)
        rw [e] at g3
        exact E.nx ρ' F' σ' H' S' g3
    · exact q1.elim) (E.xw S)
theorem ls_forO {i j : Nat} {tc : DE} {CA : TT} (hc : LT G W tc CA) (he : LE G W te Te) : LS G W (dForO i j tc te) (tFor (iSeq G.K (tVar j)) (gName i) (tIfS CA (tRet Te) tNext)) := fun F0 H0 ρ F σ H N D' S E q => by
  obtain ⟨hij, q⟩ := q
  unfold slotAt at q
  cases hs : ρ[j]? with
  | none => rw [hs] at q; exact q.elim
  | some s =>
   rw [hs] at q
   cases s with
   | own l =>
    obtain ⟨p, vs, h1, h2, h3, h4, h5⟩ := S.sl j _ hs
    refine ⟨.ref p, h1, .inl ⟨p, rfl, ⟨vs, .inl (.inl h2)⟩, for_list (K := G.K) (a := p) (xs := vs) (fun k σ H => ∃ ρ F, SRep G F0 H0 F H σ ρ ∧ ρ[j]? = some (.own l) ∧ σ[j]? = some (some (.ref p)) ∧ H p = some (.lst vs) ∧ RepL G F l vs ∧ dEvery i (dIf tc (dRet te) dNext) N.nx N.rt N.xc (l.drop k) ρ) ⟨ρ, F, S, hs, h1, h2, h5, q⟩ (fun k σ' H' _ ⟨ρ', F', S', g0, g1, g2, _⟩ => .inl (.inl g2)) ?_ ?_⟩⟩
    · rintro k x σ' H' hk ⟨ρ', F', S', g0, g1, g2, g3, g4⟩
      obtain ⟨d, hd, rd⟩ := at_of_len g3 hk
      rw [drop_at hd] at g4
      have S2 := S'.set i (.val (.refl S'.same) rd)
      have g4 : tc (ρ'.set i (.val d)) (fun s => s.bool fun b => two b (te (ρ'.set i (.val d)) N.rt fun e => N.xc e (ρ'.set i (.val d))) (dEvery i (dIf tc (dRet te) dNext) N.nx N.rt N.xc (l.drop (k + 1)) (ρ'.set i (.val d)))) (fun e => N.xc e (ρ'.set i (.val d))) := g4
      refine hc F0 H0 _ _ _ _ _ _ _ S2 g4 (fun b F1 H1 e1 q1 => two_if q1 (fun z => ?_) fun z => ?_) (E.xw S2)
      · exact he F0 H0 _ F1 _ H1 _ _ _ (S2.ext e1) z (fun s v F2 H2 p2 q2 => E.rt s v F2 H2 (p2.after (S2.ext e1).e) q2) (E.xw (S2.ext e1))
      · exact ⟨_, F1, S2.ext e1, by rw [List.getElem?_set_ne hij]; exact g0, by rw [List.getElem?_set_ne hij]; exact g1, e1.h _ _ g2, RepL.mono e1.f l g3, z⟩
    · rintro σ' H' ⟨ρ', F', S', g0, g1, g2, g3, g4⟩
      rw [g3.length, List.drop_length] at g4
      exact E.nx ρ' F' σ' H' S' g4
   | _ => exact q.elim
end
section
variable {X : Cx} {G : Gx} {W : WX} {k : Nat} {a b c e : Expr} {es : List Expr} {ta tb tc te : DE} {ts : DA} {t u : DS} {pos p p2 p3 : Pos} {n i j l : Nat} {x y : Str} {sts : List Stmt}
theorem j_sortI (C : Cxt X G W k) (hm : X.mg "sorted" = none) (ha : JA X G W n [e] ts) (hg : Gl X "sorted" := by rfl) (he : starEach [e] X.env = [(false, eval e X.env)] := by rfl) : JE X G W (.Call (.Name "sorted" p) [e] [] pos) (dAs fSortI ts) :=
  j_bi cr_sortedI (by rw [C.K]; exact lr_sortI) hg hm boot_sorted' ha (he := he)
theorem j_listR (C : Cxt X G W k) (hm : X.mg "list" = none) (hm2 : X.mg "range" = none) (ha : JE X G W a ta) (hg : Gl X "list" := by rfl) (hg2 : Gl X "range" := by rfl) (na : starEach [a] X.env = (false, eval a X.env) :: starEach [] X.env := by rfl) (nb : starEach [.Call (.Name "range" p2) [a] [] p3] X.env = (false, eval (.Call (.Name "range" p2) [a] [] p3) X.env) :: starEach [] X.env := by rfl) :
    JE X G W (.Call (.Name "list" p) [.Call (.Name "range" p2) [a] [] p3] [] pos) (dAs fListR (dCons ta dNil)) := by
  obtain ⟨T', q, l⟩ := ha
  exact ⟨_, pe_listRg C.calm hg hm (prg_1 hg2 hm2 q na) nb, le_listR l⟩
theorem j_isLT {kk : Nat} (C : Cxt X G W k) (hm : X.mg "isinstance" = none) (hl : X.mg "list" = none) (ht : X.mg "tuple" = none) (ha : JE X G W a ta) (hg : Gl X "isinstance" := by rfl) (hgl : Gl X "list" := by rfl) (hgt : Gl X "tuple" := by rfl)
    (h1 : starEach (a :: [.Tuple [.Name "list" p, .Name "tuple" p2] kk p3]) X.env = (false, eval a X.env) :: starEach [.Tuple [.Name "list" p, .Name "tuple" p2] kk p3] X.env := by rfl) (h2 : starEach [.Tuple [.Name "list" p, .Name "tuple" p2] kk p3] X.env = (false, eval (.Tuple [.Name "list" p, .Name "tuple" p2] kk p3) X.env) :: starEach [] X.env := by rfl) (hpl : (backTo pos (starEach [.Tuple [.Name "list" p, .Name "tuple" p2] kk p3] X.env)).any (·.1) = false := by rfl)
    (h3 : starEach [.Name "list" p, .Name "tuple" p2] X.env = (false, eval (.Name "list" p) X.env) :: starEach [.Name "tuple" p2] X.env := by rfl) (h4 : starEach [.Name "tuple" p2] X.env = (false, eval (.Name "tuple" p2) X.env) :: starEach [] X.env := by rfl) {pc : Pos} :
    JE X G W (.Call (.Name "isinstance" pc) [a, .Tuple [.Name "list" p, .Name "tuple" p2] kk p3] [] pos) (dUn oIsLT ta) := by
  obtain ⟨T', q, l⟩ := ha
  refine ⟨_, pe_callB call_isiT hg hm boot_isinstance (pa_cons q (pa_cons (pe_tup (pa_cons (pe_bltn (v := .ty "list") hgl hl bt_list rfl (by decide) (by decide)) (pa_cons (pe_bltn (v := .ty "tuple") hgt ht bt_tuple rfl (by decide) (by decide)) pa_nil h4) h3)) pa_nil h2) h1) (he := h1) (hpl := hpl), ?_⟩
  rw [C.K]
  exact le_isLT l
/-- a walked range with a step -/
theorem s_forR3 (C : Cxt X G W k) (hm : X.mg "range" = none) (ha : JA X G W n [a, b, c] ts) (hb : JSs X G W sts t) (hg : Gl X "range" := by rfl) (hi : X.N[i]? = some x := by rfl) (hx : Loc X.env.scope x := by first | exact Or.inl rfl | exact Or.inr rfl)
    (hs : ∀ x, foldedSetIterable (.Call (.Name "range" p2) [a, b, c] [] p3) X.env x = pure x := by intro _; rfl) (hf : X.fn x = true ∨ X.env.scope.names.lookup x = some .local := by first | exact .inl rfl | exact .inr rfl)
    (h1 : starEach [a, b, c] X.env = (false, eval a X.env) :: starEach [b, c] X.env := by rfl) (h2 : (backTo p3 (starEach [b, c] X.env)).any (·.1) = false := by rfl) :
    JS X G W (.For (.Name x p) (.Call (.Name "range" p2) [a, b, c] [] p3) sts [] pos) (dFor i (dAs fRange3 ts) t) := by
  obtain ⟨_, q, l⟩ := ha
  obtain ⟨_, r, m⟩ := hb
  exact ⟨_, ps_for C.own C.calm (pi_range3 hg hm q h1 h2) (pg_name C.nd hi hx hf) r hs, ls_forR3 l m⟩
/-- for x in the def's own list: if c: return e -/
theorem s_forO {ce re : Expr} {p4 p5 : Pos} (C : Cxt X G W k) (hc : JT X G W ce tc) (he : JE X G W re te) (hi : X.N[i]? = some x := by rfl) (hx : Loc X.env.scope x := by first | exact Or.inl rfl | exact Or.inr rfl) (hs : ∀ z, foldedSetIterable (.Name y p2) X.env z = pure z := by intro _; rfl) (hf : X.fn x = true ∨ X.env.scope.names.lookup x = some .local := by first | exact .inl rfl | exact .inr rfl)
    (hN : X.N[j]? = some y := by rfl) (hv : Vis X.env.scope y := by first | exact Or.inl rfl | exact Or.inr (Or.inl rfl) | exact Or.inr (Or.inr rfl)) (hd : (y == ("__debug__" : Str)) = false := by decide) (hcd : (y == ("__classdict__" : Str)) = false := by decide) :
    JS X G W (.For (.Name x p) (.Name y p2) [.If ce [.Return (some re) p5] [] p4] [] pos) (dForO i j tc te) := by
  obtain ⟨_, q, l⟩ := hc
  obtain ⟨_, r, m⟩ := he
  refine ⟨_, ps_for C.own C.calm (pi_seq (pe_var hN hv hd hcd)) (pg_name C.nd hi hx hf) (pss_one (ps_if q (pss_one (ps_ret r)) pss_nil)) hs, ?_⟩
  rw [C.K]
  exact ls_forO l m
end
end DL

/- DLp -/
namespace DL
open PySem PySem.Spec PyProof.Rows L2
/-- what FormError's own instances and checks ask -/
structure XTabF (G : Gx) : Prop where
  k11 : KxC G.K (G.cm 11)
  v11 : PySem.W.kitOne G.K (.ref (G.cm 11)) (.type "ValueError") = some true
  f : ∀ c, c < 11 → PySem.W.kitOne G.K (.ref (G.cm c)) (.ref (G.cm 11)) = some true
  fn : PySem.W.kitOne G.K (.type "NoneType") (.ref (G.cm 11)) = some false
def xfB (K : PySem.W.Frag) (cm : Nat → Addr) : Bool := kxB K (cm 11) && (decide (PySem.W.kitOne K (.ref (cm 11)) (.type "ValueError") = some true) && (decide (PySem.W.kitOne K (.type "NoneType") (.ref (cm 11)) = some false) &&
  ((List.range 11).all fun c => decide (PySem.W.kitOne K (.ref (cm c)) (.ref (cm 11)) = some true))))
theorem xfB_ok {G : Gx} (h : xfB G.K G.cm = true) : XTabF G := by
  unfold xfB at h
  simp only [Bool.and_eq_true, decide_eq_true_eq] at h
  obtain ⟨h1, h2, h3, h4⟩ := h
  exact ⟨kxB_ok h1, h2, fun c hc => of_decide_eq_true (List.all_eq_true.mp h4 c (List.mem_range.mpr hc)), h3⟩
end DL

/- DLq -/
namespace DL
open PySem PySem.Spec PyProof.Rows L2
section
variable {X : Cx}
/-- an exception that is made, as a value -/
theorem pe_mk {e : Expr} {t : L2.St → Hp → XK → Prop} (he : PMk X e t) : PE X e (fun σ H QV => t σ H fun cls d H' => ∀ a, H' a = none → QV (.ref a) (upd H' a (ExK cls d a))) := by
  refine ⟨fun pins s σ H Q I h => ?_⟩
  refine thn (he pins s σ H _ I h) fun u s1 hu => ?_
  obtain ⟨a, oe, vs, sI, H', cls, d, rfl, J, k, hne, ha, hz, hd, h1, na, os, ag, r, q⟩ := hu
  have K := J.laidN (t' := s1.toks) k hne na (exK_ok ha hz hd)
  exact ⟨.ref a, _, ⟨K.ok, os.trans K.os, ag, K.base, K.loc, K.cell, K.free, K.freeC, K.pin, K.hok, K.len⟩, rfl, q a na⟩
end
section
variable {X : Cx} {G : Gx} {W : WX} {k : Nat} {a e : Expr} {es : List Expr} {ta te : DE} {ts : DA} {t : DS} {pos p p2 p3 : Pos} {n i : Nat} {x : Str}
theorem j_mkx {c : Nat} (C : Cxt X G W k) (T : XTab G) (h : XMk X.prog X.w G X.mg X.base c x) (ha : JA X G W n (e :: es) ts) (hc : c < 11 := by decide) (hn : n = (XF c).length := by rfl) (hk : 2 ≤ k := by decide) (hg : Gl X x := by rfl) (hdb : (x == ("__debug__" : Str)) = false := by decide)
    (he : starEach (e :: es) X.env = (false, eval e X.env) :: starEach es X.env := by rfl) (hpl : (backTo pos (starEach es X.env)).any (·.1) = false := by rfl) : JE X G W (.Call (.Name x p) (e :: es) [] pos) (dMkX c ts) := by
  obtain ⟨fI, fd, ps, h1, h2, h3, F⟩ := h.ex
  obtain ⟨Ts, q, l⟩ := ha
  refine ⟨_, pe_mk (pmk_oex (k := 1) (dvs := []) (ds := []) (by rw [C.K]; exact h.oex) (by rw [C.K]; exact h1) (by rw [C.K]; exact h2) (by rw [C.K]; exact F) (C.room.mono hk) (by rw [C.K]; exact h3) .nil (fun _ _ _ _ _ _ _ z => by
    obtain ⟨_, _, _, _, _, _, _, _, _, _, _, _, z⟩ := z
    exact z.elim) hg h.mgx q hdb he hpl), fun F0 H0 ρ F σ H Q QX QV S q hq hx => ?_⟩
  refine l F0 H0 ρ F σ H _ _ _ S q (fun ds vs F1 H1 e1 r1 l1 q1 => ?_) hx
  have hvl : vs.length = (XF c).length := by rw [r1.length, l1, hn]
  have h4 : (XF c).length ≤ 2 := by
    have : ∀ c : Nat, c < 11 → (XF c).length ≤ 2 := by decide
    exact this c hc
  refine ⟨by omega, fun a hna => ⟨a, vs, by rw [List.append_nil], hvl, h.oex, fun f hf => T.nf c f hc hf, upd_same, fun H' d fs hd hda ha' hd' ho hf => ?_⟩⟩
  have hd1 : H1 d = none := by rw [upd_ne hda] at hd; exact hd
  have sHH : Same H1 (upd (L2.del H' a) d (.xd fs)) := fun b o z => by
    have hbd : b ≠ d := fun y => by rw [y, hd1] at z; cases z
    have hba : b ≠ a := fun y => by rw [y, hna] at z; cases z
    rw [upd_ne hbd, L2.del_ne hba, ho b hba hbd, upd_ne hba]
    exact z
  have ex : Ext F1 H1 (upd F1 d (.xd fs)) (upd (L2.del H' a) d (.xd fs)) := by
    refine ⟨same_upd (e1.fh.free hd1), fun b o z => ?_, sHH, fun b o z => ?_⟩
    · by_cases hb : b = d
      · subst hb; rw [upd_same] at z ⊢; exact z
      · rw [upd_ne hb] at z
        exact sHH b o (e1.fh b o z)
    · by_cases hb : b = d
      · subst hb; exact .inr (.inl hd1)
      · rw [upd_ne hb] at z; exact .inl z
  refine ⟨rfl, d, fs, ha', hd', hd1, fun a2 hn2 => ?_⟩
  have ex2 := ex.trans (.put (o := ExK (.ref (G.cm c)) (some d) a2) ex.fh hn2)
  have hne : d ≠ a2 := fun z => by rw [← z, upd_same] at hn2; cases hn2
  refine hq (.val (.obj c ds)) (.ref a2) _ _ (.val (e1.trans ex2) ?_) q1
  unfold Rep
  exact ⟨a2, rfl, .inr ⟨hc, some d, upd_same, .inr ⟨d, fs, vs, rfl, by rw [upd_ne hne]; exact upd_same, RepL.mono ex2.f ds r1, fun i f v z1 z2 => hf i f v (by rw [← T.fn c hc]; exact z1) z2⟩⟩⟩
theorem j_mkt {c j : Nat} {m : Str} (C : Cxt X G W k) (h : XTx G X.mg c x) (hc : c < 11 := by decide) (hg : Gl X x := by rfl) (hdb : (x == ("__debug__" : Str)) = false := by decide) :
    JE X G W (.Call (.Name x p) [.Constant (.str m) j p3] [] pos) (dMkX c dNil) := by
  refine ⟨_, pe_mk (pmk_own PySem.F.excBase_ValueError (by rw [C.K]; exact h.ex) h.mgx (by rw [C.K]; exact h.kp) (raises_own (by rw [C.K]; exact h.sb) (by rw [C.K]; exact h.ty)) hg hdb), fun F0 H0 ρ F σ H Q QX QV S q hq hx => ?_⟩
  intro a hn
  refine hq (.val (.obj c [])) (.ref a) _ _ (.val (.put S.same hn) ?_) q
  unfold Rep
  exact ⟨a, rfl, .inr ⟨hc, none, upd_same, .inl ⟨rfl, rfl⟩⟩⟩
/-- isinstance(x, FormError) -/
theorem j_isfe (C : Cxt X G W k) (T : XTab G) (TF : XTabF G) (hm : X.mg "isinstance" = none) (hy : X.mg "FormError" = some (.ref (G.cm 11))) (ha : JE X G W a ta) (hg : Gl X "isinstance" := by rfl) (hgT : Gl X "FormError" := by rfl)
    (h1 : starEach (a :: [.Name "FormError" p2]) X.env = (false, eval a X.env) :: starEach [.Name "FormError" p2] X.env := by rfl) (h2 : starEach [.Name "FormError" p2] X.env = (false, eval (.Name "FormError" p2) X.env) :: starEach [] X.env := by rfl) (hpl : (backTo pos (starEach [.Name "FormError" p2] X.env)).any (·.1) = false := by rfl) :
    JE X G W (.Call (.Name "isinstance" p) [a, .Name "FormError" p2] [] pos) (dUn (oIsX fun _ => true) ta) :=
  j_isxr C T ⟨TF.f, TF.fn⟩ (.own _) hm (pe_glob (v := .ref (G.cm 11)) hgT hy rfl (by decide)) ha hg h1 h2 hpl
/-- isinstance(FormError(".."), ValueError) -/
theorem j_isfv {j : Nat} {m : Str} {pc : Pos} (C : Cxt X G W k) (TF : XTabF G) (h : XTx G X.mg 11 "FormError") (hm : X.mg "isinstance" = none) (hmT : X.mg "ValueError" = none) (hg : Gl X "isinstance" := by rfl) (hgF : Gl X "FormError" := by rfl) (hgT : Gl X "ValueError" := by rfl)
    (h1 : starEach ((.Call (.Name "FormError" p) [.Constant (.str m) j p3] [] pc) :: [.Name "ValueError" p2]) X.env = (false, eval (.Call (.Name "FormError" p) [.Constant (.str m) j p3] [] pc) X.env) :: starEach [.Name "ValueError" p2] X.env := by rfl) (h2 : starEach [.Name "ValueError" p2] X.env = (false, eval (.Name "ValueError" p2) X.env) :: starEach [] X.env := by rfl) (hpl : (backTo pos (starEach [.Name "ValueError" p2] X.env)).any (·.1) = false := by rfl) {pi : Pos} :
    JE X G W (.Call (.Name "isinstance" pi) [.Call (.Name "FormError" p) [.Constant (.str m) j p3] [] pc, .Name "ValueError" p2] [] pos) (dC (.bl true)) := by
  refine ⟨_, pe_callB call_isK hg hm boot_isinstance (pa_cons (pe_mk (pmk_own PySem.F.excBase_ValueError (by rw [C.K]; exact h.ex) h.mgx (by rw [C.K]; exact h.kp) (raises_own (by rw [C.K]; exact h.sb) (by rw [C.K]; exact h.ty)) hgF (by decide))) (pa_cons (pe_bltn (v := .ty "ValueError") hgT hmT bt_ValueError rfl (by decide) (by decide)) pa_nil h2) h1) (he := h1) (hpl := hpl), fun F0 H0 ρ F σ H Q QX QV S q hq hx => ?_⟩
  intro a hn
  refine ⟨_, _, .ref (G.cm 11), .type "ValueError", true, rfl, .ty _, ?_, ?_, hq (.val (.bl true)) (.bl true) F _ (.val ⟨Same.refl _, fun b o z => same_upd hn b o (S.same b o z), same_upd hn, fun b o z => .inl z⟩ (show Rep G F (.bl _) (.bl _) from rfl)) q⟩
  · rw [C.K]; exact .exc TF.k11 upd_same
  · rw [C.K]; exact TF.v11
/-- a def without parameters, called -/
theorem pe_callS0 {CX : CXT} {j : Nat} {f : Addr} {fd : FuncData} {ps : List Str} {sp : Sp} {E : L2.St → XK} (F : FnOk X.prog X.w X.K X.mg X.base CX j f fd ps sp) (hr : Room j X.A) (hg : Gl X x) (hm : X.mg x = some (.ref f)) (hk : PySem.W.keepIn X.K (.ref f) = true) (hb : Binds X.K fd ps []) (hx : ∀ σ, PassesAt CX X σ (E σ))
    (hdb : (x == ("__debug__" : Str)) = false := by decide) : PE X (.Call (.Name x p) [] [] pos) (tCallS sp E tNil) := by
  refine ⟨fun pins s σ H Q I h => ?_⟩
  refine wpAny_Call_Name_kw (ld_glob I hg hm ?_ hdb)
  exact PySem.W.callWith_K0 I.kIn hk (run_fnS (us := []) F hr hb (hx σ) I .nil h)
theorem la_nil0 : LA G W 0 dNil tNil := fun F0 H0 ρ F σ H Q QX QV S q hq _ => hq [] [] F H (.refl S.same) rfl rfl q
theorem j_call0 {f : DF} {j : Nat} (C : Cxt X G W k) (h : Fn1 X.prog X.w G X.mg X.base j x f) (hj : j ≤ k := by decide) (hg : Gl X x := by rfl) (hdb : (x == ("__debug__" : Str)) = false := by decide) : JE X G W (.Call (.Name x p) [] [] pos) (dCall f dNil) := by
  obtain ⟨a, fd, ps, hm, hk, hb, F⟩ := h.ex
  exact ⟨_, pe_callS0 (by rw [C.K]; exact F) (C.room.mono hj) hg hm (by rw [C.K]; exact hk) (by rw [C.K]; exact hb) C.hx hdb, le_call la_nil0⟩
end
end DL

/- DLh -/
namespace DL
def insU (k : Int) : List Int → List Int
  | [] => [k]
  | a :: r => if k < a then k :: a :: r else if k = a then a :: r else a :: insU k r
def setI : List Int → List Int
  | [] => []
  | a :: r => insU a (setI r)
theorem insU_mem {k x : Int} : ∀ {l : List Int}, x ∈ insU k l ↔ x = k ∨ x ∈ l
  | [] => by simp [insU]
  | a :: r => by
    have ih := insU_mem (k := k) (x := x) (l := r)
    unfold insU
    by_cases h : k < a
    · rw [if_pos h, List.mem_cons]
    · rw [if_neg h]
      by_cases g : k = a
      · rw [if_pos g, List.mem_cons, g]
        exact ⟨fun z => .inr z, fun z => z.elim (fun q => .inl q) id⟩
      · rw [if_neg g, List.mem_cons, List.mem_cons, ih]
        exact ⟨fun z => z.elim (fun q => .inr (.inl q)) fun z => z.elim .inl fun z => .inr (.inr z), fun z => z.elim (fun q => .inr (.inl q)) fun z => z.elim .inl fun z => .inr (.inr z)⟩
theorem insU_up {k : Int} : ∀ {l : List Int}, l.Pairwise (· < ·) → (insU k l).Pairwise (· < ·)
  | [], _ => by simp [insU]
  | a :: r, h => by
    obtain ⟨h1, h2⟩ := List.pairwise_cons.mp h
    unfold insU
    by_cases g : k < a
    · rw [if_pos g]
      refine List.pairwise_cons.mpr ⟨fun x hx => ?_, h⟩
      rcases List.mem_cons.mp hx with e | hx
      · rw [e]; exact g
      · have := h1 x hx
        omega
    · rw [if_neg g]
      by_cases e : k = a
      · rw [if_pos e]; exact h
      · rw [if_neg e]
        refine List.pairwise_cons.mpr ⟨fun x hx => ?_, insU_up h2⟩
        rcases insU_mem.mp hx with z | z
        · omega
        · exact h1 x z
theorem setI_mem {x : Int} : ∀ {l : List Int}, x ∈ setI l ↔ x ∈ l
  | [] => Iff.rfl
  | a :: r => by
    show x ∈ insU a (setI r) ↔ _
    rw [insU_mem, setI_mem, List.mem_cons]
theorem setI_up : ∀ {l : List Int}, (setI l).Pairwise (· < ·)
  | [] => List.Pairwise.nil
  | _ :: _ => insU_up setI_up
theorem setI_is {l ns : List Int} (h : ns.Pairwise (· < ·)) (m : ∀ k, k ∈ ns ↔ k ∈ l) : ns = setI l := by
  have nd : ∀ {l : List Int}, l.Pairwise (· < ·) → l.Nodup := fun h => h.imp fun z => by omega
  refine rising_one ((List.perm_ext_iff_of_nodup (nd h) (nd setI_up)).mpr fun k => (m k).trans setI_mem.symm) (h.imp fun z => by omega) (setI_up.imp fun z => by omega)
/-- sorted(set(xs)) of whole numbers -/
def fSortSet : List D → DK → Prop
  | [.lst l], Q => l.all D.isI = true ∧ l.length ≤ 60 ∧ Q (.own ((setI (l.map D.num)).map D.int))
  | _, _ => False
instance : Det1 fSortSet := ⟨by (intro x; refine has_of fun Q X z => ?_; unfold fSortSet at z; split at z <;> first | exact z.elim | exact ⟨_, fun _ _ => ⟨fun y => y.2.2, fun q => ⟨z.1, z.2.1, q⟩⟩⟩)⟩
end DL

/- DLk -/
set_option maxHeartbeats 4000000
namespace DL
open PySem PySem.Spec PyProof.Rows L2
section
variable {P : Program} {w : World} {A : Around} {E : Value → Shared → Prop} {s : Shared}
/-- the set that set() lays first -/
abbrev bareSet (w : World) : Obj := { cls := .type "set", dict := none, data := .set #[] 0 (.fresh 0 0 (!w.params.followText "set-order")) }
/-- its filling from a list -/
theorem fill_list {a l : Addr} {items : Array Value} {ns : List Int} {Q₂ : Value → Shared → Prop} (hh : A.handled = none) (ho : s.heap.get? a = some (bareSet w)) (hl : s.heap.IsList l items) (hit : IntsAre items.toList ns) (hb : ns.length + 1 < scanBound) (hne : l ≠ a)
    (h : ∀ (h' : Heap) (tk c : Nat), SetR w h' a (fun j => decide (j ∈ ns)) c → c ≤ ns.length → (∀ b o, b ≠ a → s.heap.get? b = some o → h'.get? b = some o) → Q₂ .none { s with heap := h', toks := tk }) :
    codeAny (model P w) A (.call (.builtin "set.__init__") ⟨[.ref a, .ref l], []⟩) (wants Q₂ E) s := by
  have len : items.size = ns.length := by rw [← Array.length_toList]; exact IntsAre.length hit
  have at' : ∀ (i : Nat) (v : Value), items[i]? = some v → ∃ k t, ns[i]? = some k ∧ v = .int k t := fun i v hv => by
    obtain ⟨hi, _⟩ := Array.getElem?_eq_some_iff.mp hv
    obtain ⟨t, e⟩ := PyProof.Rows.IntsAre.int_at hit i v (by rw [Array.getElem?_toList]; exact hv)
    rw [len] at hi
    exact ⟨ns[i], t, List.getElem?_eq_getElem hi, by rw [e, List.getD_eq_getElem?_getD, List.getElem?_eq_getElem hi] <;> rfl⟩
  refine codeAny_call_builtin F.called_set.init.plain F.entry_set_init (check_set_init_1 ⟨_, ho, rfl⟩ ?_)
  obtain ⟨ol, hol, hcl, nl, hdl⟩ := id hl
  obtain ⟨ocls, odict, odata, oslots⟩ := ol
  simp only at hcl hdl
  subst hcl hdl
  have k1 := F.sub_list_set
  have k2 := F.sub_list_frozenset
  have k3 : (Value.type "list" == Value.type "dict") = false := by decide
  unfold Builtin.«set.__init__» noKeywords Builtin.Frozenset.updateFrom
  generalize hPI : pyIter = PI
  wp_walk
  subst hPI
  refine wpAny_pyIter_list hl ?_
  refine wpAny_bind (wpAny_runValue ?_)
  have lt : l < s.heap.objs.size := Heap.lt_size hol
  have la : a < s.heap.objs.size := Heap.lt_size ho
  refine set_update_ints ((Walks.list (by simp [hh]) _ l (Nat.ne_of_lt lt) items).toS) a (by simp only [List.mem_cons, List.not_mem_nil, or_false, not_or]; exact ⟨Nat.ne_of_lt la, hne.symm⟩) ns len hb at' (items.size - 0) 0 _ (by omega) (Nat.zero_le _)
    ⟨⟨_, Heap.get?_push_size _ rfl, rfl, rfl⟩, hl.push _⟩ ⟨0, Nat.le_refl 0, setR_new_at (Heap.get?_push_of_some _ ho)⟩ fun s' c hm hc hS => ?_
  obtain ⟨h', g2, d', tk', os'⟩ := s'
  obtain rfl : g2 = s.gens := hm.gens
  obtain rfl : d' = s.drawn := hm.drawn
  obtain rfl : os' = s.os := hm.os
  show wpAny _ _ _ _ _ _
  refine wpAny_pure ?_
  show wpAny _ _ (ret Value.none) _ _ _
  rw [len] at hc
  refine wpAny_pure (h h' tk' c hS hc fun b o hb e => hm.heap b o ?_ (Heap.get?_push_of_some _ e))
  simp only [List.mem_cons, List.not_mem_nil, or_false, not_or]
  exact ⟨hb, Nat.ne_of_lt (Heap.lt_size e)⟩
theorem set_list {l : Addr} {items : Array Value} {ns : List Int} {Q : Value → Shared → Prop} (hh : A.handled = none) (hl : s.heap.IsList l items) (hit : IntsAre items.toList ns) (hb : ns.length + 1 < scanBound)
    (h : ∀ (h' : Heap) (tk c : Nat), SetR w h' s.heap.objs.size (fun j => decide (j ∈ ns)) c → c ≤ ns.length → (∀ b o, s.heap.get? b = some o → h'.get? b = some o) → Q (.ref s.heap.objs.size) { s with heap := h', toks := tk }) :
    wpAny (model P w) A (call (.type "set") [.ref l]) Q E s := by
  obtain ⟨c0, tl, hmro⟩ := F.called_set.mro
  have hmade := F.called_set.made
  have hsub := F.called_set.sub
  have h1 := F.called_set.notType
  have h2 := F.called_set.canCreate
  have hct := F.typeCall_set_1 (.ref l)
  have hli := F.called_set.init.lookup
  refine wpAny_call (codeAny_of_tree ?_)
  show wpAny _ _ (callAny (.type "set") _) _ _ _
  refine wpAny_pure ⟨Code.quiet_builtin _ (by decide +kernel), codeAny_builtin F.entry_type_call ?_⟩
  rw [Around.under_plain (weight_type_call_type "set" [.ref l] []) rfl]
  repeat (any_goals (first | assumption | wp_step))
  refine codeAny_mono (code_set_led1 (.ref l) (E := E) (Q₁ := fun obj s₁ => obj = .ref s.heap.objs.size ∧ s₁ = { s with heap := s.heap.push (bareSet w) }) ⟨rfl, rfl⟩) fun r s₁ hr => ?_
  cases r with
  | error e => exact hr
  | ok fl =>
    cases fl with
    | ret obj =>
      obtain ⟨rfl, rfl⟩ := hr
      have hS : (s.heap.push (bareSet w)).get? s.heap.objs.size = some (bareSet w) := Heap.get?_push_size _ rfl
      have hT : Shared.TypeIs { s with heap := s.heap.push (bareSet w) } (.ref s.heap.objs.size) "set" := ⟨_, hS, rfl⟩
      have hbi := F.called_set.init.bind (.ref s.heap.objs.size)
      repeat (any_goals (first | assumption | wp_step))
      have hlt : l < s.heap.objs.size := by obtain ⟨o, e, _⟩ := hl; exact Heap.lt_size e
      refine codeAny_mono (fill_list (s := { s with heap := s.heap.push (bareSet w) }) (E := E) (Q₂ := fun r s₂ => r = .none ∧ ∃ h' tk c, s₂ = { s with heap := h', toks := tk } ∧ SetR w h' s.heap.objs.size (fun j => decide (j ∈ ns)) c ∧ c ≤ ns.length ∧
          (∀ b o, s.heap.get? b = some o → h'.get? b = some o)) (by simp [hh]) hS (hl.push _) hit hb (Nat.ne_of_lt hlt)
        fun h' tk c hS2 hc kk => ⟨rfl, h', tk, c, rfl, hS2, hc, fun b o e => kk b o (Nat.ne_of_lt (Heap.lt_size e)) (Heap.get?_push_of_some _ e)⟩) fun r2 s2 hr2 => ?_
      cases r2 with
      | error e => exact hr2
      | ok fl2 =>
        cases fl2 with
        | ret v2 =>
          obtain ⟨rfl, h', tk, c, rfl, hS2, hc, kk⟩ := hr2
          repeat (any_goals (first | assumption | wp_step))
          exact h h' tk c hS2 hc kk
        | _ => exact hr2
    | _ => exact hr
end
/-- set(xs), xs a list of ints -/
def rSetL (K : PySem.W.Frag) (w : World) : List V → Hp → VK → Prop := fun vs H Q => ∃ (a : Addr) (ns : List Int), vs = [V.ref a] ∧ SqL K H a (ns.map V.int) ∧ ns.length ≤ 1000 ∧
  ∀ (p : Addr) (c : Nat), c ≤ ns.length → H p = none → Q (.ref p) (upd H p (SetO w p (fun j => decide (j ∈ ns)) c))
section
variable {X : Cx}
theorem cr_setL (hc : X.calm = true) : CallR X (.type "set") (rSetL X.K X.w) := by
  intro pins s σ H vs us Q I r h
  obtain ⟨a, ns, rfl, ha, hl, q⟩ := h
  rw [Vals.ref1 r]
  obtain ⟨its, rv, ⟨o, n, ho, hcl, hdn, hd⟩, hlen⟩ := I.list ha
  refine set_list (ns := ns) (I.ok.hd hc) ⟨o, ho, hcl, n, hd⟩ (ints_of_vals rv) (by unfold scanBound; omega) fun h' tk c R hcn k => ?_
  exact ⟨.ref _, upd H s.heap.objs.size (SetO X.w s.heap.objs.size (fun j => decide (j ∈ ns)) c), I.laid k (Nat.le_refl _) (setO_new R), rfl, q _ _ hcn (I.hok.fresh (Nat.le_refl _))⟩
end
section
variable {G : Gx} {W : WX} {ts : DA} {Ts : TA}
theorem lr_sortSet (w : World) : LRs G fSortSet (fun vs H Q => rSetL G.K w vs H fun v H1 => rSortedSet w [v] H1 Q) := fun F H xs us Q QV e r q hq => by
  unfold fSortSet at q
  split at q
  · rename_i l
    obtain ⟨v, rfl, a, vs, rfl, h1, h2⟩ := one_rep r
    obtain ⟨q1, q2, q3⟩ := q
    rw [ints_isI q1] at h2
    have ev := rep_ints h2
    subst ev
    have hl : (l.map D.num).length ≤ 60 := by rw [List.length_map]; exact q2
    refine ⟨a, l.map D.num, rfl, sqL_mono e h1, by omega, fun p c hcn hp => ⟨p, _, c, rfl, upd_same, by omega, fun ns p2 hs hm _ hn => ?_⟩⟩
    rw [setI_is hs fun k => (hm k).trans decide_eq_true_iff]
    exact hq _ _ F _ (.mkOwn (.lay e hp) hn (intsL _)) q3
  · exact q.elim
end
section
variable {X : Cx} {G : Gx} {W : WX} {k n : Nat} {e : Expr} {ts : DA} {pos p p2 p3 : Pos}
theorem j_sortSet (C : Cxt X G W k) (hm : X.mg "sorted" = none) (hm2 : X.mg "set" = none) (ha : JA X G W n [e] ts) (hg : Gl X "sorted" := by rfl) (hg2 : Gl X "set" := by rfl) (he : starEach [e] X.env = (false, eval e X.env) :: starEach [] X.env := by rfl)
    (he2 : starEach [.Call (.Name "set" p2) [e] [] p3] X.env = (false, eval (.Call (.Name "set" p2) [e] [] p3) X.env) :: starEach [] X.env := by rfl) (hpl : (backTo p3 (starEach ([] : List Expr) X.env)).any (·.1) = false := by rfl) (hpl2 : (backTo pos (starEach ([] : List Expr) X.env)).any (·.1) = false := by rfl) :
    JE X G W (.Call (.Name "sorted" p) [.Call (.Name "set" p2) [e] [] p3] [] pos) (dAs fSortSet ts) := by
  obtain ⟨T', q, l⟩ := ha
  refine ⟨_, pe_callB (cr_sortedSet C.calm) hg hm boot_sorted' (pa_cons (pe_callTy (cr_setL C.calm) hg2 hm2 PyProof.Rows.boot_set q (he := he) (hpl := hpl)) pa_nil he2) (he := he2) (hpl := hpl2), ?_⟩
  rw [C.K]
  have z : LE G W (dAs fSortSet ts) (tCB (fun vs H Q => rSetL G.K X.w vs H fun v H1 => rSortedSet X.w [v] H1 Q) T') := le_as (lr_sortSet X.w) l
  exact z
end
end DL

/- DLi -/
namespace DL
/-- each once -/
def ddL : List (List Int) → List (List Int)
  | [] => []
  | a :: r => if a ∈ ddL r then ddL r else a :: ddL r
theorem ddL_mem {x : List Int} : ∀ {l : List (List Int)}, x ∈ ddL l ↔ x ∈ l
  | [] => Iff.rfl
  | a :: r => by
    have ih := ddL_mem (x := x) (l := r)
    unfold ddL
    by_cases h : a ∈ ddL r
    · rw [if_pos h, ih, List.mem_cons]
      refine ⟨.inr, fun z => z.elim (fun e => ?_) id⟩
      rw [e]; exact ddL_mem.mp h
    · rw [if_neg h, List.mem_cons, List.mem_cons, ih]
theorem ddL_nodup : ∀ {l : List (List Int)}, (ddL l).Nodup
  | [] => List.nodup_nil
  | a :: r => by
    unfold ddL
    by_cases h : a ∈ ddL r
    · rw [if_pos h]; exact ddL_nodup
    · rw [if_neg h]; exact List.nodup_cons.mpr ⟨h, ddL_nodup⟩
theorem ddL_self : ∀ {l : List (List Int)}, l.Nodup → ddL l = l
  | [], _ => rfl
  | a :: r, h => by
    obtain ⟨h1, h2⟩ := List.nodup_cons.mp h
    unfold ddL
    rw [if_neg (fun z => h1 (ddL_mem.mp z)), ddL_self h2]
theorem ddL_len : ∀ l : List (List Int), (ddL l).length ≤ l.length
  | [] => Nat.le_refl _
  | a :: r => by
    have ih := ddL_len r
    unfold ddL
    split
    · exact Nat.le_succ_of_le ih
    · exact Nat.succ_le_succ ih
theorem sortT_is {l m : List (List Int)} (h : l.Perm m) (hp : l.Pairwise (· ≤ ·)) : l = sortL m := by
  unfold sortL
  have tr : ∀ a b c : List Int, decide (a ≤ b) = true → decide (b ≤ c) = true → decide (a ≤ c) = true := fun a b c h1 h2 => decide_eq_true (List.le_trans (of_decide_eq_true h1) (of_decide_eq_true h2))
  have tot : ∀ a b : List Int, (decide (a ≤ b) || decide (b ≤ a)) = true := fun a b => by
    rw [Bool.or_eq_true]
    rcases List.le_total a b with g | g
    · exact .inl (decide_eq_true g)
    · exact .inr (decide_eq_true g)
  exact List.Perm.eq_of_pairwise (le := fun a b => decide (a ≤ b) = true) (fun a b _ _ h1 h2 => List.le_antisymm (of_decide_eq_true h1) (of_decide_eq_true h2)) (hp.imp decide_eq_true) (List.pairwise_mergeSort tr tot m) (h.trans (List.mergeSort_perm m _).symm)
/-- a set's rows, sorted -/
theorem set_rows {L l : List (List Int)} (hp : L.Pairwise (· ≤ ·)) (hn : L.Nodup) (hm : ∀ x, x ∈ L ↔ x ∈ l) : L = sortL (ddL l) :=
  sortT_is ((List.perm_ext_iff_of_nodup hn ddL_nodup).mpr fun x => (hm x).trans ddL_mem.symm) hp
/-- sorted(set(xs)), xs a list of tuples of whole numbers, none of them empty -/
def fSortSetT : List D → DK → Prop
  | [.lst l], Q => (l.all fun d => d.ints && !d.nums.isEmpty) = true ∧ l.length ≤ 63 ∧ Q (.own ((sortL (ddL (l.map D.nums))).map tupI))
  | _, _ => False
instance : Det1 fSortSetT := ⟨by (intro x; refine has_of fun Q X z => ?_; unfold fSortSetT at z; split at z <;> first | exact z.elim | exact ⟨_, fun _ _ => ⟨fun y => y.2.2, fun q => ⟨z.1, z.2.1, q⟩⟩⟩)⟩
/-- len(set(xs)), xs a list of tuples of whole numbers -/
def fLenSetT : List D → DK → Prop
  | [.lst l], Q => l.all D.ints = true ∧ l.length ≤ 1999 ∧ Q (.val (.int ((ddL (l.map D.nums)).length : Nat)))
  | _, _ => False
instance : Det1 fLenSetT := ⟨by (intro x; refine has_of fun Q X z => ?_; unfold fLenSetT at z; split at z <;> first | exact z.elim | exact ⟨_, fun _ _ => ⟨fun y => y.2.2, fun q => ⟨z.1, z.2.1, q⟩⟩⟩)⟩
end DL

/- DLj -/
set_option maxHeartbeats 4000000
namespace DL
open PySem PySem.Spec PyProof.Rows L2
section
variable {P : Program} {w : World} {A : Around} {E : Value → Shared → Prop} {s : Shared}
theorem reads_ints {h : Heap} : ∀ {ns : List Int} {us : List Value}, IntsAre us ns → ReadsAll h us (ns.map PyData.int) []
  | _, _, .nil => .nil
  | _, _, .cons n t r => .cons (as := []) (bs := []) (.int n t) (reads_ints r)
theorem isT_reads {h : Heap} {k : List Int} {b : Addr} (x : IsT P w h k b) : Reads h (.ref b) (encT k) [] := by
  obtain ⟨o, us, n, ho, hc, hd, hi⟩ := x
  exact .tuple ho hc hd (reads_ints (ints_of_items hi))
/-- values that are rows of a set, as rows -/
theorem rows_back {L : List (Addr × List Int)} : ∀ vs : List Value, (∀ v ∈ vs, ∃ q ∈ L, v = Value.ref q.1) → ∃ M : List (Addr × List Int), vs = M.map (fun q => Value.ref q.1) ∧ ∀ q ∈ M, q ∈ L
  | [], _ => ⟨[], rfl, fun _ h => absurd h List.not_mem_nil⟩
  | v :: vs, h => by
    obtain ⟨q, hq, rfl⟩ := h v List.mem_cons_self
    obtain ⟨M, rfl, hM⟩ := rows_back vs fun u hu => h u (List.mem_cons_of_mem _ hu)
    exact ⟨q :: M, rfl, fun r hr => (List.mem_cons.mp hr).elim (fun e => e ▸ hq) (hM r)⟩
theorem each_refs : ∀ M : List (Addr × List Int), PySem.W.EachIs (fun (v : Value) (q : Addr × List Int) => v = Value.ref q.1) (M.map fun q => Value.ref q.1) M
  | [] => .nil
  | _ :: M => .cons rfl (each_refs M)
theorem refs_each {vs : List Value} {M : List (Addr × List Int)} (h : PySem.W.EachIs (fun (v : Value) (q : Addr × List Int) => v = Value.ref q.1) vs M) : vs = M.map fun q => Value.ref q.1 := by
  induction h with
  | nil => rfl
  | cons e _ ih => rw [List.map_cons, e, ih]
theorem each_rows {α β : Type} {R : α → β → Prop} {S : α → β → Prop} : ∀ {vs : List α} {bs : List β}, PySem.W.EachIs R vs bs → (∀ v b, b ∈ bs → R v b → S v b) → PySem.W.EachIs S vs bs
  | _, _, .nil, _ => .nil
  | _, _, .cons h t, f => .cons (f _ _ List.mem_cons_self h) (each_rows t fun v b hb => f v b (List.mem_cons_of_mem _ hb))
/-- sorted(set) of tuples of whole numbers, none of them empty -/
theorem sorted_setP {a : Addr} {L : List (Addr × List Int)} {es : Array (Int × Value)} {ep : Nat} {t : SetTable} {Q : Value → Shared → Prop} (R : SetTR P w s.heap a L es ep t) (hh : A.handled = none) (hne : ∀ q ∈ L, q.2 ≠ []) (hu : A.units + 64 < cLine)
    (hQ : ∀ s' p (out : Array Value) (c : Nat) (M : List (Addr × List Int)), (∀ b o, s.heap.get? b = some o → s'.heap.get? b = some o) → s'.gens = s.gens → s'.os = s.os → s.heap.objs.size ≤ p →
      s'.heap.get? p = some (seqObj "list" out c) → out.toList = M.map (fun q => Value.ref q.1) → M.Perm L → M.Pairwise (fun q r => q.2 ≤ r.2) → Q (.ref p) s') :
    wpAny (model P w) A (call (.builtin "sorted") [.ref a]) Q E s := by
  obtain ⟨o, ho, hex, hd⟩ := R.ob
  have hsz := R.size
  have hfew := R.few
  refine Calls.call_function_entry kind_sorted plain_sorted entry_sorted (args_sorted1 _) ?_
  unfold Builtin.«sorted»
  refine wpAny_bind (m := checkCount "sorted" 1 1 _) (wpAny_pure ?_)
  refine wpAny_bind (collect_set (A := A.in1) hh ⟨o, ho, hex.1, hd⟩ R.fits (by unfold scanBound; omega) R.tab.ris R.led fun s1 vs k1 hz g1 o1 pm => ?_)
  have hes : es.toList.map (·.2) = L.map fun q => Value.ref q.1 := by
    rw [R.rows, rowsOf, List.map_map]; rfl
  rw [hes] at pm
  obtain ⟨M, rfl, hM⟩ := rows_back vs fun v hv => by
    obtain ⟨q, hq, e⟩ := List.mem_map.mp (pm.mem_iff.mp hv)
    exact ⟨q, hq, e.symm⟩
  have inj : ∀ q ∈ L, ∀ r ∈ L, q.1 = r.1 → q = r := fun q hq r hr e => by
    have a1 := R.tup q hq
    have a2 := R.tup r hr
    rw [e] at a1
    exact Prod.ext e (a1.inj a2)
  have nL : L.Nodup := nodup_of_map R.nd
  have pML : M.Perm L := by
    have nref : (L.map fun q => Value.ref q.1).Nodup := List.pairwise_map.mpr (nL.imp_of_mem fun {q r} hq hr hn e => by
      injection e with e
      exact hn (inj q hq r hr e))
    refine (List.perm_ext_iff_of_nodup (nodup_of_map (pm.nodup_iff.mpr nref)) nL).mpr fun q => ⟨hM q, fun hq => ?_⟩
    obtain ⟨r, hr, e⟩ := List.mem_map.mp (pm.mem_iff.mpr (List.mem_map.mpr ⟨q, hq, rfl⟩))
    injection e with e
    rw [← inj r (hM r hr) q hq e]
    exact hr
  have hlen : M.length < 64 := by rw [pML.length_eq]; exact hfew
  refine wpAny_bind (wpAny_newList ?_ (by rw [sizeLine_eq]; simp; omega))
  have hoL : (s1.heap.push (seqObj "list" (M.map fun q => Value.ref q.1).toArray 0)).get? s1.heap.objs.size = some (seqObj "list" (M.map fun q => Value.ref q.1).toArray 0) := Heap.get?_push_size _ rfl
  have tk : ∀ q ∈ M, IsT P w (s1.heap.push (seqObj "list" (M.map fun q => Value.ref q.1).toArray 0)) q.2 q.1 := fun q hq => isT_keep (R.tup q (hM q hq)) fun b u e => Heap.get?_push_of_some _ (k1 b u e)
  have eR := each_refs M
  refine wpAny_bind (wpAny_holding (PySem.W.list_sort_data (s := { s1 with heap := s1.heap.push (seqObj "list" (M.map fun q => Value.ref q.1).toArray 0) }) (enc := fun q : Addr × List Int => encT q.2) hoL eR
    (each_rows eR fun v b hb e => ⟨[], by rw [e]; exact isT_reads (tk b hb), List.not_mem_nil⟩) (PySem.W.AllAlike.of fun _ _ => alike_tups _ _) (.inl fun d hd => ?_) (by rw [sizeLine_eq]; omega) (fun b hb => ?_) fun out ho2 hm => ?_))
  · obtain ⟨q, hq, rfl⟩ := List.mem_map.mp hd
    cases hk : q.2 with
    | nil => exact (hne q (hM q hq) hk).elim
    | cons x k => exact ⟨.int x, k.map PyData.int, rfl⟩
  · have h1 := depth_tup b.2
    have h2 : A.in1.units ≤ A.units + 1 := by simp
    show A.in1.units + 1 + (encT b.2).depth < cLine
    omega
  · have ele : PySem.W.dataLe false (fun q : Addr × List Int => encT q.2) = fun a b => decide (a.2 ≤ b.2) := by
      funext p q
      show (!PySem.W.dataLt (encT q.2) (encT p.2)) = _
      rw [dataLt_tups]
      by_cases h : p.2 ≤ q.2
      · rw [decide_eq_true h]
        simp [List.not_lt.mpr h]
      · rw [decide_eq_false h]
        simp [List.not_le.mp h]
    rw [ele] at hm
    obtain ⟨c, hc⟩ := sortedHeap_at (vs := M.map fun q => Value.ref q.1) (out := out.toArray) hoL
    have tr : ∀ a b c : Addr × List Int, decide (a.2 ≤ b.2) = true → decide (b.2 ≤ c.2) = true → decide (a.2 ≤ c.2) = true := fun a b c h1 h2 => decide_eq_true (List.le_trans (of_decide_eq_true h1) (of_decide_eq_true h2))
    have tot : ∀ a b : Addr × List Int, (decide (a.2 ≤ b.2) || decide (b.2 ≤ a.2)) = true := fun a b => by
      rw [Bool.or_eq_true]
      rcases List.le_total a.2 b.2 with g | g
      · exact .inl (decide_eq_true g)
      · exact .inr (decide_eq_true g)
    refine wpAny_pure ⟨_, rfl, hQ _ s1.heap.objs.size out.toArray c _ (fun b u e => ?_) g1 o1 hz hc (refs_each hm) ((List.mergeSort_perm M _).trans pML) ((List.pairwise_mergeSort tr tot M).imp fun h => of_decide_eq_true h)⟩
    have q := k1 b u e
    have hlt := Heap.lt_size q
    show (sortedHeap _ s1.heap.objs.size _ _).get? b = some u
    rw [sortedHeap_old (Nat.ne_of_lt hlt) (by rw [size_push']; exact Nat.lt_succ_of_lt hlt)]
    exact Heap.get?_push_of_some _ q
end
/-- sorted(set) -/
def rSortedP (K : PySem.W.Frag) (P : Program) (w : World) : List V → Hp → VK → Prop := fun vs H Q => ∃ (a : Addr) (L : List (Addr × List Int)), vs = [V.ref a] ∧ H a = some (SetTO P w a L) ∧ (∀ q ∈ L, SqT K H q.1 (q.2.map V.int)) ∧ (∀ q ∈ L, q.2 ≠ []) ∧
  ∀ (M : List (Addr × List Int)) (p : Addr), M.Perm L → (M.map (·.2)).Nodup → M.Pairwise (fun q r => q.2 ≤ r.2) → H p = none → Q (.ref p) (upd H p (.lst (M.map fun q => V.ref q.1)))
section
variable {X : Cx}
theorem cr_sortedP (hc : X.calm = true) (hu : X.A.units + 64 < cLine) : CallR X (.builtin "sorted") (rSortedP X.K X.prog X.w) := by
  intro pins s σ H vs us Q I r h
  obtain ⟨a, L, rfl, ha, hk, hne, q⟩ := h
  have R0 : SetT0 X.prog X.w s.heap a L := (I.hok a _ ha).1
  obtain ⟨es, ep, t, R⟩ := R0.full fun p hp => I.isT (hk p hp)
  rw [Vals.ref1 r]
  refine sorted_setP R (I.ok.hd hc) hne hu fun s' p out c M k g o hp hg hout pm pw => ?_
  have hlen : (M.map fun q => V.ref q.1).length ≤ sizeLine := by
    have := R.few
    rw [List.length_map, sizeLine_eq, pm.length_eq]; omega
  have hn : H p = none := I.hok.fresh hp
  have hv : Vals (M.map fun q => V.ref q.1) out.toList := by rw [hout]; exact vals_of_refs M
  have J : Inv X pins σ (upd H p (.lst (M.map fun q => V.ref q.1))) { s with heap := s'.heap, gens := s'.gens, drawn := s'.drawn, toks := s'.toks } :=
    I.call (ch := []) (Un.laid k hp hn) (I.hok.laid k hp ⟨hlen, out.toList, c, hv, hg⟩) (by rw [g]; exact I.bare) (fun _ z => nomatch z)
  have e : s' = { s with heap := s'.heap, gens := s'.gens, drawn := s'.drawn, toks := s'.toks } := by
    cases s'
    cases s
    cases o
    rfl
  rw [e]
  exact ⟨.ref p, _, J, rfl, q M p pm ((pm.map (·.2)).nodup_iff.mpr R.nd) pw hn⟩
end
section
variable {G : Gx} {W : WX} {ts : DA} {Ts : TA}
theorem pair_refs {K : PySem.W.Frag} {H : Hp} {Good : V → List Int → Prop} (hg : Tpl K H Good) : ∀ {vs : List V} {nss : List (List Int)}, Paired Good vs nss → ∃ ks : List (Addr × List Int), vs = ks.map (fun q => V.ref q.1) ∧ nss = ks.map (·.2) ∧ ∀ q ∈ ks, Good (V.ref q.1) q.2 ∧ SqT K H q.1 (q.2.map V.int)
  | _, _, .nil => ⟨[], rfl, rfl, fun _ h => absurd h List.not_mem_nil⟩
  | _, _, .cons g t => by
    obtain ⟨ks, rfl, rfl, h⟩ := pair_refs hg t
    obtain ⟨a, rfl, h1⟩ := hg _ _ g
    refine ⟨(a, _) :: ks, rfl, rfl, fun q hq => ?_⟩
    rcases List.mem_cons.mp hq with e | hq
    · rw [e]; exact ⟨g, h1⟩
    · exact h q hq
theorem refs_pair {Good : V → List Int → Prop} : ∀ {M : List (Addr × List Int)}, (∀ q ∈ M, Good (V.ref q.1) q.2) → Paired Good (M.map fun q => V.ref q.1) (M.map (·.2))
  | [], _ => .nil
  | q :: M, h => .cons (h q List.mem_cons_self) (refs_pair fun r hr => h r (List.mem_cons_of_mem _ hr))
theorem lr_sortSetT (P : Program) (w : World) : LRs G fSortSetT (fun vs H Q => rSetOfT G.K P w vs H fun v H1 => rSortedP G.K P w [v] H1 Q) := fun F H xs us Q QV e r q hq => by
  unfold fSortSetT at q
  split at q
  · rename_i l
    obtain ⟨v, rfl, a, vs, rfl, h1, h2⟩ := one_rep r
    obtain ⟨q1, q2, q3⟩ := q
    have hall : ∀ d ∈ l, d.ints = true ∧ d.nums ≠ [] := fun d hd => by
      have z := Bool.and_eq_true_iff.mp (List.all_eq_true.mp q1 d hd)
      exact ⟨z.1, fun n => by rw [n] at z; cases z.2⟩
    have hp := rep_pair (List.all_eq_true.mpr fun d hd => (hall d hd).1) h2
    obtain ⟨ks, rfl, e2, hk⟩ := pair_refs (rep_tpl e) hp
    have hlk : ks.length = l.length := by
      have := congrArg List.length e2
      rw [List.length_map, List.length_map] at this
      exact this.symm
    refine ⟨a, ks, rfl, sqL_mono e h1, fun q hq => (hk q hq).2, by omega, fun b L hb hs hm => ?_⟩
    have hbo : ∀ (c : Addr) o, H c = some o → upd H b (SetTO P w b L) c = some o := fun c o z => by
      rw [upd_ne (fun y => by rw [y, hb] at z; cases z)]; exact z
    have eb : Ext F H F (upd H b (SetTO P w b L)) := .lay e hb
    refine ⟨b, L, rfl, upd_same, fun q hq => sqT_mono (same_upd hb) (hk q (hs q hq)).2, fun q hq => ?_, fun M p pm nd pw hn => ?_⟩
    · have : q.2 ∈ l.map D.nums := by rw [e2]; exact List.mem_map.mpr ⟨q, hs q hq, rfl⟩
      obtain ⟨d, hd, e3⟩ := List.mem_map.mp this
      rw [← e3]; exact (hall d hd).2
    · have es : M.map (·.2) = sortL (ddL (l.map D.nums)) := by
        refine set_rows (List.pairwise_map.mpr pw) nd fun x => ?_
        rw [e2, (pm.map (·.2)).mem_iff]
        refine ⟨fun z => ?_, fun z => ?_⟩
        · obtain ⟨q, hq, rfl⟩ := List.mem_map.mp z
          exact List.mem_map.mpr ⟨q, hs q hq, rfl⟩
        · obtain ⟨q, hq, rfl⟩ := List.mem_map.mp z
          exact hm q hq
      refine hq _ _ F _ (.mkOwn eb hn ?_) q3
      rw [← es]
      exact pair_rep (refs_pair fun q hq => (hk q (hs q (pm.mem_iff.mp hq))).1)
  · exact q.elim
end
section
variable {X : Cx} {G : Gx} {W : WX} {k n : Nat} {e : Expr} {ts : DA} {pos p p2 p3 : Pos}
theorem j_sortSetT (C : Cxt X G W k) (hm : X.mg "sorted" = none) (hm2 : X.mg "set" = none) (ha : JA X G W n [e] ts) (hg : Gl X "sorted" := by rfl) (hg2 : Gl X "set" := by rfl) (he : starEach [e] X.env = (false, eval e X.env) :: starEach [] X.env := by rfl)
    (he2 : starEach [.Call (.Name "set" p2) [e] [] p3] X.env = (false, eval (.Call (.Name "set" p2) [e] [] p3) X.env) :: starEach [] X.env := by rfl) (hpl : (backTo p3 (starEach ([] : List Expr) X.env)).any (·.1) = false := by rfl) (hpl2 : (backTo pos (starEach ([] : List Expr) X.env)).any (·.1) = false := by rfl) :
    JE X G W (.Call (.Name "sorted" p) [.Call (.Name "set" p2) [e] [] p3] [] pos) (dAs fSortSetT ts) := by
  obtain ⟨T', q, l⟩ := ha
  refine ⟨_, pe_callB (cr_sortedP C.calm C.units) hg hm boot_sorted' (pa_cons (pe_callTy (cr_setOfT C.calm C.units) hg2 hm2 PyProof.Rows.boot_set q (he := he) (hpl := hpl)) pa_nil he2) (he := he2) (hpl := hpl2), ?_⟩
  rw [C.K]
  have z : LE G W (dAs fSortSetT ts) (tCB (fun vs H Q => rSetOfT G.K X.prog X.w vs H fun v H1 => rSortedP G.K X.prog X.w [v] H1 Q) T') := le_as (lr_sortSetT X.prog X.w) l
  exact z
end
end DL

/- Lcg -/
namespace DL.Big
theorem five4 : ∀ d : Nat, 5 ^ d % 4 = 1
  | 0 => rfl
  | d + 1 => by rw [Nat.pow_succ, Nat.mul_mod, five4 d]
theorem five8 (e : Nat) : 5 ^ (2 * e + 1) % 8 = 5 := by
  have h : ∀ e : Nat, 25 ^ e % 8 = 1 := fun e => by
    induction e with
    | zero => rfl
    | succ e ih => rw [Nat.pow_succ, Nat.mul_mod, ih]
  rw [Nat.pow_succ, Nat.pow_mul, show (5 : Nat) ^ 2 = 25 from rfl, Nat.mul_mod, h e]
theorem five_ge (d : Nat) : 1 ≤ 5 ^ d := Nat.pow_pos (by decide)
theorem odd_cop (n w : Nat) : Nat.Coprime (2 ^ n) (2 * w + 1) := by
  refine Nat.Coprime.pow_left n ?_
  unfold Nat.Coprime
  rw [Nat.gcd_rec, show (2 * w + 1) % 2 = 1 by omega]
  decide
theorem five_ord : ∀ (n d : Nat), 2 ^ (n + 2) ∣ 5 ^ d - 1 → 2 ^ n ∣ d
  | 0, d, _ => ⟨d, by omega⟩
  | n + 1, d, h => by
    have h8 : 8 ∣ 5 ^ d - 1 := Nat.dvd_trans ⟨2 ^ n, by rw [show n + 1 + 2 = 3 + n by omega, Nat.pow_add]⟩ h
    have hg := five_ge d
    rcases Nat.mod_two_eq_zero_or_one d with hd | hd
    · obtain ⟨e, rfl⟩ : ∃ e, d = 2 * e := ⟨d / 2, by omega⟩
      have h4 := five4 e
      obtain ⟨w, hw⟩ : ∃ w, 5 ^ e + 1 = 2 * (2 * w + 1) := ⟨(5 ^ e + 1) / 4, by omega⟩
      have hs : 5 ^ (2 * e) - 1 = (5 ^ e - 1) * (5 ^ e + 1) := by
        obtain ⟨x, hx⟩ : ∃ x, 5 ^ e = x + 1 := ⟨5 ^ e - 1, by have := five_ge e; omega⟩
        rw [Nat.mul_comm 2 e, Nat.pow_mul, hx, Nat.pow_two]
        have : (x + 1) * (x + 1) = (x + 1 - 1) * (x + 1 + 1) + 1 := by
          rw [Nat.add_sub_cancel]
          grind
        omega
      rw [hs, hw, show n + 1 + 2 = (n + 2) + 1 by omega, Nat.pow_succ, Nat.mul_left_comm, Nat.mul_comm (2 ^ (n + 2)) 2] at h
      have h2 := Nat.dvd_of_mul_dvd_mul_left (by decide : 0 < 2) h
      have h3 := Nat.Coprime.dvd_of_dvd_mul_right (odd_cop (n + 2) w) h2
      obtain ⟨q, hq⟩ := five_ord n e h3
      exact ⟨q, by rw [hq, Nat.pow_succ]; grind⟩
    · obtain ⟨e, rfl⟩ : ∃ e, d = 2 * e + 1 := ⟨d / 2, by omega⟩
      have := five8 e
      omega
/-- the k-th number behind i -/
def rnd (M i : Nat) : Nat → Nat
  | 0 => i
  | k + 1 => (rnd M i k * 5 + 1) % M
theorem rnd_pow {n i : Nat} : ∀ k, (4 * rnd (2 ^ n) i k + 1) % 2 ^ (n + 2) = (5 ^ k * (4 * i + 1)) % 2 ^ (n + 2)
  | 0 => by show (4 * i + 1) % _ = _; rw [Nat.pow_zero, Nat.one_mul]
  | k + 1 => by
    have e4 : (2 : Nat) ^ (n + 2) = 4 * 2 ^ n := by rw [Nat.pow_add, Nat.mul_comm]
    have ih := rnd_pow (n := n) (i := i) k
    show (4 * ((rnd (2 ^ n) i k * 5 + 1) % 2 ^ n) + 1) % _ = _
    rw [e4] at ih ⊢
    rw [← Nat.mul_mod_mul_left, Nat.mod_add_mod, show 4 * (rnd (2 ^ n) i k * 5 + 1) + 1 = 5 * (4 * rnd (2 ^ n) i k + 1) by omega, Nat.mul_mod, ih, ← Nat.mul_mod, Nat.pow_succ, Nat.mul_comm (5 ^ k) 5, Nat.mul_assoc]
theorem rnd_inj {n i : Nat} {k k' : Nat} (hk : k ≤ k') (hk' : k' < 2 ^ n) (h : rnd (2 ^ n) i k = rnd (2 ^ n) i k') : k = k' := by
  have h1 := rnd_pow (n := n) (i := i) k
  have h2 := rnd_pow (n := n) (i := i) k'
  rw [h, h2] at h1
  obtain ⟨d, rfl⟩ : ∃ d, k' = k + d := ⟨k' - k, by omega⟩
  have hle : 5 ^ k * (4 * i + 1) ≤ 5 ^ (k + d) * (4 * i + 1) := Nat.mul_le_mul_right _ (Nat.pow_le_pow_right (by decide) (by omega))
  have hd : 2 ^ (n + 2) ∣ 5 ^ (k + d) * (4 * i + 1) - 5 ^ k * (4 * i + 1) := Nat.dvd_of_mod_eq_zero (Nat.sub_mod_eq_zero_of_mod_eq h1)
  obtain ⟨w, hw⟩ : ∃ w, 5 ^ k * (4 * i + 1) = 2 * w + 1 := by
    have h4 : 5 ^ k * (4 * i + 1) % 4 = 1 := by rw [Nat.mul_mod, five4 k]; omega
    exact ⟨5 ^ k * (4 * i + 1) / 2, by omega⟩
  have e : 5 ^ (k + d) * (4 * i + 1) - 5 ^ k * (4 * i + 1) = (5 ^ d - 1) * (2 * w + 1) := by
    rw [← hw, Nat.sub_mul, Nat.one_mul, Nat.pow_add]
    congr 1
    grind
  rw [e] at hd
  obtain ⟨q, hq⟩ := five_ord n d (Nat.Coprime.dvd_of_dvd_mul_right (odd_cop _ w) hd)
  rcases Nat.eq_zero_or_pos q with z | z
  · rw [z, Nat.mul_zero] at hq; omega
  · have : 2 ^ n * 1 ≤ 2 ^ n * q := Nat.mul_le_mul_left _ z
    omega
theorem rnd_lt {M i : Nat} (hi : i < M) : ∀ k, rnd M i k < M
  | 0 => hi
  | k + 1 => Nat.mod_lt _ (by omega)
theorem fits : ∀ (l D : List Nat), l.Nodup → (∀ x ∈ l, x ∈ D) → l.length ≤ D.length
  | [], _, _, _ => Nat.zero_le _
  | x :: l, D, hn, hs => by
    obtain ⟨h1, h2⟩ := List.nodup_cons.mp hn
    have hx := hs x List.mem_cons_self
    have ih := fits l (D.erase x) h2 fun y hy => (List.mem_erase_of_ne (fun e : y = x => h1 (by rw [← e]; exact hy))).2 (hs y (List.mem_cons_of_mem _ hy))
    have := List.length_erase_of_mem hx
    have := List.length_pos_of_mem hx
    rw [List.length_cons]; omega
/-- from anywhere all is met -/
theorem rnd_all {n i j : Nat} (hi : i < 2 ^ n) (hj : j < 2 ^ n) : ∃ k, k < 2 ^ n ∧ rnd (2 ^ n) i k = j := by
  rcases Classical.em (∃ k, k < 2 ^ n ∧ rnd (2 ^ n) i k = j) with c | c
  · exact c
  exfalso
  have hnd : ((List.range (2 ^ n)).map (rnd (2 ^ n) i)).Nodup := by
    refine List.pairwise_map.mpr (List.Pairwise.imp_of_mem (fun {a b} ha hb h e => ?_) List.pairwise_lt_range)
    have := rnd_inj (Nat.le_of_lt h) (List.mem_range.mp hb) e
    omega
  have h := fits _ ((List.range (2 ^ n)).erase j) hnd fun x hx => by
    obtain ⟨k, hk, rfl⟩ := List.mem_map.mp hx
    exact (List.mem_erase_of_ne fun e => c ⟨k, List.mem_range.mp hk, e⟩).2 (List.mem_range.mpr (rnd_lt hi k))
  rw [List.length_map, List.length_range, List.length_erase_of_mem (List.mem_range.mpr hj), List.length_range] at h
  have : 0 < 2 ^ n := Nat.pow_pos (by decide)
  omega
end DL.Big

/- DLr -/
set_option maxHeartbeats 4000000
namespace DL.Big
open PySem PySem.Spec PyProof.Rows L2
def Mk (m : Nat) : Prop := ∃ n, m + 1 = 2 ^ n ∧ 1 ≤ n
theorem Mk.odd {m : Nat} : Mk m → m % 2 = 1
  | ⟨n + 1, e, _⟩ => by rw [Nat.pow_succ] at e; omega
  | ⟨0, _, h⟩ => by omega
theorem lcgI_rnd (m i : Nat) : ∀ k, lcgI m i k = rnd (m + 1) i k
  | 0 => rfl
  | k + 1 => by show (lcgI m i k * 5 + 1) % (m + 1) = _; rw [lcgI_rnd m i k]; rfl
theorem meet {m : Nat} (hm : Mk m) (h : Int) {j : Nat} (hj : j ≤ m) : ∃ n, n ≤ m + 12 ∧ runI m (SetTable.bits h) n = j := by
  obtain ⟨n, e, _⟩ := hm
  have h12 := runI_le m (SetTable.bits h) 12
  obtain ⟨k, hk, hv⟩ := rnd_all (n := n) (i := runI m (SetTable.bits h) 12) (j := j) (by omega) (by omega)
  exact ⟨12 + k, by omega, by rw [runI_tail (bits_lt h), lcgI_rnd, e, hv]⟩
theorem way_hit {m : Nat} (hm : Mk m) (h : Int) {j : Nat} (hj : j ≤ m) : ∃ k, k < 10 * SetTable.turns m ∧ way m h k = j := by
  obtain ⟨n, hn, e⟩ := meet hm h hj
  obtain ⟨k, hk, e2⟩ := run_nth m (SetTable.bits h) n
  refine ⟨k, by unfold SetTable.turns; omega, ?_⟩
  show (nth m (runAt m (SetTable.bits h % (m + 1)) (SetTable.bits h)) k).j = j
  rw [e2]; exact e
theorem way_in (m : Nat) (h : Int) (k : Nat) : way m h k ≤ m := by
  have hi : SetTable.bits h % (m + 1) ≤ m := Nat.le_of_lt_succ (Nat.mod_lt _ (Nat.succ_pos _))
  have r := runEnd_bd hi
  have q := nth_in (m := m) k (runAt m (SetTable.bits h % (m + 1)) (SetTable.bits h)) (show SetTable.bits h % (m + 1) + (SetTable.runEnd m (SetTable.bits h % (m + 1)) - SetTable.bits h % (m + 1)) ≤ m by omega)
  exact Nat.le_trans (Nat.le_add_right _ _) q
structure Tb (t : SetTable) (hs : List Int) : Prop where
  up : Ris t.place.toList
  none : t.dummies = #[]
  num : t.place.size = hs.length
  msk : Mk t.mask
  le : ∀ x ∈ t.place.toList, x ≤ t.mask
  on : ∀ (i : Nat) (h : Int) (j : Nat), hs[i]? = some h → t.place.toList[i]? = some j → ∃ k, way t.mask h k = j ∧ ∀ c, c < k → way t.mask h c ∈ t.place.toList
/-- the first place of the way that is empty -/
theorem Tb.gap {t : SetTable} {hs : List Int} (T : Tb t hs) (hl : hs.length ≤ t.mask) (h : Int) : ∃ K, K < 10 * SetTable.turns t.mask ∧ way t.mask h K ∉ t.place.toList ∧ ∀ c, c < K → way t.mask h c ∈ t.place.toList := by
  obtain ⟨j, hj, hn⟩ := st_missing t.place.toList (t.mask + 1) (by rw [Array.length_toList, T.num]; omega)
  obtain ⟨k, hk, rfl⟩ := way_hit T.msk h (Nat.le_of_lt_succ hj)
  obtain ⟨K, h1, h2, h3⟩ := st_least (p := fun c => way t.mask h c ∉ t.place.toList) k hn
  exact ⟨K, Nat.lt_of_le_of_lt h1 hk, h2, fun c hc => Classical.byContradiction (h3 c hc)⟩
/-- what has this hash stands on the way ahead of it -/
theorem Tb.ahead {t : SetTable} {hs : List Int} (T : Tb t hs) {h : Int} {K i j : Nat} (hK : way t.mask h K ∉ t.place.toList) (hi : hs[i]? = some h) (hj : t.place.toList[i]? = some j) : ∃ c, c < K ∧ way t.mask h c = j := by
  obtain ⟨k, e, hb⟩ := T.on i h j hi hj
  refine ⟨k, ?_, e⟩
  rcases Nat.lt_or_ge k K with c | c
  · exact c
  · refine absurd ?_ hK
    rcases Nat.lt_or_eq_of_le c with c | c
    · exact hb K c
    · rw [c, e]; exact List.mem_of_getElem? hj
/-- one more, at the way's first empty place -/
theorem Tb.ins {t : SetTable} {hs : List Int} (T : Tb t hs) {h : Int} {K : Nat} (hK : way t.mask h K ∉ t.place.toList) (hb : ∀ c, c < K → way t.mask h c ∈ t.place.toList) {j p : Nat} (hj : way t.mask h K = j) (hp : SetTable.below t.place j = p) :
    p ≤ hs.length ∧ Tb (t.put j).1 (hs.take p ++ h :: hs.drop p) ∧ (t.put j).1.fill = hs.length + 1 := by
  have hjm : j ≤ t.mask := hj ▸ way_in _ _ _
  have hsz : t.place.toList.length = hs.length := by rw [Array.length_toList]; exact T.num
  have hcut := (below_cut T.up j).1
  rw [hp] at hcut
  have hph : p ≤ hs.length := by rw [← T.num]; exact hcut
  have hpl : p ≤ t.place.toList.length := by omega
  have hnp : t.place[SetTable.below t.place j]? ≠ some j := fun e => hK (hj ▸ List.mem_of_getElem? (by rw [Array.getElem?_toList]; exact e))
  have hpp : (t.put j).1.place.toList = t.place.toList.take p ++ j :: t.place.toList.drop p := hp ▸ put_place t j
  have hsize : (t.put j).1.place.size = hs.length + 1 := by rw [← Array.length_toList, hpp, len_ins _ hpl, hsz]
  have keep : ∀ {x : Nat}, x ∈ t.place.toList → x ∈ (t.put j).1.place.toList := fun hx => hpp ▸ mem_ins.2 (.inr hx)
  refine ⟨hph, ⟨ris_insert T.up hnp, put_dm T.none j, by rw [len_ins _ hph]; exact hsize, T.msk, fun x hx => ?_, fun i h' j' h1 h2 => ?_⟩, ?_⟩
  · rw [hpp] at hx
    rcases mem_ins.1 hx with z | z
    · exact z ▸ hjm
    · exact T.le x z
  · rw [tins_get hs hph] at h1
    rw [hpp, tins_get _ hpl] at h2
    show ∃ k, way t.mask h' k = j' ∧ ∀ c, c < k → way t.mask h' c ∈ (t.put j).1.place.toList
    have old : ∀ i, hs[i]? = some h' → t.place.toList[i]? = some j' → ∃ k, way t.mask h' k = j' ∧ ∀ c, c < k → way t.mask h' c ∈ (t.put j).1.place.toList := fun i a b => by
      obtain ⟨k, e, z⟩ := T.on i h' j' a b
      exact ⟨k, e, fun c hc => keep (z c hc)⟩
    by_cases c : i < p
    · rw [if_pos c] at h1 h2; exact old i h1 h2
    · rw [if_neg c] at h1 h2
      by_cases d : i = p
      · rw [if_pos d] at h1 h2
        cases h1
        cases h2
        exact ⟨K, hj, fun c hc => keep (hb c hc)⟩
      · rw [if_neg d] at h1 h2; exact old (i - 1) h1 h2
  · show (t.put j).1.place.size + (t.put j).1.dummies.size = _
    rw [hsize, put_dm T.none j]; rfl
theorem free_at {m : Nat} (hm : Mk m) (owner : Array (Option Nat)) (h : Int) {j : Nat} (hj : j ≤ m) (hf : oAt owner j = none) :
    ∃ K, SetTable.layClean.free m owner (SetTable.turns m) (SetTable.bits h % (m + 1)) (SetTable.bits h) = some (way m h K) ∧ oAt owner (way m h K) = none ∧ ∀ c, c < K → oAt owner (way m h c) ≠ none := by
  obtain ⟨n, hn, e⟩ := meet hm h hj
  have hw : (nth m (runAt m (SetTable.bits h % (m + 1)) (SetTable.bits h)) (off m (SetTable.bits h % (m + 1)) (SetTable.bits h) n)).j = j := by
    rw [nth_off, itL_run]; exact e
  obtain ⟨K, k1, k2, k3⟩ := st_least (p := fun c => oAt owner (way m h c) = none) (off m (SetTable.bits h % (m + 1)) (SetTable.bits h) n) (show oAt owner (nth m (runAt m (SetTable.bits h % (m + 1)) (SetTable.bits h)) (off m (SetTable.bits h % (m + 1)) (SetTable.bits h) n)).j = none from by rw [hw]; exact hf)
  refine ⟨K, free_spec m owner (SetTable.turns m) n _ _ K (by unfold SetTable.turns; omega) k1 (fun c hc => ?_) ?_, k2, k3⟩
  · exact Option.isNone_eq_false_iff.mpr (Option.isSome_iff_ne_none.mpr (k3 c hc))
  · exact Option.isNone_iff_eq_none.mpr k2
theorem own_step {m : Nat} (hm : Mk m) {done : List Int} {owner : Array (Option Nat)} (W : Own m done owner) (hl : done.length ≤ m) (h : Int) :
    ∃ j, SetTable.layClean.free m owner (SetTable.turns m) (SetTable.bits h % (m + 1)) (SetTable.bits h) = some j ∧ Own m (done ++ [h]) (owner.setIfInBounds j (some done.length)) := by
  obtain ⟨ps, hps, hin⟩ := W.ps
  obtain ⟨j0, h0, hn0⟩ := st_missing ps (m + 1) (by omega)
  have hj0 : oAt owner j0 = none := Classical.byContradiction fun c => hn0 (hin j0 (by omega) c)
  obtain ⟨K, e1, e2, e3⟩ := free_at hm owner h (Nat.le_of_lt_succ h0) hj0
  have hjm := way_in m h K
  generalize hj : way m h K = j at *
  have hself := oAt_set_self (some done.length) (show j < owner.size by rw [W.sz]; omega)
  have more : ∀ {i : Nat}, oAt owner i ≠ none → oAt (owner.setIfInBounds j (some done.length)) i ≠ none := fun {i} hi => by
    by_cases c : i = j
    · rw [c, hself]; exact fun e => nomatch e
    · rw [oAt_set_ne _ c]; exact hi
  have hlen : (done ++ [h]).length = done.length + 1 := by rw [List.length_append]; rfl
  refine ⟨j, e1, ⟨by rw [Array.size_setIfInBounds]; exact W.sz, fun x k hx e => ?_, fun k hk => ?_, ⟨j :: ps, by rw [List.length_cons, hps, hlen], fun x hx e => ?_⟩⟩⟩
  · by_cases c : x = j
    · rw [c, hself] at e
      cases e
      exact ⟨h, K, by rw [List.getElem?_append_right (Nat.le_refl _), Nat.sub_self]; rfl, hj.trans c.symm, fun c hc => more (e3 c hc)⟩
    · rw [oAt_set_ne _ c] at e
      obtain ⟨h', K', a1, a2, a3⟩ := W.at_ x k hx e
      exact ⟨h', K', by rw [List.getElem?_append_left (List.getElem?_eq_some_iff.mp a1).1]; exact a1, a2, fun c hc => more (a3 c hc)⟩
  · rcases Nat.lt_or_ge k done.length with c | c
    · obtain ⟨x, hx, e⟩ := W.all k c
      exact ⟨x, hx, by rw [oAt_set_ne _ (fun z => by rw [z, e2] at e; cases e)]; exact e⟩
    · have : k = done.length := by omega
      rw [this]; exact ⟨j, hjm, hself⟩
  · by_cases c : x = j
    · exact c ▸ List.mem_cons_self
    · rw [oAt_set_ne _ c] at e
      exact List.mem_cons_of_mem _ (hin x hx e)
theorem lay_all {m : Nat} (hm : Mk m) : ∀ (rest done : List Int) (owner : Array (Option Nat)), Own m done owner → done.length + rest.length ≤ m → ∃ o', rest.foldl (stepF m) (some (owner, done.length)) = some (o', (done ++ rest).length) ∧ Own m (done ++ rest) o'
  | [], done, owner, W, _ => ⟨owner, by rw [List.append_nil]; rfl, by rw [List.append_nil]; exact W⟩
  | h :: rest, done, owner, W, hl => by
    rw [List.length_cons] at hl
    obtain ⟨j, e, W'⟩ := own_step hm W (by omega) h
    have hlen : (done ++ [h]).length = done.length + 1 := by rw [List.length_append]; rfl
    obtain ⟨o', f, W2⟩ := lay_all hm rest (done ++ [h]) _ W' (by rw [hlen]; omega)
    rw [show done ++ h :: rest = done ++ [h] ++ rest by rw [List.append_assoc]; rfl, List.foldl_cons, stepF_some e, ← hlen]
    exact ⟨o', f, W2⟩
/-- the size behind n -/
theorem above_go (n : Nat) : ∀ f e : Nat, ∃ k, e ≤ k ∧ SetTable.sizeAbove.go n f (2 ^ e) = 2 ^ k ∧ (n < 2 ^ k ∨ k = e + f) ∧ (k = e ∨ 2 ^ k ≤ 2 * n)
  | 0, e => ⟨e, Nat.le_refl _, rfl, .inr rfl, .inl rfl⟩
  | f + 1, e => by
    unfold SetTable.sizeAbove.go
    by_cases h : 2 ^ e ≤ n
    · rw [if_pos h, ← Nat.pow_succ]
      obtain ⟨k, h1, h2, h3, h4⟩ := above_go n f (e + 1)
      refine ⟨k, by omega, h2, by omega, .inr ?_⟩
      rcases h4 with rfl | h4
      · rw [Nat.pow_succ]; omega
      · exact h4
    · rw [if_neg h]
      exact ⟨e, Nat.le_refl _, rfl, .inl (by omega), .inl rfl⟩
theorem above {n : Nat} (h1 : 4 ≤ n) (hn : n ≤ 8000) : ∃ M, SetTable.sizeAbove n - 1 = M ∧ SetTable.sizeAbove n = M + 1 ∧ Mk M ∧ n ≤ M ∧ M ≤ 8191 := by
  obtain ⟨k, h2, h3, h4, h5⟩ := above_go n 64 3
  have e : SetTable.sizeAbove n = 2 ^ k := h3
  have hk : n < 2 ^ k := by
    rcases h4 with h4 | h4
    · exact h4
    · have : (2 : Nat) ^ 13 ≤ 2 ^ k := Nat.pow_le_pow_right (by decide) (by omega)
      omega
  have hk2 : 2 ^ k ≤ 8192 := by
    rcases Nat.lt_or_ge 13 k with g | g
    · have : (2 : Nat) ^ 14 ≤ 2 ^ k := Nat.pow_le_pow_right (by decide) g
      rcases h5 with h5 | h5 <;> omega
    · exact (Nat.pow_le_pow_right (by decide) g : 2 ^ k ≤ 2 ^ 13)
  exact ⟨2 ^ k - 1, by rw [e], by rw [e]; omega, ⟨k, by omega, by omega⟩, by omega, by omega⟩
theorem anew (t : SetTable) {hs : Array Int} {wanted M : Nat} (hw : SetTable.sizeAbove wanted - 1 = M) (hM : Mk M) (hn : hs.size ≤ M) :
    ∃ t' order, t.relaid hs wanted = some (t', order) ∧ order.toList.Perm (List.range hs.size) ∧ Tb t' (order.toList.map fun i => hs.getD i 0) ∧ t'.mask = M ∧ t'.led = t.led ∧ t'.plain = t.plain := by
  obtain ⟨owner, f, W⟩ := lay_all hM hs.toList [] _ (Own.init M) (by rw [Array.length_toList]; show 0 + hs.size ≤ M; omega)
  rw [List.nil_append] at W f
  have hlc : SetTable.layClean M hs = some owner := by
    rw [layClean_eq]
    have f' : hs.toList.foldl (stepF M) (some (Array.replicate (M + 1) none, 0)) = some (owner, hs.toList.length) := f
    rw [f']; rfl
  have hr : t.relaid hs wanted = some (tabOf t M owner, ((liveOf M owner).map (·.2)).toArray) := by rw [relaid_eq, hw, hlc]; rfl
  have ris := ris_live (fun j => owner.getD j none) (List.range (M + 1)) (by unfold Ris; exact List.pairwise_lt_range)
  have r1 : Ris ((liveOf M owner).map (·.1)) := ris.1
  have r2 : ∀ x ∈ (liveOf M owner).map (·.1), x ∈ List.range (M + 1) := ris.2
  have hz : hs.toList.length = hs.size := Array.length_toList
  have full : ∀ k, k < hs.size → k ∈ (liveOf M owner).map (·.2) := fun k hk => by
    obtain ⟨j, b1, b2⟩ := W.all k (by omega)
    exact List.mem_map.mpr ⟨(j, k), (mem_live W.sz).2 ⟨b1, b2⟩, rfl⟩
  have hlen : (liveOf M owner).length = hs.size := by
    obtain ⟨ps, p1, p2⟩ := W.ps
    have nd1 : ((liveOf M owner).map (·.1)).Nodup := r1.imp fun h => Nat.ne_of_lt h
    have a := fits _ ps nd1 fun x hx => by
      obtain ⟨⟨y, k⟩, hq, rfl⟩ := List.mem_map.mp hx
      obtain ⟨b1, b2⟩ := (mem_live W.sz).1 hq
      exact p2 y b1 (by rw [b2]; exact fun z => nomatch z)
    have b := fits (List.range hs.size) ((liveOf M owner).map (·.2)) List.nodup_range fun k hk => full k (List.mem_range.mp hk)
    rw [List.length_map, p1] at a
    rw [List.length_map, List.length_range] at b
    omega
  refine ⟨_, _, hr, perm_range hs.size _ (show ((liveOf M owner).map (·.2)).length = _ from by rw [List.length_map]; exact hlen) full, ⟨r1, rfl, ?_, hM, fun x hx => Nat.le_of_lt_succ (List.mem_range.mp (r2 x hx)), fun i h j h1 h2 => ?_⟩, rfl, rfl, rfl⟩
  · show ((liveOf M owner).map (·.1)).toArray.size = (((liveOf M owner).map (·.2)).map fun i => hs.getD i 0).length
    rw [List.size_toArray, List.length_map, List.length_map, List.length_map]
  · have h1' : (((liveOf M owner).map (·.2)).map fun i => hs.getD i 0)[i]? = some h := h1
    have h2' : ((liveOf M owner).map (·.1))[i]? = some j := h2
    rw [List.getElem?_map, List.getElem?_map] at h1'
    rw [List.getElem?_map] at h2'
    cases hq : (liveOf M owner)[i]? with
    | none => rw [hq] at h2'; cases h2'
    | some q =>
      obtain ⟨y, k⟩ := q
      rw [hq] at h1' h2'
      have ej : y = j := Option.some.inj h2'
      subst ej
      have eh : hs.getD k 0 = h := Option.some.inj h1'
      obtain ⟨b1, b2⟩ := (mem_live W.sz).1 (List.mem_of_getElem? hq)
      obtain ⟨h0, K, a1, a2, a3⟩ := W.at_ y k b1 b2
      have e0 : hs.getD k 0 = h0 := by rw [Array.getD_eq_getD_getElem?, ← Array.getElem?_toList, a1]; rfl
      have ehh : h0 = h := e0.symm.trans eh
      subst ehh
      refine ⟨K, a2, fun c hc => ?_⟩
      show way M h0 c ∈ (liveOf M owner).map (·.1)
      cases z : oAt owner (way M h0 c) with
      | none => exact absurd z (a3 c hc)
      | some k2 => exact List.mem_map.mpr ⟨(way M h0 c, k2), (mem_live W.sz).2 ⟨way_in _ _ _, z⟩, rfl⟩
section
variable {P : Program} {w : World} {A : Around} {E : Value → Shared → Prop} {s : Shared}
/-- the set at a has the rows L -/
structure Bg (P : Program) (w : World) (h : Heap) (a : Addr) (L : List (Addr × List Int)) (es : Array (Int × Value)) (ep : Nat) (t : SetTable) : Prop where
  ob : ∃ o, h.get? a = some o ∧ o.ExactSet ∧ o.data = .set es ep t
  rows : es.toList = rowsOf P w L
  tab : Tb t (L.map fun p => thash P w p.2)
  nd : (L.map (·.2)).Nodup
  tup : ∀ p ∈ L, IsT P w h p.2 p.1
  pl : t.plain = true
  led : w.params.followText "set-order" = true ∨ t.led = true
  room : L.length * 5 < t.mask * 3
  few : L.length < 2000
  top : t.mask ≤ 8191
variable {a : Addr} {L : List (Addr × List Int)} {es : Array (Int × Value)} {ep : Nat} {t : SetTable}
theorem rows_size {L : List (Addr × List Int)} {es : Array (Int × Value)} (h : es.toList = rowsOf P w L) : es.size = L.length := by
  rw [← Array.length_toList, h, rowsOf, List.length_map]
theorem Bg.fits (R : Bg P w s.heap a L es ep t) : t.fits es.size = true := by
  have h1 := R.tab.num
  rw [List.length_map] at h1
  have h2 := rows_size R.rows
  have h3 := R.room
  unfold SetTable.fits SetTable.fill
  rw [R.tab.none, Bool.and_eq_true, beq_iff_eq, decide_eq_true_eq]
  show t.place.size = es.size ∧ t.place.size + 0 ≤ t.mask
  omega
theorem Bg.at_ (R : Bg P w s.heap a L es ep t) {i : Nat} {p : Addr × List Int} (h : L[i]? = some p) : es[i]? = some (thash P w p.2, Value.ref p.1) := by
  rw [← Array.getElem?_toList, R.rows, rowsOf, List.getElem?_map, h]; rfl
theorem Bg.stays (R : Bg P w s.heap a L es ep t) : ¬ t.gaveWay = true := by
  unfold SetTable.gaveWay
  rw [R.tab.msk.odd]; decide
theorem no_dummy {m : Nat} : ∀ (n : Nat) (p : SetTable.Probe), p.dummy = none → (nth m p n).dummy = none
  | 0, _, h => h
  | n + 1, p, h => no_dummy n (adv m p) (by unfold adv; split <;> exact h)
/-- from the c-th step of the way on -/
theorem look_from (R : Bg P w s.heap a L es ep t) {x : Addr} {k : List Int} {H : Int} (eH : thash P w k = H) (hx : IsT P w s.heap k x) (hu : A.units < cLine) {K : Nat} (hKf : K < 10 * SetTable.turns t.mask) (hK : way t.mask H K ∉ t.place.toList) (hKb : ∀ c, c < K → way t.mask H c ∈ t.place.toList)
    {Q : SetFound → Shared → Prop} (hin : k ∈ L.map (·.2) → Q (.there none) s) (hout : k ∉ L.map (·.2) → Q (.free (way t.mask H K) false) s) :
    ∀ (f c : Nat) (stand : Option SetTable.Probe), stand.getD (t.probeStart H) = nth t.mask (runAt t.mask (SetTable.bits H % (t.mask + 1)) (SetTable.bits H)) c → c ≤ K → K - c < f →
      (∀ (i : Nat) p, L[i]? = some p → p.2 = k → ∃ c', c ≤ c' ∧ c' < K ∧ t.place.toList[i]? = some (way t.mask H c')) → wpAny (model P w) A (setSearchFrom a (.ref x) H true f stand) Q E s
  | 0, c, stand, _, _, hf, _ => absurd hf (Nat.not_lt_zero _)
  | f + 1, c, stand, hst, hc, hf, hre => by
    obtain ⟨o, ho, hex, hd⟩ := R.ob
    rw [setSearchFrom_succ]
    refine wpAny_bind (wpAny_setState_of ho hd R.fits ?_)
    dsimp only
    refine wp_if_neg R.stays ?_
    try refine wpAny_bind (wpAny_pure ?_)
    have sh : ∀ q, nth t.mask (nth t.mask (runAt t.mask (SetTable.bits H % (t.mask + 1)) (SetTable.bits H)) c) q = nth t.mask (runAt t.mask (SetTable.bits H % (t.mask + 1)) (SetTable.bits H)) (c + q) := fun q => (nth_add t.mask c _ q).symm
    have wj : ∀ q, (nth t.mask (nth t.mask (runAt t.mask (SetTable.bits H % (t.mask + 1)) (SetTable.bits H)) c) q).j = way t.mask H (c + q) := fun q => congrArg SetTable.Probe.j (sh q)
    have hashAt : ∀ (i : Nat) p, L[i]? = some p → (fun i => (es[i]?.map (·.1)).getD 0) i = thash P w p.2 := fun i p hp => by
      show (es[i]?.map (·.1)).getD 0 = _
      rw [R.at_ hp]; rfl
    have hcK : c + (K - c) = K := by omega
    rcases go_spec t R.tab.up R.tab.none (fun i => (es[i]?.map (·.1)).getD 0) H (10 * SetTable.turns t.mask) (K - c) (nth t.mask (runAt t.mask (SetTable.bits H % (t.mask + 1)) (SetTable.bits H)) c) (no_dummy c _ rfl) (by omega)
      (fun q hq => by rw [wj]; exact hKb (c + q) (by omega)) (by rw [wj, hcK]; exact hK) with ⟨q, i, hq, hi, hh, hno, hpr⟩ | ⟨hno, hpr⟩
    · have hpr' : t.probe (fun i => (es[i]?.map (·.1)).getD 0) H (stand.getD (t.probeStart H)) = some (.candidate (way t.mask H (c + q)) i (nth t.mask (runAt t.mask (SetTable.bits H % (t.mask + 1)) (SetTable.bits H)) (c + (q + 1)))) := by
        rw [hst, ← wj, ← sh]; exact hpr
      rw [hpr']
      dsimp only
      rw [wj] at hi
      have hil : i < L.length := by
        have h1 := (List.getElem?_eq_some_iff.mp hi).1
        have h2 := R.tab.num
        rw [List.length_map] at h2
        rw [Array.length_toList] at h1
        omega
      obtain ⟨p, hp⟩ : ∃ p, L[i]? = some p := ⟨_, List.getElem?_eq_getElem hil⟩
      have hmem := List.mem_of_getElem? hp
      have goal : wpAny (model P w) A (searchRest a (.ref x) H true f es t (way t.mask H (c + q)) i (nth t.mask (runAt t.mask (SetTable.bits H % (t.mask + 1)) (SetTable.bits H)) (c + (q + 1)))) Q E s := by
        unfold searchRest
        rw [R.at_ hp]
        dsimp only
        refine wpAny_bind (wpAny_holding (wpAny_eqBool_tuple hu (R.tup p hmem) hx ?_))
        refine wpAny_bind (wpAny_setState_of ho hd R.fits ?_)
        dsimp only
        by_cases hkk : p.2 = k
        · exact wp_if_pos (by simp [hkk]) (wpAny_pure (hin (List.mem_map.mpr ⟨p, hmem, hkk⟩)))
        · refine wp_if_neg (by simp [hkk]) ?_
          try refine wpAny_bind (wpAny_pure ?_)
          rw [sameMem]
          dsimp only
          have hsl : t.slot (way t.mask H (c + q)) = .live i := slot_live R.tab.up hi
          simp only [if_true, hsl, R.at_ hp]
          refine wpAny_bind (wpAny_isSame_ref_self (wpAny_bind (wpAny_pure ?_)))
          simp only [if_true]
          refine wp_if_neg (by simp [hkk]) ?_
          refine look_from R eH hx hu hKf hK hKb hin hout f (c + (q + 1)) _ rfl (by omega) (by omega) fun i0 p0 h0 hk0 => ?_
          obtain ⟨c', a1, a2, a3⟩ := hre i0 p0 h0 hk0
          have hp0 : (fun i => (es[i]?.map (·.1)).getD 0) i0 = H := (hashAt i0 p0 h0).trans (by rw [hk0, eH])
          refine ⟨c', ?_, a2, a3⟩
          rcases Nat.lt_trichotomy c' (c + q) with z | z | z
          · exact absurd hp0 (hno (c' - c) i0 (by omega) (by rw [wj, show c + (c' - c) = c' by omega]; exact a3))
          · rw [z] at a3
            have s0 := slot_live R.tab.up a3
            rw [hsl] at s0
            cases s0
            rw [hp] at h0
            cases h0
            exact absurd hk0 hkk
          · omega
      by_cases hl : t.led = true
      · refine wp_if_neg (by simp [hl]) ?_
        try refine wpAny_bind (wpAny_pure ?_)
        exact goal
      · refine wp_if_pos (by simp [hl]) ?_
        refine wpAny_bind (seen_tup hx (fun y hy => ?_) ?_)
        · obtain ⟨e, he, ee⟩ := List.mem_map.mp hy
          have he1 : e ∈ es ∧ e.1 = H := by simpa using he
          have he2 : e ∈ es.toList := by simpa using he1.1
          rw [R.rows] at he2
          obtain ⟨p2, hp2, e2⟩ := List.mem_map.mp he2
          exact ⟨p2.2, p2.1, by rw [← ee, ← e2], R.tup p2 hp2⟩
        · refine wp_if_neg (by decide) ?_
          try refine wpAny_bind (wpAny_pure ?_)
          exact goal
    · rw [wj, hcK] at hpr
      have hpr' : t.probe (fun i => (es[i]?.map (·.1)).getD 0) H (stand.getD (t.probeStart H)) = some (.empty (way t.mask H K) none) := by rw [hst]; exact hpr
      rw [hpr']
      dsimp only
      refine wpAny_pure (hout fun hm => ?_)
      obtain ⟨p0, h0, hk0⟩ := List.mem_map.mp hm
      obtain ⟨i0, h00⟩ := List.getElem?_of_mem h0
      obtain ⟨c', a1, a2, a3⟩ := hre i0 p0 h00 hk0
      exact hno (c' - c) i0 (by omega) (by rw [wj, show c + (c' - c) = c' by omega]; exact a3) ((hashAt i0 p0 h00).trans (by rw [hk0, eH]))
theorem look_at (R : Bg P w s.heap a L es ep t) {x : Addr} {k : List Int} {H : Int} (eH : thash P w k = H) (hx : IsT P w s.heap k x) (hu : A.units < cLine) {Q : SetFound → Shared → Prop} (hin : k ∈ L.map (·.2) → Q (.there none) s)
    (hout : ∀ K, k ∉ L.map (·.2) → way t.mask H K ∉ t.place.toList → (∀ c, c < K → way t.mask H c ∈ t.place.toList) → Q (.free (way t.mask H K) false) s) : wpAny (model P w) A (setSearch a (.ref x) H true) Q E s := by
  have hroom := R.room
  have htop := R.top
  obtain ⟨K, hKf, hK, hKb⟩ := R.tab.gap (by rw [List.length_map]; omega) H
  have hbig : K < 100000 := by unfold SetTable.turns at hKf; omega
  unfold setSearch
  refine look_from R eH hx hu hKf hK hKb hin (fun hn => hout K hn hK hKb) 100000 0 none rfl (Nat.zero_le _) (by omega) fun i p hp hk => ?_
  have hi : (L.map fun p => thash P w p.2)[i]? = some H := by rw [List.getElem?_map, hp, ← eH, ← hk]; rfl
  have hil : i < t.place.toList.length := by
    have h1 := (List.getElem?_eq_some_iff.mp hp).1
    have h2 := R.tab.num
    rw [List.length_map] at h2
    rw [Array.length_toList]
    omega
  have hj := List.getElem?_eq_getElem hil
  obtain ⟨c, hc, e⟩ := R.tab.ahead hK hi hj
  exact ⟨c, Nat.zero_le _, hc, by rw [hj, e]⟩
/-- the table grows -/
theorem grow_at {o : Obj} (ho : s.heap.get? a = some o) (hex : o.ExactSet) (hd : o.data = .set es ep t) (hrows : es.toList = rowsOf P w L) (hsz : t.place.size = es.size) (hdm : t.dummies = #[]) (hfl : es.size ≤ t.mask) (nd : (L.map (·.2)).Nodup) (tup : ∀ p ∈ L, IsT P w s.heap p.2 p.1) (pl : t.plain = true)
    (ld : w.params.followText "set-order" = true ∨ t.led = true) (h1 : 1 ≤ L.length) (few : L.length < 2000) {Q : Unit → Shared → Prop} (hQ : ∀ h' L' es' ep' t', Heap.SameBut a s.heap h' → Bg P w h' a L' es' ep' t' → L'.Perm L → Q () { s with heap := h' }) :
    wpAny (model P w) A (setRelay a (SetTable.grown L.length)) Q E s := by
  have hsl := rows_size hrows
  have hg : SetTable.grown L.length = L.length * 4 := by unfold SetTable.grown; rw [if_neg (by omega)]
  rw [hg]
  obtain ⟨M, m1, m2, m3, m4, m5⟩ := above (n := L.length * 4) (by omega) (by omega)
  have hfits : t.fits es.size = true := by
    unfold SetTable.fits SetTable.fill
    rw [hdm, Bool.and_eq_true, beq_iff_eq, decide_eq_true_eq]
    show t.place.size = es.size ∧ t.place.size + 0 ≤ t.mask
    omega
  obtain ⟨t', order, e, hp, T, em, el, epl⟩ := anew t (hs := es.map (·.1)) m1 m3 (by rw [Array.size_map, hsl]; omega)
  rw [Array.size_map, hsl] at hp
  obtain ⟨L2, r1, r2, r3⟩ := order_rows L es order hrows hp
  rw [← r3] at T
  have hs2 : (order.filterMap (es[·]?)).size = L.length := by rw [rows_size r1, r2.length_eq]
  rw [setRelay_eq]
  refine wpAny_bind (wpAny_setState_of ho hd hfits ?_)
  dsimp only
  refine wp_if_neg (by rw [sizeLine_eq, m2]; omega) ?_
  try refine wpAny_bind (wpAny_pure ?_)
  rw [e]
  dsimp only
  refine wpAny_bind ?_
  refine wp_if_neg (by rw [hs2, hsl]; simp) ?_
  try refine wpAny_bind (wpAny_pure ?_)
  refine wpAny_pure ?_
  dsimp only
  refine wpAny_storeSet_of ho hd ?_ (by rw [hs2, sizeLine_eq]; omega)
  have sb : Heap.SameBut a s.heap (s.heap.update a (Obj.putSet (order.filterMap (es[·]?)) t')) := Heap.SameBut.update ..
  have hl := r2.length_eq
  refine hQ _ L2 _ (ep + 1) t' sb ⟨⟨_, store_at ho hd, ⟨hex.1, hex.2.1, hex.2.2⟩, rfl⟩, r1, T, (r2.map (·.2)).nodup_iff.mpr nd, fun p hpm => isT_same (tup p (r2.mem_iff.mp hpm)) ho hd sb, epl.trans pl, by rw [el]; exact ld, by rw [em]; omega, by omega, by rw [em]; exact m5⟩ r2
theorem add_in (R : Bg P w s.heap a L es ep t) {x : Addr} {k : List Int} (hx : IsT P w s.heap k x) (hu : A.units < cLine) (hfew : L.length + 1 < 2000) {Q : Bool → Shared → Prop}
    (hQ : ∀ b h' L' es' ep' t', Heap.SameBut a s.heap h' → Bg P w h' a L' es' ep' t' → (k ∈ L.map (·.2) → L' = L) → (k ∉ L.map (·.2) → L'.Perm ((x, k) :: L)) → Q b { s with heap := h' }) :
    wpAny (model P w) A (setAddHashed a (.ref x) (thash P w k)) Q E s := by
  obtain ⟨o, ho, hex, hd⟩ := R.ob
  have hsl := rows_size R.rows
  have hroom := R.room
  have htop := R.top
  obtain ⟨H, eH⟩ : ∃ H, thash P w k = H := ⟨_, rfl⟩
  rw [eH]
  unfold setAddHashed
  refine wpAny_holding ?_
  rw [show (100000 : Nat) = 99999 + 1 from rfl, setAddHashedIn_succ]
  refine wpAny_bind (wpAny_setState_of ho hd R.fits ?_)
  dsimp only
  refine wp_if_neg (by simp [byScan, Value.scannable]) ?_
  try refine wpAny_bind (wpAny_pure ?_)
  refine wpAny_bind (look_at R eH hx hu (fun hm => ?_) fun K hm hK hb => ?_)
  · dsimp only
    exact wpAny_pure (hQ false s.heap L es ep t (Heap.SameBut.refl a s.heap) R (fun _ => rfl) fun z => absurd hm z)
  · dsimp only
    refine wpAny_bind (wpAny_setState_of ho hd R.fits ?_)
    dsimp only
    obtain ⟨j, hj⟩ : ∃ j, way t.mask H K = j := ⟨_, rfl⟩
    obtain ⟨p, hp⟩ : ∃ p, SetTable.below t.place j = p := ⟨_, rfl⟩
    obtain ⟨q2, q3, q9⟩ := R.tab.ins hK hb hj hp
    have ep2 : (t.put j).2 = p := hp
    have em : (t.put j).1.mask = t.mask := rfl
    have el : (t.put j).1.led = t.led := rfl
    have epl : (t.put j).1.plain = true := R.pl
    rw [hj]
    generalize hpt : t.put j = pt at q3 q9 ep2 em el epl ⊢
    obtain ⟨t1, p1⟩ := pt
    dsimp only at q3 q9 ep2 em el epl ⊢
    subst ep2
    first
      | (refine wpAny_bind ?_; refine wp_if_pos epl ?_; refine hashBy_tup hx ?_)
      | refine wp_if_pos epl (wpAny_bind (hashBy_tup hx ?_))
    simp only [if_true]
    have hin : (SetTable.insertAt es p1 (H, Value.ref x)).toList = rowsOf P w (L.take p1 ++ (x, k) :: L.drop p1) := by rw [SetTable.toList_insertAt, rows_put, R.rows, eH]
    have pm := put_perm L p1 (x, k)
    have hlen := pm.length_eq
    rw [List.length_cons] at hlen
    have hhs : (L.take p1 ++ (x, k) :: L.drop p1).map (fun p => thash P w p.2) = (L.map fun p => thash P w p.2).take p1 ++ H :: (L.map fun p => thash P w p.2).drop p1 := by rw [List.map_append, List.map_cons, List.map_take, List.map_drop, eH]
    rw [← hhs] at q3
    rw [List.length_map] at q9
    have nd1 : ((L.take p1 ++ (x, k) :: L.drop p1).map (·.2)).Nodup := (pm.map (·.2)).nodup_iff.mpr (List.nodup_cons.mpr ⟨hm, R.nd⟩)
    have hes := rows_size hin
    generalize SetTable.insertAt es p1 (H, Value.ref x) = es1 at hin hes ⊢
    generalize L.take p1 ++ (x, k) :: L.drop p1 = L1 at pm hlen q3 nd1 hin hes
    refine wpAny_bind (wpAny_storeSet_of ho hd ?_ (by rw [hes, sizeLine_eq]; omega))
    have sb : Heap.SameBut a s.heap (s.heap.update a (Obj.putSet es1 t1)) := Heap.SameBut.update ..
    have ho1 := store_at (es' := es1) (t' := t1) ho hd
    generalize s.heap.update a (Obj.putSet es1 t1) = h1 at sb ho1 ⊢
    have tup1 : ∀ p ∈ L1, IsT P w h1 p.2 p.1 := fun p hp => by
      rcases List.mem_cons.mp (pm.mem_iff.mp hp) with e | hp
      · rw [e]; exact isT_same hx ho hd sb
      · exact isT_same (R.tup p hp) ho hd sb
    have ld1 : w.params.followText "set-order" = true ∨ t1.led = true := by rw [el]; exact R.led
    have full : t1.tooFull = decide ((L.length + 1) * 5 ≥ t1.mask * 3) := by unfold SetTable.tooFull; rw [q9]
    by_cases hf : t1.tooFull = true
    · first
        | (refine wpAny_bind ?_; refine wp_if_pos (by simp [hf]) ?_)
        | (refine wp_if_pos (by simp [hf]) ?_; refine wpAny_bind ?_)
      rw [show es.size + 1 = L1.length by omega]
      refine grow_at (s := { s with heap := h1 }) ho1 ⟨hex.1, hex.2.1, hex.2.2⟩ rfl hin ?_ q3.none (by rw [em]; omega) nd1 tup1 epl ld1 (by omega) (by omega) fun h2 L2 es2 ep2 t2 sb2 R2 pm2 => ?_
      · have := q3.num
        rw [List.length_map] at this
        omega
      · exact wpAny_pure (hQ true h2 L2 es2 ep2 t2 (sb.trans sb2) R2 (fun z => absurd z hm) fun _ => pm2.trans pm)
    · first
        | refine wp_if_neg (by simp [hf]) ?_
        | (refine wpAny_bind ?_; refine wp_if_neg (by simp [hf]) ?_; refine wpAny_pure ?_)
      rw [full, decide_eq_true_eq] at hf
      exact wpAny_pure (hQ true h1 L1 es1 (ep + 1) t1 sb ⟨⟨_, ho1, ⟨hex.1, hex.2.1, hex.2.2⟩, rfl⟩, hin, q3, nd1, tup1, epl, ld1, by omega, by omega, by rw [em]; exact htop⟩ (fun z => absurd z hm) fun _ => pm)
end
section
variable {P : Program} {w : World} {A : Around} {E : Value → Shared → Prop} {s : Shared}
theorem Bg.move {h h' : Heap} {a : Addr} {L : List (Addr × List Int)} {es : Array (Int × Value)} {ep : Nat} {t : SetTable} (R : Bg P w h a L es ep t) (ha : ∀ o, h.get? a = some o → h'.get? a = some o) (ht : ∀ p ∈ L, IsT P w h' p.2 p.1) : Bg P w h' a L es ep t :=
  ⟨let ⟨o, ho, r⟩ := R.ob; ⟨o, ha o ho, r⟩, R.rows, R.tab, R.nd, ht, R.pl, R.led, R.room, R.few, R.top⟩
theorem bg_new {h : Heap} {a : Addr} (ho : h.get? a = some (bareSet w)) : Bg P w h a [] #[] 0 (.fresh 0 0 (!w.params.followText "set-order")) := by
  refine ⟨⟨_, ho, ⟨rfl, rfl, rfl⟩, rfl⟩, rfl, ⟨List.Pairwise.nil, rfl, rfl, ⟨3, rfl, by decide⟩, fun _ hx => absurd hx (by simp [SetTable.fresh]), fun _ _ _ hi => by simp at hi⟩, List.nodup_nil, fun _ hp => absurd hp List.not_mem_nil, rfl, ?_, show 0 * 5 < 7 * 3 by decide, show 0 < 2000 by decide, show 7 ≤ 8191 by decide⟩
  show _ ∨ (!w.params.followText "set-order") = true
  cases w.params.followText "set-order"
  · exact .inr rfl
  · exact .inl rfl
/-- what the set has behind the first i items -/
def Has (ks : List (Addr × List Int)) (i : Nat) (L : List (Addr × List Int)) : Prop := (∀ p ∈ L, p ∈ ks.take i) ∧ (∀ p ∈ ks.take i, p.2 ∈ L.map (·.2)) ∧ L.length ≤ i
theorem Has.next {ks L L' : List (Addr × List Int)} {i : Nat} {x : Addr × List Int} (g : Has ks i L) (h : ks[i]? = some x) (c1 : x.2 ∈ L.map (·.2) → L' = L) (c2 : x.2 ∉ L.map (·.2) → L'.Perm ((x.1, x.2) :: L)) : Has ks (i + 1) L' := by
  obtain ⟨g1, g2, g3⟩ := g
  unfold Has
  rw [take_next h]
  by_cases c : x.2 ∈ L.map (·.2)
  · rw [c1 c]
    refine ⟨fun p hp => List.mem_append_left _ (g1 p hp), fun p hp => ?_, by omega⟩
    rcases List.mem_append.mp hp with z | z
    · exact g2 p z
    · rw [List.mem_singleton.mp z]; exact c
  · have pm := c2 c
    refine ⟨fun p hp => ?_, fun p hp => ?_, by rw [pm.length_eq, List.length_cons]; omega⟩
    · rcases List.mem_cons.mp (pm.mem_iff.mp hp) with e | z
      · exact List.mem_append_right _ (List.mem_singleton.mpr e)
      · exact List.mem_append_left _ (g1 p z)
    · rw [(pm.map (·.2)).mem_iff, List.map_cons]
      rcases List.mem_append.mp hp with z | z
      · exact List.mem_cons_of_mem _ (g2 p z)
      · rw [List.mem_singleton.mp z]; exact List.mem_cons_self
theorem fill_loop {I : Addr} {fp wr : List Addr} {G : Array GenState → Array GenState → Prop} {n : Nat} {Pv : Nat → Value → Prop} {St : Nat → Shared → Prop} {R : Result → Shared → Prop} (W : WalksS P w A.in1 I fp wr G n Pv St) (S : Addr) (hSf : S ∉ fp) (ks : List (Addr × List Int)) (hn : n = ks.length) (hfew : ks.length < 2000)
    (hval : ∀ i v, Pv i v → ∃ p, ks[i]? = some p ∧ v = .ref p.1) (h0 : Heap) (hk : ∀ p ∈ ks, IsT P w h0 p.2 p.1) (hS0 : h0.get? S = none) (hw0 : ∀ b ∈ wr, h0.get? b = none) (hu : A.in1.units < cLine) :
    ∀ (k i : Nat) (s : Shared), n - i = k → i ≤ n → St i s → (∀ b o, h0.get? b = some o → s.heap.get? b = some o) → (∃ L es ep t, Bg P w s.heap S L es ep t ∧ Has ks i L) →
      (∀ s' L es ep t, Moved (S :: wr) G s s' → Bg P w s'.heap S L es ep t → Has ks n L → (∀ b o, h0.get? b = some o → s'.heap.get? b = some o) → R (.ok (.ret .none)) s') → codeAny (model P w) A (.builtin "set.update.loop" ⟨[.ref S, .ref I], []⟩) R s := by
  have hSw : S ∉ wr := fun h => hSf (W.sub _ h)
  have wide : ∀ b ∈ wr, b ∈ S :: wr := fun b hb => List.mem_cons_of_mem _ hb
  have old : ∀ {s s' : Shared}, Moved wr G s s' → (∀ b o, h0.get? b = some o → s.heap.get? b = some o) → ∀ b o, h0.get? b = some o → s'.heap.get? b = some o := fun hm hkp b o e => hm.heap b o (fun hb => by rw [hw0 b hb] at e; cases e) (hkp b o e)
  have carry : ∀ {s s' : Shared} {i : Nat} {L es ep t}, Moved wr G s s' → (∀ b o, h0.get? b = some o → s'.heap.get? b = some o) → Has ks i L → Bg P w s.heap S L es ep t → Bg P w s'.heap S L es ep t := fun hm hkp g hS => hS.move (fun o e => hm.heap S o hSw e) fun p hp => isT_keep (hk p (List.mem_of_mem_take (g.1 p hp))) hkp
  intro k
  induction k with
  | zero =>
    intro i s hk' hi hst hkp ⟨L, es, ep, t, hS, g⟩ hR
    obtain rfl : i = n := by omega
    refine codeAny_builtin F.entry_set_update_loop ?_
    rw [Around.under_plainId F.plain_set_update_loop _]
    show wpAny _ A.in1 (pyNext (.ref I) >>= _) _ _ s
    refine wpAny_bind (W.done s _ _ hst fun s' hm => ?_)
    show wpAny _ A.in1 (ret Value.none) _ _ s'
    exact wpAny_pure (hR s' L es ep t (hm.mono wide) (carry hm (old hm hkp) g hS) g (old hm hkp))
  | succ k ih =>
    intro i s hk' hi hst hkp ⟨L, es, ep, t, hS, g⟩ hR
    refine codeAny_builtin F.entry_set_update_loop ?_
    rw [Around.under_plainId F.plain_set_update_loop _]
    show wpAny _ A.in1 (pyNext (.ref I) >>= _) _ _ s
    refine wpAny_bind (W.item i s _ _ (by omega) hst fun v s' hP hst' hm => ?_)
    obtain ⟨p, hp, rfl⟩ := hval i v hP
    have hkp' := old hm hkp
    have hx : IsT P w s'.heap p.2 p.1 := isT_keep (hk p (List.mem_of_getElem? hp)) hkp'
    show wpAny _ A.in1 (holding [Value.ref p.1] (setAdd S (.ref p.1)) >>= _) _ _ s'
    refine wpAny_bind (wpAny_holding ?_)
    unfold setAdd
    refine wpAny_holding ?_
    refine wpAny_bind (wpAny_pyHash_tuple hu hx ?_)
    refine add_in (s := { s' with toks := s'.toks + (p.2.length + 1) }) (show Bg P w s'.heap S L es ep t from carry hm hkp' g hS) hx hu (by have := g.2.2; omega) fun b h' L' es' ep' t' hsb hS2 c1 c2 => ?_
    have keepS : ∀ b o, b ≠ S → s'.heap.get? b = some o → h'.get? b = some o := fun b o hb e => (hsb.2 b hb).trans e
    have hkp2 : ∀ b o, h0.get? b = some o → h'.get? b = some o := fun b o e => keepS b o (fun z => by rw [z, hS0] at e; cases e) (hkp' b o e)
    refine wpAny_pure ⟨plainId_quiet F.plain_set_update_loop _, ih (i + 1) _ (by omega) (by omega) (W.frame _ s' _ _ hst' (Nat.le_add_right _ _) fun b hb o e => keepS b o (fun h : b = S => hSf (by rw [← h]; exact hb)) e) hkp2 ⟨L', es', ep', t', hS2, g.next hp c1 c2⟩ fun s'' L2 es2 ep2 t2 hm'' hS'' g'' hkp'' => ?_⟩
    exact hR s'' L2 es2 ep2 t2 (Moved.trans W.gtrans ((hm.mono wide).then_heap (Nat.le_add_right _ _) fun b o hb e => keepS b o (fun h : b = S => hb (by rw [h]; exact List.mem_cons_self)) e) hm'') hS'' g'' hkp''
theorem fill_tups {a l : Addr} {h0 : Heap} {items : Array Value} (ks : List (Addr × List Int)) {Q₂ : Value → Shared → Prop} (hh : A.handled = none) (ho : s.heap.get? a = some (bareSet w)) (hl : s.heap.IsList l items) (hit : items.toList = ks.map fun p => Value.ref p.1) (hk : ∀ p ∈ ks, IsT P w h0 p.2 p.1) (hfew : ks.length < 2000) (hne : l ≠ a)
    (h0a : h0.get? a = none) (h0s : ∀ b o, h0.get? b = some o → s.heap.get? b = some o) (hu : A.units + 4 < cLine) (h : ∀ (h' : Heap) (tk : Nat) L es ep t, Bg P w h' a L es ep t → Has ks ks.length L → (∀ b o, h0.get? b = some o → h'.get? b = some o) → Q₂ .none { s with heap := h', toks := tk }) :
    codeAny (model P w) A (.call (.builtin "set.__init__") ⟨[.ref a, .ref l], []⟩) (wants Q₂ E) s := by
  have len : items.size = ks.length := by rw [← Array.length_toList, hit, List.length_map]
  have at' : ∀ (i : Nat) (v : Value), items[i]? = some v → ∃ p, ks[i]? = some p ∧ v = .ref p.1 := fun i v hv => by
    have q : (ks.map fun p => Value.ref p.1)[i]? = some v := by rw [← hit, Array.getElem?_toList]; exact hv
    rw [List.getElem?_map] at q
    obtain ⟨p, hp, e⟩ := Option.map_eq_some_iff.mp q
    exact ⟨p, hp, e.symm⟩
  refine codeAny_call_builtin F.called_set.init.plain F.entry_set_init (check_set_init_1 ⟨_, ho, rfl⟩ ?_)
  obtain ⟨ol, hol, hcl, nl, hdl⟩ := id hl
  obtain ⟨ocls, odict, odata, oslots⟩ := ol
  simp only at hcl hdl
  subst hcl hdl
  have k1 := F.sub_list_set
  have k2 := F.sub_list_frozenset
  have k3 : (Value.type "list" == Value.type "dict") = false := by decide
  unfold Builtin.«set.__init__» noKeywords Builtin.Frozenset.updateFrom
  generalize hPI : pyIter = PI
  wp_walk
  subst hPI
  refine wpAny_pyIter_list hl ?_
  refine wpAny_bind (wpAny_runValue ?_)
  have lt : l < s.heap.objs.size := Heap.lt_size hol
  have la : a < s.heap.objs.size := Heap.lt_size ho
  have n0 : h0.get? s.heap.objs.size = none := by
    cases q : h0.get? s.heap.objs.size with
    | none => rfl
    | some o => exact absurd (Heap.lt_size (h0s _ _ q)) (Nat.lt_irrefl _)
  refine fill_loop ((Walks.list (by simp [hh]) _ l (Nat.ne_of_lt lt) items).toS) a (by simp only [List.mem_cons, List.not_mem_nil, or_false, not_or]; exact ⟨Nat.ne_of_lt la, hne.symm⟩) ks len hfew at' h0 hk h0a (fun b hb => by rw [List.mem_singleton.mp hb]; exact n0) (by simp; omega) (items.size - 0) 0 _ (by omega) (Nat.zero_le _)
    ⟨⟨_, Heap.get?_push_size _ rfl, rfl, rfl⟩, hl.push _⟩ (fun b o e => Heap.get?_push_of_some _ (h0s b o e)) ⟨[], #[], 0, _, bg_new (Heap.get?_push_of_some _ ho), fun _ hp => absurd hp List.not_mem_nil, fun _ hp => by simp at hp, Nat.le_refl _⟩ fun s' L es ep t hm hS g kk => ?_
  obtain ⟨h', g2, d', tk', os'⟩ := s'
  obtain rfl : g2 = s.gens := hm.gens
  obtain rfl : d' = s.drawn := hm.drawn
  obtain rfl : os' = s.os := hm.os
  show wpAny _ _ _ _ _ _
  refine wpAny_pure ?_
  show wpAny _ _ (ret Value.none) _ _ _
  rw [len] at g
  exact wpAny_pure (h h' tk' L es ep t hS g kk)
theorem set_tups {l : Addr} {items : Array Value} (ks : List (Addr × List Int)) {Q : Value → Shared → Prop} (hh : A.handled = none) (hl : s.heap.IsList l items) (hit : items.toList = ks.map fun p => Value.ref p.1) (hk : ∀ p ∈ ks, IsT P w s.heap p.2 p.1) (hfew : ks.length < 2000) (hu : A.units + 8 < cLine)
    (h : ∀ (h' : Heap) (tk : Nat) L es ep t, Bg P w h' s.heap.objs.size L es ep t → Has ks ks.length L → (∀ b o, s.heap.get? b = some o → h'.get? b = some o) → Q (.ref s.heap.objs.size) { s with heap := h', toks := tk }) :
    wpAny (model P w) A (call (.type "set") [.ref l]) Q E s := by
  obtain ⟨c0, tl, hmro⟩ := F.called_set.mro
  have hmade := F.called_set.made
  have hsub := F.called_set.sub
  have h1 := F.called_set.notType
  have h2 := F.called_set.canCreate
  have hct := F.typeCall_set_1 (.ref l)
  have hli := F.called_set.init.lookup
  refine wpAny_call (codeAny_of_tree ?_)
  show wpAny _ _ (callAny (.type "set") _) _ _ _
  refine wpAny_pure ⟨Code.quiet_builtin _ (by decide +kernel), codeAny_builtin F.entry_type_call ?_⟩
  rw [Around.under_plain (weight_type_call_type "set" [.ref l] []) rfl]
  repeat (any_goals (first | assumption | wp_step))
  refine codeAny_mono (code_set_led1 (.ref l) (E := E) (Q₁ := fun obj s₁ => obj = .ref s.heap.objs.size ∧ s₁ = { s with heap := s.heap.push (bareSet w) }) ⟨rfl, rfl⟩) fun r s₁ hr => ?_
  cases r with
  | error e => exact hr
  | ok fl =>
    cases fl with
    | ret obj =>
      obtain ⟨rfl, rfl⟩ := hr
      have hS : (s.heap.push (bareSet w)).get? s.heap.objs.size = some (bareSet w) := Heap.get?_push_size _ rfl
      have hT : Shared.TypeIs { s with heap := s.heap.push (bareSet w) } (.ref s.heap.objs.size) "set" := ⟨_, hS, rfl⟩
      have hbi := F.called_set.init.bind (.ref s.heap.objs.size)
      have n0 : s.heap.get? s.heap.objs.size = none := by
        cases q : s.heap.get? s.heap.objs.size with
        | none => rfl
        | some o => exact absurd (Heap.lt_size q) (Nat.lt_irrefl _)
      repeat (any_goals (first | assumption | wp_step))
      have hlt : l < s.heap.objs.size := by obtain ⟨o, e, _⟩ := hl; exact Heap.lt_size e
      refine codeAny_mono (fill_tups (s := { s with heap := s.heap.push (bareSet w) }) (h0 := s.heap) ks (E := E) (Q₂ := fun r s₂ => r = .none ∧ ∃ h' tk L es ep t, s₂ = { s with heap := h', toks := tk } ∧ Bg P w h' s.heap.objs.size L es ep t ∧ Has ks ks.length L ∧ (∀ b o, s.heap.get? b = some o → h'.get? b = some o))
        (by simp [hh]) hS (hl.push _) hit hk hfew (Nat.ne_of_lt hlt) n0 (fun b o e => Heap.get?_push_of_some _ e) (by simp; omega) fun h' tk L es ep t hS2 g kk => ⟨rfl, h', tk, L, es, ep, t, rfl, hS2, g, kk⟩) fun r2 s2 hr2 => ?_
      cases r2 with
      | error e => exact hr2
      | ok fl2 =>
        cases fl2 with
        | ret v2 =>
          obtain ⟨rfl, h', tk, L, es, ep, t, rfl, hS2, g, kk⟩ := hr2
          repeat (any_goals (first | assumption | wp_step))
          exact h h' tk L es ep t hS2 g kk
        | _ => exact hr2
    | _ => exact hr
end
end DL.Big
namespace DL
open PySem PySem.Spec PyProof.Rows L2
/-- a set of n items -/
def SzO (a : Addr) (n : Nat) : HO := .ext fun h => ∃ (o : Obj) (es : Array (Int × Value)) (ep : Nat) (t : SetTable), h.get? a = some o ∧ o.ExactSet ∧ o.data = .set es ep t ∧ t.fits es.size = true ∧ es.size = n
theorem szO_new {P : Program} {w : World} {H : Hp} {h : Heap} {a : Addr} {n : Nat} {o : Obj} {es : Array (Int × Value)} {ep : Nat} {t : SetTable} (h1 : h.get? a = some o) (h2 : o.ExactSet) (h3 : o.data = .set es ep t) (h4 : t.fits es.size = true) (h5 : es.size = n) : ObjOk P w H h a (SzO a n) :=
  ⟨⟨o, es, ep, t, h1, h2, h3, h4, h5⟩, ⟨o, h1⟩, fun _ _ ⟨o', es', ep', t', q, r⟩ k => ⟨o', es', ep', t', k o' q, r⟩⟩
/-- set(xs), xs a list of tuples of whole numbers: how many there are -/
def rSetB (K : PySem.W.Frag) : List V → Hp → VK → Prop := fun vs H Q => ∃ (l : Addr) (ks : List (Addr × List Int)), vs = [V.ref l] ∧ SqL K H l (ks.map fun p => V.ref p.1) ∧ (∀ p ∈ ks, SqT K H p.1 (p.2.map V.int)) ∧ ks.length < 2000 ∧
  ∀ a, H a = none → Q (.ref a) (upd H a (SzO a (ddL (ks.map (·.2))).length))
def rLenS : List V → Hp → VK → Prop := fun vs H Q => ∃ (a : Addr) (n : Nat), vs = [V.ref a] ∧ H a = some (SzO a n) ∧ n < 2000 ∧ Q (.int n) H
theorem same_len {L l : List (List Int)} (hn : L.Nodup) (hm : ∀ x, x ∈ L ↔ x ∈ l) : L.length = (ddL l).length :=
  ((List.perm_ext_iff_of_nodup hn ddL_nodup).mpr fun x => (hm x).trans ddL_mem.symm).length_eq
section
variable {X : Cx}
theorem cr_setB (hc : X.calm = true) (hu : X.A.units + 64 < cLine) : CallR X (.type "set") (rSetB X.K) := by
  intro pins s σ H xs us Q I r h
  obtain ⟨l, ks, rfl, hl, hk, hf, q⟩ := h
  rw [Vals.ref1 r]
  obtain ⟨its, rv, pl, hz⟩ := I.list hl
  refine Big.set_tups ks (I.ok.hd hc) pl.isList (by simpa using refs_of_vals rv) (fun p hp => I.isT (hk p hp)) hf (by omega) fun h' tk L es ep t R g k => ?_
  obtain ⟨o, ho, hex, hd⟩ := R.ob
  have hn : es.size = (ddL (ks.map (·.2))).length := by
    rw [Big.rows_size R.rows, ← List.length_map (f := fun p : Addr × List Int => p.2)]
    refine same_len R.nd fun x => ⟨fun z => ?_, fun z => ?_⟩
    · obtain ⟨p, hp, rfl⟩ := List.mem_map.mp z
      exact List.mem_map.mpr ⟨p, List.mem_of_mem_take (g.1 p hp), rfl⟩
    · obtain ⟨p, hp, rfl⟩ := List.mem_map.mp z
      exact g.2.1 p (by rw [List.take_length]; exact hp)
  exact ⟨.ref s.heap.objs.size, upd H s.heap.objs.size (SzO s.heap.objs.size (ddL (ks.map (·.2))).length), I.laid (t' := tk) k (Nat.le_refl _) (szO_new ho hex hd (Big.Bg.fits (s := { s with heap := h', toks := tk }) R) hn), rfl, q _ (I.hok.fresh (Nat.le_refl _))⟩
theorem cr_lenS : CallR X (.builtin "len") rLenS := by
  intro pins s σ H xs us Q I r h
  obtain ⟨a, n, rfl, ha, hn, q⟩ := h
  rw [Vals.ref1 r]
  obtain ⟨⟨o, es, ep, t, h1, h2, h3, h4, h5⟩, _, _⟩ := I.hok a _ ha
  exact call_len_set h1 h2 h3 h4 (by omega) ⟨.int n, H, I.tok _, ⟨_, by rw [h5]⟩, q⟩
end
section
variable {G : Gx} {W : WX}
theorem lr_lenSetT : LRs G fLenSetT (fun vs H Q => rSetB G.K vs H fun v H1 => rLenS [v] H1 Q) := fun F H xs us Q QV e r q hq => by
  unfold fLenSetT at q
  split at q
  · rename_i l
    obtain ⟨v, rfl, a, vs, rfl, h1, h2⟩ := one_rep r
    obtain ⟨q1, q2, q3⟩ := q
    obtain ⟨ks, rfl, e2, hk⟩ := pair_refs (rep_tpl e) (rep_pair q1 h2)
    have hlk : ks.length = l.length := by
      have := congrArg List.length e2
      rw [List.length_map, List.length_map] at this
      exact this.symm
    have hdl := ddL_len (ks.map (·.2))
    rw [List.length_map] at hdl
    refine ⟨a, ks, rfl, sqL_mono e h1, fun q hq => (hk q hq).2, by omega, fun b hb => ⟨b, _, rfl, upd_same, by omega, hq (.val (.int ((ddL (ks.map fun p : Addr × List Int => p.2)).length : Nat))) _ F _ (.val (.lay e hb) (show Rep G F (.int _) (.int _) from rfl)) ?_⟩⟩
    rw [e2] at q3; exact q3
  · exact q.elim
end
section
variable {X : Cx} {G : Gx} {W : WX} {k n : Nat} {e : Expr} {ts : DA} {pos p p2 p3 : Pos}
theorem j_lenSetT (C : Cxt X G W k) (hm : X.mg "len" = none) (hm2 : X.mg "set" = none) (ha : JA X G W n [e] ts) (hg : Gl X "len" := by rfl) (hg2 : Gl X "set" := by rfl) (he : starEach [e] X.env = (false, eval e X.env) :: starEach [] X.env := by rfl)
    (he2 : starEach [.Call (.Name "set" p2) [e] [] p3] X.env = (false, eval (.Call (.Name "set" p2) [e] [] p3) X.env) :: starEach [] X.env := by rfl) (hpl : (backTo p3 (starEach ([] : List Expr) X.env)).any (·.1) = false := by rfl) (hpl2 : (backTo pos (starEach ([] : List Expr) X.env)).any (·.1) = false := by rfl) :
    JE X G W (.Call (.Name "len" p) [.Call (.Name "set" p2) [e] [] p3] [] pos) (dAs fLenSetT ts) := by
  obtain ⟨T', q, l⟩ := ha
  refine ⟨_, pe_callB cr_lenS hg hm PySem.boot_len (pa_cons (pe_callTy (cr_setB C.calm C.units) hg2 hm2 PyProof.Rows.boot_set q (he := he) (hpl := hpl)) pa_nil he2) (he := he2) (hpl := hpl2), ?_⟩
  rw [C.K]
  have z : LE G W (dAs fLenSetT ts) (tCB (fun vs H Q => rSetB G.K vs H fun v H1 => rLenS [v] H1 Q) T') := le_as lr_lenSetT l
  exact z
end
end DL

/- R_k24 -/
set_option synthInstance.maxHeartbeats 400000
set_option synthInstance.maxSize 4000
namespace DL
/-- root(number); slots 0 number, 1 near, 2 better -/
def Pg.t_root : DS := dSeq (dIf (dOp (cB bLt) (dVar 0) (dC (.int 0)))
    (dNever)
    (dNext))
  (dSeq (dIf (dOp (cB bEq) (dVar 0) (dC (.int 0)))
    (dRet (dC (.int 0)))
    (dNext))
  (dSeq (dSetV 1 (dOp oShl (dC (.int 1)) (dOp oDiv (dOp oAdd (dUn oBits (dVar 0)) (dC (.int 1))) (dC (.int 2)))))
  (dWhile (dC (.bl true))
    (dSeq (dSetV 2 (dOp oDiv (dOp oAdd (dVar 1) (dOp oDiv (dVar 0) (dVar 1))) (dC (.int 2))))
  (dSeq (dIf (dOp (cB bGe) (dVar 2) (dVar 1))
    (dRet (dVar 1))
    (dNext))
  (dSetV 1 (dVar 2)))))))
def Pg.w_root : DF := dFun 1 3 DL.Pg.t_root
instance : DetF DL.Pg.w_root := by unfold DL.Pg.w_root DL.Pg.t_root; infer_instance
/-- is_square(number); slots 0 number, 1 side -/
def Pg.t_is_square : DS := dSeq (dIf (dOp (cB bLt) (dVar 0) (dC (.int 0)))
    (dRet (dC (.bl false)))
    (dNext))
  (dSeq (dSetV 1 (dCall DL.Pg.w_root (dCons (dVar 0) (dNil))))
  (dRet (dOp (cB bEq) (dOp oMul (dVar 1) (dVar 1)) (dVar 0))))
def Pg.w_is_square : DF := dFun 1 2 DL.Pg.t_is_square
instance : DetF DL.Pg.w_is_square := by unfold DL.Pg.w_is_square DL.Pg.t_is_square; infer_instance
/-- is_turn(turn); slots 0 turn -/
def Pg.t_is_turn : DS := dRet (dOp (cB bEq) (dOp oSub (dOp oMul (dOp oIx (dVar 0) (dC (.int 0))) (dOp oIx (dVar 0) (dC (.int 3)))) (dOp oMul (dOp oIx (dVar 0) (dC (.int 1))) (dOp oIx (dVar 0) (dC (.int 2))))) (dC (.int 1)))
def Pg.w_is_turn : DF := dFun 1 1 DL.Pg.t_is_turn
instance : DetF DL.Pg.w_is_turn := by unfold DL.Pg.w_is_turn DL.Pg.t_is_turn; infer_instance
/-- must_turn(turn); slots 0 turn -/
def Pg.t_must_turn : DS := dIf (dNot (dCall DL.Pg.w_is_turn (dCons (dVar 0) (dNil))))
    (dNever)
    (dNext)
def Pg.w_must_turn : DF := dFun 1 1 DL.Pg.t_must_turn
instance : DetF DL.Pg.w_must_turn := by unfold DL.Pg.w_must_turn DL.Pg.t_must_turn; infer_instance
/-- put(one, other); slots 0 one, 1 other, 2 p, 3 q, 4 r, 5 s, 6 t, 7 u, 8 v, 9 w -/
def Pg.t_put : DS := dSeq (dUnp [2, 3, 4, 5] (dVar 0))
  (dSeq (dUnp [6, 7, 8, 9] (dVar 1))
  (dRet (dTup (dCons (dOp oAdd (dOp oMul (dVar 2) (dVar 6)) (dOp oMul (dVar 3) (dVar 8))) (dCons (dOp oAdd (dOp oMul (dVar 2) (dVar 7)) (dOp oMul (dVar 3) (dVar 9))) (dCons (dOp oAdd (dOp oMul (dVar 4) (dVar 6)) (dOp oMul (dVar 5) (dVar 8))) (dCons (dOp oAdd (dOp oMul (dVar 4) (dVar 7)) (dOp oMul (dVar 5) (dVar 9))) (dNil))))))))
def Pg.w_put : DF := dFun 2 10 DL.Pg.t_put
instance : DetF DL.Pg.w_put := by unfold DL.Pg.w_put DL.Pg.t_put; infer_instance
/-- then(one, other); slots 0 one, 1 other -/
def Pg.t_then : DS := dSeq (dDrop (dCall DL.Pg.w_must_turn (dCons (dVar 0) (dNil))))
  (dSeq (dDrop (dCall DL.Pg.w_must_turn (dCons (dVar 1) (dNil))))
  (dRet (dCall DL.Pg.w_put (dCons (dVar 0) (dCons (dVar 1) (dNil))))))
def Pg.w_then : DF := dFun 2 2 DL.Pg.t_then
instance : DetF DL.Pg.w_then := by unfold DL.Pg.w_then DL.Pg.t_then; infer_instance
/-- measure(form); slots 0 form, 1 a, 2 b, 3 c -/
def Pg.t_measure : DS := dSeq (dUnp [1, 2, 3] (dVar 0))
  (dRet (dOp oSub (dOp oMul (dVar 2) (dVar 2)) (dOp oMul (dOp oMul (dC (.int 4)) (dVar 1)) (dVar 3))))
def Pg.w_measure : DF := dFun 1 4 DL.Pg.t_measure
instance : DetF DL.Pg.w_measure := by unfold DL.Pg.w_measure DL.Pg.t_measure; infer_instance
/-- value(form, point); slots 0 form, 1 point, 2 a, 3 b, 4 c, 5 x, 6 y -/
def Pg.t_value : DS := dSeq (dUnp [2, 3, 4] (dVar 0))
  (dSeq (dUnp [5, 6] (dVar 1))
  (dRet (dOp oAdd (dOp oAdd (dOp oMul (dOp oMul (dVar 2) (dVar 5)) (dVar 5)) (dOp oMul (dOp oMul (dVar 3) (dVar 5)) (dVar 6))) (dOp oMul (dOp oMul (dVar 4) (dVar 6)) (dVar 6)))))
def Pg.w_value : DF := dFun 2 7 DL.Pg.t_value
instance : DetF DL.Pg.w_value := by unfold DL.Pg.w_value DL.Pg.t_value; infer_instance
/-- moved(form, turn); slots 0 form, 1 turn, 2 a, 3 b, 4 c, 5 p, 6 q, 7 r, 8 s, 9 middle -/
def Pg.t_moved : DS := dSeq (dDrop (dCall DL.Pg.w_must_turn (dCons (dVar 1) (dNil))))
  (dSeq (dUnp [2, 3, 4] (dVar 0))
  (dSeq (dUnp [5, 6, 7, 8] (dVar 1))
  (dSeq (dSetV 9 (dOp oAdd (dOp oAdd (dOp oMul (dOp oMul (dOp oMul (dC (.int 2)) (dVar 2)) (dVar 5)) (dVar 6)) (dOp oMul (dVar 3) (dOp oAdd (dOp oMul (dVar 5) (dVar 8)) (dOp oMul (dVar 6) (dVar 7))))) (dOp oMul (dOp oMul (dOp oMul (dC (.int 2)) (dVar 4)) (dVar 7)) (dVar 8))))
  (dRet (dTup (dCons (dCall DL.Pg.w_value (dCons (dVar 0) (dCons (dTup (dCons (dVar 5) (dCons (dVar 7) (dNil)))) (dNil)))) (dCons (dVar 9) (dCons (dCall DL.Pg.w_value (dCons (dVar 0) (dCons (dTup (dCons (dVar 6) (dCons (dVar 8) (dNil)))) (dNil)))) (dNil)))))))))
def Pg.w_moved : DF := dFun 2 10 DL.Pg.t_moved
instance : DetF DL.Pg.w_moved := by unfold DL.Pg.w_moved DL.Pg.t_moved; infer_instance
/-- shape(form); slots 0 form, 1 bar -/
def Pg.t_shape : DS := dSeq (dSetV 1 (dCall DL.Pg.w_measure (dCons (dVar 0) (dNil))))
  (dSeq (dIf (dAnd (dOp (cB bLt) (dVar 1) (dC (.int 0))) (dOp (cB bGt) (dOp oIx (dVar 0) (dC (.int 0))) (dC (.int 0))))
    (dRet (dC (.str [98, 111, 119, 108])))
    (dNext))
  (dSeq (dIf (dOp (cB bLt) (dVar 1) (dC (.int 0)))
    (dRet (dC (.str [100, 111, 109, 101])))
    (dNext))
  (dSeq (dIf (dCall DL.Pg.w_is_square (dCons (dVar 1) (dNil)))
    (dRet (dC (.str [102, 108, 97, 116])))
    (dNext))
  (dRet (dC (.str [115, 97, 100, 100, 108, 101]))))))
def Pg.w_shape : DF := dFun 1 2 DL.Pg.t_shape
instance : DetF DL.Pg.w_shape := by unfold DL.Pg.w_shape DL.Pg.t_shape; infer_instance
/-- must_saddle(form); slots 0 form -/
def Pg.t_must_saddle : DS := dSeq (dIf (dOp (cB bNe) (dCall DL.Pg.w_shape (dCons (dVar 0) (dNil))) (dC (.str [115, 97, 100, 100, 108, 101])))
    (dNever)
    (dNext))
  (dIf (dOp (cB bGt) (dCall DL.Pg.w_measure (dCons (dVar 0) (dNil))) (dC (.int 4000)))
    (dNever)
    (dNext))
def Pg.w_must_saddle : DF := dFun 1 1 DL.Pg.t_must_saddle
instance : DetF DL.Pg.w_must_saddle := by unfold DL.Pg.w_must_saddle DL.Pg.t_must_saddle; infer_instance
/-- lies_level(form, far); slots 0 form, 1 far, 2 a, 3 b, 4 c -/
def Pg.t_lies_level : DS := dSeq (dUnp [2, 3, 4] (dVar 0))
  (dRet (dAnd (dChain bLt bLe (dC (.int 0)) (dVar 3) (dVar 1)) (dChain bLt bLe (dOp oSub (dVar 1) (dVar 3)) (dOp oMul (dC (.int 2)) (dAs fAbs (dCons (dVar 2) (dNil)))) (dOp oAdd (dVar 1) (dVar 3)))))
def Pg.w_lies_level : DF := dFun 2 5 DL.Pg.t_lies_level
instance : DetF DL.Pg.w_lies_level := by unfold DL.Pg.w_lies_level DL.Pg.t_lies_level; infer_instance
/-- onward(form, far); slots 0 form, 1 far, 2 a, 3 b, 4 c, 5 top, 6 d -/
def Pg.t_onward : DS := dSeq (dUnp [2, 3, 4] (dVar 0))
  (dSeq (dSetV 5 (dAs fMax (dCons (dVar 1) (dCons (dAs fAbs (dCons (dVar 4) (dNil))) (dNil)))))
  (dSeq (dSetV 6 (dOp oSub (dVar 5) (dOp oMod (dOp oAdd (dVar 5) (dVar 3)) (dOp oMul (dC (.int 2)) (dAs fAbs (dCons (dVar 4) (dNil)))))))
  (dRet (dTup (dCons (dC (.int 0)) (dCons (dUn oNeg (dC (.int 1))) (dCons (dC (.int 1)) (dCons (dOp oDiv (dOp oAdd (dVar 3) (dVar 6)) (dOp oMul (dC (.int 2)) (dVar 4))) (dNil)))))))))
def Pg.w_onward : DF := dFun 2 7 DL.Pg.t_onward
instance : DetF DL.Pg.w_onward := by unfold DL.Pg.w_onward DL.Pg.t_onward; infer_instance
/-- eased(form); slots 0 form, 1 far, 2 turn, 3 one -/
def Pg.t_eased : DS := dSeq (dDrop (dCall DL.Pg.w_must_saddle (dCons (dVar 0) (dNil))))
  (dSeq (dSetV 1 (dCall DL.Pg.w_root (dCons (dCall DL.Pg.w_measure (dCons (dVar 0) (dNil))) (dNil))))
  (dSeq (dSetV 2 (dC (.tup [.int 1, .int 0, .int 0, .int 1])))
  (dSeq (dWhile (dNot (dCall DL.Pg.w_lies_level (dCons (dVar 0) (dCons (dVar 1) (dNil)))))
    (dSeq (dSetV 3 (dCall DL.Pg.w_onward (dCons (dVar 0) (dCons (dVar 1) (dNil)))))
  (dSeq (dSetV 0 (dCall DL.Pg.w_moved (dCons (dVar 0) (dCons (dVar 3) (dNil)))))
  (dSetV 2 (dCall DL.Pg.w_then (dCons (dVar 2) (dCons (dVar 3) (dNil))))))))
  (dRet (dTup (dCons (dVar 0) (dCons (dVar 2) (dNil))))))))
def Pg.w_eased : DF := dFun 1 4 DL.Pg.t_eased
instance : DetF DL.Pg.w_eased := by unfold DL.Pg.w_eased DL.Pg.t_eased; infer_instance
/-- ways_round(form); slots 0 form, 1 turn, 2 far, 3 ways, 4 one -/
def Pg.t_ways_round : DS := dSeq (dUnp [0, 1] (dCall DL.Pg.w_eased (dCons (dVar 0) (dNil))))
  (dSeq (dSetV 2 (dCall DL.Pg.w_root (dCons (dCall DL.Pg.w_measure (dCons (dVar 0) (dNil))) (dNil))))
  (dSeq (dSet 3 (dNewD))
  (dSeq (dWhile (dViewT (dOp (cB bDNotIn) (dVar 0) (dVar 3)))
    (dSeq (dPut 3 (dVar 0) (dVar 1))
  (dSeq (dSetV 4 (dCall DL.Pg.w_onward (dCons (dVar 0) (dCons (dVar 2) (dNil)))))
  (dSeq (dSetV 0 (dCall DL.Pg.w_moved (dCons (dVar 0) (dCons (dVar 4) (dNil)))))
  (dSetV 1 (dCall DL.Pg.w_then (dCons (dVar 1) (dCons (dVar 4) (dNil)))))))))
  (dRetOwn 3))))
def Pg.w_ways_round : DF := dFun 1 5 DL.Pg.t_ways_round
instance : DetF DL.Pg.w_ways_round := by unfold DL.Pg.w_ways_round DL.Pg.t_ways_round; infer_instance
/-- round_of(form); slots 0 form, 1 row, 2 at -/
def Pg.t_round_of : DS := dSeq (dSetV 1 (dAs fListD (dCons (dCall DL.Pg.w_ways_round (dCons (dVar 0) (dNil))) (dNil))))
  (dSeq (dSetV 2 (dIndex (dVar 1) (dCons (dAs fMinT (dCons (dVar 1) (dNil))) (dNil))))
  (dRet (dOp oAdd (dSl (dVar 1) (dPart (dVar 2)) (dNoPart)) (dSl (dVar 1) (dNoPart) (dPart (dVar 2))))))
def Pg.w_round_of : DF := dFun 1 3 DL.Pg.t_round_of
instance : DetF DL.Pg.w_round_of := by unfold DL.Pg.w_round_of DL.Pg.t_round_of; infer_instance
/-- _law_cell(_law_script, _law_k); slots 0 _law_script, 1 _law_k -/
def Lw.t_law_cell : DS := dSeq (dIf (dOp (cB bLt) (dVar 1) (dAs fLen (dCons (dVar 0) (dNil))))
    (dRet (dOp oIx (dVar 0) (dVar 1)))
    (dNext))
  (dRet (dC (.int 0)))
def Lw.w_law_cell : DF := dFun 2 2 DL.Lw.t_law_cell
/-- _law_whole(_law_found); slots 0 _law_found -/
def Lw.t_law_whole : DS := dRet (dAnd (dUn (oIsi D.isInt) (dVar 0)) (dNot (dUn (oIsi D.isBool) (dVar 0))))
def Lw.w_law_whole : DF := dFun 1 1 DL.Lw.t_law_whole
/-- _law_wholes(_law_found, _law_many); slots 0 _law_found, 1 _law_many, 2 _law_one -/
def Lw.t_law_wholes : DS := dSeq (dIf (dOr (dNot (dUn (oIsi D.isTuple) (dVar 0))) (dOp (cB bNe) (dAs fLen (dCons (dVar 0) (dNil))) (dVar 1)))
    (dRet (dC (.bl false)))
    (dNext))
  (dRet (dOp (cB bEq) (dAs fLen (dCons (dLc 2 (dVar 0) (dCall DL.Lw.w_law_whole (dCons (dVar 2) (dNil))) (dVar 2)) (dNil))) (dVar 1)))
def Lw.w_law_wholes : DF := dFun 2 3 DL.Lw.t_law_wholes
/-- _law_bar(_law_form); slots 0 _law_form -/
def Lw.t_law_bar : DS := dRet (dOp oSub (dOp oMul (dOp oIx (dVar 0) (dC (.int 1))) (dOp oIx (dVar 0) (dC (.int 1)))) (dOp oMul (dOp oMul (dC (.int 4)) (dOp oIx (dVar 0) (dC (.int 0)))) (dOp oIx (dVar 0) (dC (.int 2)))))
def Lw.w_law_bar : DF := dFun 1 1 DL.Lw.t_law_bar
instance : DetF DL.Lw.w_law_bar := by unfold DL.Lw.w_law_bar DL.Lw.t_law_bar; infer_instance
/-- _law_root(_law_number); slots 0 _law_number, 1 _law_near -/
def Lw.t_law_root : DS := dSeq (dSetV 1 (dOp oShl (dC (.int 1)) (dOp oDiv (dOp oAdd (dUn oBits (dVar 0)) (dC (.int 1))) (dC (.int 2)))))
  (dSeq (dWhile (dOp (cB bGt) (dOp oMul (dVar 1) (dVar 1)) (dVar 0))
    (dSetV 1 (dOp oDiv (dOp oAdd (dVar 1) (dOp oDiv (dVar 0) (dVar 1))) (dC (.int 2)))))
  (dRet (dVar 1)))
def Lw.w_law_root : DF := dFun 1 2 DL.Lw.t_law_root
/-- _law_flat(_law_form); slots 0 _law_form, 1 _law_bar_here, 2 _law_far -/
def Lw.t_law_flat : DS := dSeq (dSetV 1 (dCall DL.Lw.w_law_bar (dCons (dVar 0) (dNil))))
  (dSeq (dSetV 2 (dCall DL.Lw.w_law_root (dCons (dVar 1) (dNil))))
  (dRet (dOp (cB bEq) (dOp oMul (dVar 2) (dVar 2)) (dVar 1))))
def Lw.w_law_flat : DF := dFun 1 3 DL.Lw.t_law_flat
/-- _law_level(_law_form, _law_far); slots 0 _law_form, 1 _law_far -/
def Lw.t_law_level : DS := dRet (dAnd (dChain bLt bLe (dC (.int 0)) (dOp oIx (dVar 0) (dC (.int 1))) (dVar 1)) (dChain bLt bLe (dOp oSub (dVar 1) (dOp oIx (dVar 0) (dC (.int 1)))) (dOp oMul (dC (.int 2)) (dAs fAbs (dCons (dOp oIx (dVar 0) (dC (.int 0))) (dNil)))) (dOp oAdd (dVar 1) (dOp oIx (dVar 0) (dC (.int 1))))))
def Lw.w_law_level : DF := dFun 2 2 DL.Lw.t_law_level
/-- _law_behind(_law_form, _law_top); slots 0 _law_form, 1 _law_top, 2 _law_a, 3 _law_b, 4 _law_c, 5 _law_d -/
def Lw.t_law_behind : DS := dSeq (dUnp [2, 3, 4] (dVar 0))
  (dSeq (dSetV 5 (dOp oSub (dVar 1) (dOp oMod (dOp oAdd (dVar 1) (dVar 3)) (dOp oMul (dC (.int 2)) (dAs fAbs (dCons (dVar 4) (dNil)))))))
  (dRet (dTup (dCons (dVar 4) (dCons (dVar 5) (dCons (dOp oDiv (dOp oSub (dOp oMul (dVar 5) (dVar 5)) (dCall DL.Lw.w_law_bar (dCons (dVar 0) (dNil)))) (dOp oMul (dC (.int 4)) (dVar 4))) (dNil)))))))
def Lw.w_law_behind : DF := dFun 2 6 DL.Lw.t_law_behind
/-- _law_saddle(_law_one, _law_two, _law_three); slots 0 _law_one, 1 _law_two, 2 _law_three, 3 _law_often, 4 _law_size, 5 _law_m, 6 _law_b, 7 _law_rest, 8 _law_most, 9 _law_bar_here, 10 _law_sign -/
def Lw.t_law_saddle_3 : DS := dSeq (dSetV 5 (dOp oAdd (dC (.int 1)) (dOp oMod (dOp oDiv (dVar 0) (dC (.int 80))) (dVar 4))))
  (dSeq (dSetV 6 (dOp oMod (dVar 1) (dOp oMul (dC (.int 2)) (dVar 5))))
  (dSeq (dSetV 7 (dOp oMod (dOp oMul (dVar 6) (dVar 6)) (dOp oMul (dC (.int 4)) (dVar 5))))
  (dSeq (dSetV 8 (dOp oDiv (dC (.int 4000)) (dOp oMul (dVar 3) (dVar 3))))
  (dSeq (dSetV 9 (dOp oAdd (dVar 7) (dOp oMul (dOp oMul (dC (.int 4)) (dVar 5)) (dOp oMod (dVar 2) (dOp oAdd (dC (.int 1)) (dOp oDiv (dOp oSub (dVar 8) (dVar 7)) (dOp oMul (dC (.int 4)) (dVar 5))))))))
  (dSeq (dSetV 10 (dOp oMul (dVar 3) (dOp oSub (dC (.int 1)) (dOp oMul (dC (.int 2)) (dOp oMod (dVar 0) (dC (.int 2)))))))
  (dRet (dTup (dCons (dOp oMul (dVar 10) (dVar 5)) (dCons (dOp oMul (dVar 3) (dVar 6)) (dCons (dOp oMul (dVar 10) (dOp oDiv (dOp oSub (dOp oMul (dVar 6) (dVar 6)) (dVar 9)) (dOp oMul (dC (.int 4)) (dVar 5)))) (dNil)))))))))))
def Lw.t_law_saddle : DS := dSeq (dSetV 3 (dOp oIx (dLst (dCons (dC (.int 1)) (dCons (dC (.int 1)) (dCons (dC (.int 1)) (dCons (dOp oAdd (dC (.int 2)) (dOp oMod (dOp oDiv (dVar 0) (dC (.int 8))) (dC (.int 5)))) (dNil)))))) (dOp oMod (dOp oDiv (dVar 0) (dC (.int 2))) (dC (.int 4)))))
  (dSeq (dSetV 4 (dOp oIx (dLst (dCons (dC (.int 400)) (dCons (dC (.int 12)) (dNil)))) (dAs fInt (dCons (dOr (dOp (cB bGt) (dVar 3) (dC (.int 1))) (dOp (cB bEq) (dOp oMod (dOp oDiv (dVar 0) (dC (.int 40))) (dC (.int 2))) (dC (.int 1)))) (dNil)))))
  (DL.Lw.t_law_saddle_3))
def Lw.w_law_saddle : DF := dFun 3 11 DL.Lw.t_law_saddle
/-- _law_eased(_law_form, _law_far); slots 0 _law_form, 1 _law_far -/
def Lw.t_law_eased : DS := dSeq (dWhile (dNot (dCall DL.Lw.w_law_level (dCons (dVar 0) (dCons (dVar 1) (dNil)))))
    (dSetV 0 (dCall DL.Lw.w_law_behind (dCons (dVar 0) (dCons (dAs fMax (dCons (dVar 1) (dCons (dAs fAbs (dCons (dOp oIx (dVar 0) (dC (.int 2))) (dNil))) (dNil)))) (dNil))))))
  (dRet (dVar 0))
def Lw.w_law_eased : DF := dFun 2 2 DL.Lw.t_law_eased
/-- _law_good(_law_form, _law_found); slots 0 _law_form, 1 _law_found, 2 _law_far, 3 _law_k -/
def Lw.t_law_good : DS := dSeq (dSetV 2 (dCall DL.Lw.w_law_root (dCons (dCall DL.Lw.w_law_bar (dCons (dVar 0) (dNil))) (dNil))))
  (dSeq (dIf (dOr (dNot (dUn (oIsi D.isList) (dVar 1))) (dOr (dOp (cB bEq) (dAs fLen (dCons (dVar 1) (dNil))) (dC (.int 0))) (dOp (cB bNotIn) (dCall DL.Lw.w_law_eased (dCons (dVar 0) (dCons (dVar 2) (dNil)))) (dVar 1))))
    (dRet (dC (.bl false)))
    (dNext))
  (dSeq (dFor 3 (dAs fRange (dCons (dAs fLen (dCons (dVar 1) (dNil))) (dNil)))
    (dSeq (dIf (dOr (dNot (dCall DL.Lw.w_law_wholes (dCons (dOp oIx (dVar 1) (dVar 3)) (dCons (dC (.int 3)) (dNil))))) (dOr (dOp (cB bLtT) (dOp oIx (dVar 1) (dVar 3)) (dOp oIx (dVar 1) (dC (.int 0)))) (dAnd (dOp (cB bGt) (dVar 3) (dC (.int 0))) (dOp (cB bEq) (dOp oIx (dVar 1) (dVar 3)) (dOp oIx (dVar 1) (dC (.int 0)))))))
    (dRet (dC (.bl false)))
    (dNext))
  (dIf (dOp (cB bNe) (dOp oIx (dVar 1) (dOp oMod (dOp oAdd (dVar 3) (dC (.int 1))) (dAs fLen (dCons (dVar 1) (dNil))))) (dCall DL.Lw.w_law_behind (dCons (dOp oIx (dVar 1) (dVar 3)) (dCons (dVar 2) (dNil)))))
    (dRet (dC (.bl false)))
    (dNext))))
  (dRet (dOp (cB bEq) (dAs fLenSetT (dCons (dVar 1) (dNil))) (dAs fLen (dCons (dVar 1) (dNil)))))))
def Lw.w_law_good : DF := dFun 2 4 DL.Lw.t_law_good
/-- law(_law_script); slots 0 _law_script, 1 _law_one, 2 _law_other, 3 _law_found, 4 _law_kept, 5 _law_beside -/
structure Lw.t_law_7 (n : Env → Prop) (q : DK) (b c : Env → Prop) (x : Exn → Env → Prop) (r : Env) : Prop where
  go : (dSeq (dSet 3 (dCall DL.Pg.w_round_of (dCons (dVar 1) (dNil))))
  (dSeq (dIf (dViewT (dNot (dCall DL.Lw.w_law_good (dCons (dVar 1) (dCons (dVar 3) (dNil))))))
    (dRet (dC (.bl false)))
    (dNext))
  (dSeq (dSetV 4 (dView (dAs fList (dCons (dVar 3) (dNil)))))
  (dSeq (dSetV 5 (dCall DL.Pg.w_round_of (dCons (dVar 2) (dNil))))
  (dSeq (dIf (dViewT (dOr (dNot (dCall DL.Lw.w_law_good (dCons (dVar 2) (dCons (dVar 5) (dNil))))) (dOp (cB bNe) (dVar 3) (dVar 4))))
    (dRet (dC (.bl false)))
    (dNext))
  (dSeq (dApp 3 (dTup (dCons (dC (.int 0)) (dCons (dC (.int 0)) (dCons (dC (.int 0)) (dNil))))))
  (dRet (dAnd (dOp (cB bEq) (dCall DL.Pg.w_round_of (dCons (dVar 1) (dNil))) (dVar 4)) (dCall DL.Lw.w_law_good (dCons (dVar 2) (dCons (dVar 5) (dNil))))))))))) : DS) n q b c x r
def Lw.t_law : DS := dSeq (dSetV 1 (dCall DL.Lw.w_law_saddle (dCons (dCall DL.Lw.w_law_cell (dCons (dVar 0) (dCons (dC (.int 0)) (dNil)))) (dCons (dCall DL.Lw.w_law_cell (dCons (dVar 0) (dCons (dC (.int 1)) (dNil)))) (dCons (dCall DL.Lw.w_law_cell (dCons (dVar 0) (dCons (dC (.int 2)) (dNil)))) (dNil))))))
  (dSeq (dSetV 2 (dCall DL.Lw.w_law_saddle (dCons (dCall DL.Lw.w_law_cell (dCons (dVar 0) (dCons (dC (.int 3)) (dNil)))) (dCons (dCall DL.Lw.w_law_cell (dCons (dVar 0) (dCons (dC (.int 4)) (dNil)))) (dCons (dCall DL.Lw.w_law_cell (dCons (dVar 0) (dCons (dC (.int 5)) (dNil)))) (dNil))))))
  (dSeq (dIf (dCall DL.Lw.w_law_flat (dCons (dVar 1) (dNil)))
    (dSetV 1 (dTup (dCons (dC (.int 1)) (dCons (dC (.int 1)) (dCons (dUn oNeg (dC (.int 1))) (dNil))))))
    (dNext))
  (dSeq (dIf (dCall DL.Lw.w_law_flat (dCons (dVar 2) (dNil)))
    (dSetV 2 (dTup (dCons (dC (.int 1)) (dCons (dC (.int 0)) (dCons (dUn oNeg (dC (.int 2))) (dNil))))))
    (dNext))
  (DL.Lw.t_law_7))))
def Lw.w_law : DF := dFun 1 6 DL.Lw.t_law
end DL

/- Rn -/
namespace DL
namespace Rn
structure Tr where
  A : Int
  B : Int
  C : Int
structure Mx where
  p : Int
  q : Int
  r : Int
  s : Int
/-- a level form, its signs off: A x x + B x y - C y y -/
structure PL (A B C : Int) : Prop where
  a : 0 < A
  c : 0 < C
  h : C < A + B
  k : A < B + C
structure Fw (p q r s : Int) : Prop where
  p : 0 ≤ p
  q : 1 ≤ q
  r : 1 ≤ r
  s : 1 ≤ s
/-- the form, by the rows, is d times the other -/
structure By (A B C p q r s A' B' C' d : Int) : Prop where
  det : p * s - q * r = d
  e1 : A * (p * p) + B * (p * r) - C * (r * r) = d * A'
  e2 : 2 * A * (p * q) + B * (p * s + q * r) - 2 * C * (r * s) = d * B'
  e3 : A * (q * q) + B * (q * s) - C * (s * s) = -(d * C')
theorem one_one {q y : Int} (hq : 1 ≤ q) (h : y * q = 1) : y = 1 ∧ q = 1 := by
  have hy : 0 < y := by
    rcases Int.lt_or_le 0 y with g | g
    · exact g
    · have : y * q ≤ 0 := Int.mul_nonpos_of_nonpos_of_nonneg g (by omega)
      omega
  have h1 : 1 * q ≤ y * q := Int.mul_le_mul_of_nonneg_right (by omega) (by omega)
  have : q = 1 := by omega
  subst this
  omega
theorem one_neg {q y : Int} (hq : 1 ≤ q) (h : y * q = -1) : y = -1 ∧ q = 1 := by
  have := one_one (y := -y) hq (by rw [Int.neg_mul]; omega)
  omega
/-- two rows, the lower one from nought on: as it is, or onward -/
theorem lower {A B C A' B' C' x y p q d : Int} (F : PL A B C) (G : PL A' B' C') (hd : d = 1 ∨ d = -1) (N : By A B C x y p q A' B' C' d) (hp : 0 ≤ p) (hq : 1 ≤ q) : (x = 1 ∧ y = 0 ∧ p = 0 ∧ q = 1) ∨ Fw x y p q := by
  obtain ⟨dt, e1, e2, e3⟩ := N
  obtain ⟨f1, f2, f3, f4⟩ := F
  obtain ⟨g1, g2, g3, g4⟩ := G
  rcases Int.lt_or_le 0 p with hp1 | hp0
  · right
    rcases Int.lt_or_le 0 y with hy | hy
    · -- y from 1 on
      have h1 : 1 * 1 ≤ y * p := Int.mul_le_mul hy hp1 (by decide) (by omega)
      refine ⟨?_, hy, hp1, hq⟩
      rcases Int.lt_or_le x 0 with g | g
      · have : x * q ≤ -1 * 1 := by
          have : 1 * 1 ≤ (-x) * q := Int.mul_le_mul (by omega) hq (by decide) (by omega)
          rw [Int.neg_mul] at this
          omega
        omega
      · exact g
    · exfalso
      rcases Int.lt_or_le y 0 with hy1 | hy1
      · rcases Int.lt_or_le x 0 with hx | hx
        · -- both in the second quarter
          obtain ⟨X, rfl⟩ : ∃ X, x = -X := ⟨-x, by omega⟩
          obtain ⟨Y, rfl⟩ : ∃ Y, y = -Y := ⟨-y, by omega⟩
          have hX : 0 < X := by omega
          have hY : 0 < Y := by omega
          have hpq : 0 < p * q := Int.mul_pos hp1 (by omega)
          have hXq : 0 < X * q := Int.mul_pos hX (by omega)
          have hYp : 0 < Y * p := Int.mul_pos hY hp1
          have k0 : 0 < A * ((X * q) * (Y * p)) + C * ((p * q) * (p * q)) := by
            have u1 := Int.mul_pos f1 (Int.mul_pos hXq hYp)
            have u2 := Int.mul_pos f2 (Int.mul_pos hpq hpq)
            omega
          have u := Int.mul_pos (Int.mul_pos (Int.mul_pos hXq hYp) hpq) hpq
          have ident : (X * q) * ((A * (Y * Y) + B * (-Y * q) - C * (q * q)) * (p * p)) - (Y * p) * ((A * (X * X) + B * (-X * p) - C * (p * p)) * (q * q)) = (Y * p - X * q) * (A * ((X * q) * (Y * p)) + C * ((p * q) * (p * q))) := by grind
          have e1' : A * (X * X) + B * (-X * p) - C * (p * p) = d * A' := by rw [← e1]; grind
          have e3' : A * (Y * Y) + B * (-Y * q) - C * (q * q) = -(d * C') := by rw [← e3]; grind
          rw [e1', e3'] at ident
          have dt' : Y * p - X * q = d := by rw [← dt]; grind
          rw [dt'] at ident
          have w1 : 0 < (X * q) * (C' * (p * p)) := Int.mul_pos hXq (Int.mul_pos g2 (Int.mul_pos hp1 hp1))
          have w2 : 0 < (Y * p) * (A' * (q * q)) := Int.mul_pos hYp (Int.mul_pos g1 (Int.mul_pos (by omega) (by omega)))
          rcases hd with rfl | rfl
          · have : (X * q) * (-(1 * C') * (p * p)) - (Y * p) * ((1 * A') * (q * q)) = -((X * q) * (C' * (p * p))) - (Y * p) * (A' * (q * q)) := by grind
            omega
          · have : (X * q) * (-(-1 * C') * (p * p)) - (Y * p) * ((-1 * A') * (q * q)) = ((X * q) * (C' * (p * p))) + (Y * p) * (A' * (q * q)) := by grind
            omega
        · -- x from nought on, y below it
          have h1 : 0 ≤ x * q := Int.mul_nonneg hx (by omega)
          have h2 : 1 * 1 ≤ (-y) * p := Int.mul_le_mul (by omega) hp1 (by decide) (by omega)
          rw [Int.neg_mul] at h2
          have h3 : x * q = 0 := by omega
          have h4 : x = 0 := by
            rcases Int.mul_eq_zero.mp h3 with g | g <;> omega
          subst h4
          have h5 : d = 1 := by omega
          subst h5
          obtain ⟨rfl, rfl⟩ := one_neg hp1 (by omega : y * p = -1)
          have : A * (0 * 0) + B * (0 * 1) - C * (1 * 1) = -C := by omega
          omega
      · have : y = 0 := by omega
        subst this
        have h1 : x * q = d := by omega
        have hd1 : d = 1 := by
          rcases hd with g | g
          · exact g
          · exfalso
            obtain ⟨rfl, rfl⟩ := one_neg hq (by omega : x * q = -1)
            subst g
            omega
        subst hd1
        obtain ⟨rfl, rfl⟩ := one_one hq h1
        have k1 : A = A' - B' * p - C' * (p * p) := by
          have : A + B * p - C * (p * p) = A' := by
            have : A * (1 * 1) + B * (1 * p) - C * (p * p) = A + B * p - C * (p * p) := by grind
            omega
          have : B - 2 * C * p = B' := by
            have : 2 * A * (1 * 0) + B * (1 * 1 + 0 * p) - 2 * C * (p * 1) = B - 2 * C * p := by grind
            omega
          have : C = C' := by omega
          subst this
          grind
        have m1 : B' * 1 ≤ B' * p := Int.mul_le_mul_of_nonneg_left hp1 (by omega)
        have m2 : C' * 1 ≤ C' * (p * p) := Int.mul_le_mul_of_nonneg_left (by have : 1 * 1 ≤ p * p := Int.mul_le_mul hp1 hp1 (by decide) (by omega); omega) (by omega)
        omega
  · left
    have : p = 0 := by omega
    subst this
    have h1 : x * q = d := by omega
    have hd1 : d = 1 := by
      rcases hd with g | g
      · exact g
      · exfalso
        obtain ⟨rfl, rfl⟩ := one_neg hq (by omega : x * q = -1)
        subst g
        omega
    subst hd1
    obtain ⟨rfl, rfl⟩ := one_one hq h1
    have k1 : A' = A := by omega
    have k2 : B' = B + 2 * A * y := by
      have : 2 * A * (1 * y) + B * (1 * 1 + y * 0) - 2 * C * (0 * 1) = B + 2 * A * y := by grind
      omega
    have k3 : C' = C - B * y - A * (y * y) := by
      have : A * (y * y) + B * (y * 1) - C * (1 * 1) = -(C - B * y - A * (y * y)) := by grind
      omega
    refine ⟨rfl, ?_, rfl, rfl⟩
    rcases Int.lt_trichotomy y 0 with g | g | g
    · exfalso
      have k4 : C = C' - B' * (-y) - A' * (y * y) := by subst k1 k2 k3; grind
      have m1 : B' * 1 ≤ B' * (-y) := Int.mul_le_mul_of_nonneg_left (by omega) (by omega)
      have m0 : 1 * 1 ≤ (-y) * (-y) := Int.mul_le_mul (by omega) (by omega) (by decide) (by omega)
      rw [Int.neg_mul_neg] at m0
      have m2 : A' * 1 ≤ A' * (y * y) := Int.mul_le_mul_of_nonneg_left (by omega) (by omega)
      omega
    · exact g
    · exfalso
      have m1 : B * 1 ≤ B * y := Int.mul_le_mul_of_nonneg_left (by omega) (by omega)
      have m0 : 1 * 1 ≤ y * y := Int.mul_le_mul (by omega) (by omega) (by decide) (by omega)
      have m2 : A * 1 ≤ A * (y * y) := Int.mul_le_mul_of_nonneg_left (by omega) (by omega)
      omega
/-- the root of the measure, which is no square -/
structure Far (D far : Int) : Prop where
  n : 0 ≤ far
  l : far * far < D
  u : D < (far + 1) * (far + 1)
theorem Far.up {D far x : Int} (R : Far D far) (h : x * x < D) : x ≤ far := by
  rcases Int.lt_or_le far x with g | g
  · have := R.n
    have : (far + 1) * (far + 1) ≤ x * x := Int.mul_le_mul g g (by omega) (by omega)
    have := R.u
    omega
  · exact g
theorem Far.lo {D far x : Int} (R : Far D far) (h0 : 0 ≤ x) (h : D < x * x) : far < x := by
  rcases Int.lt_or_le far x with g | g
  · exact g
  · have := R.n
    have : x * x ≤ far * far := Int.mul_le_mul g g (by omega) (by omega)
    have := R.l
    omega
theorem Far.sq {D far x : Int} (R : Far D far) (h1 : -far ≤ x) (h2 : x ≤ far) : x * x < D := by
  have : 0 ≤ (far - x) * (far + x) := Int.mul_nonneg (by omega) (by omega)
  have e : (far - x) * (far + x) = far * far - x * x := by grind
  have := R.l
  omega
structure Lies (far A B C : Int) : Prop where
  b0 : 0 < B
  b1 : B ≤ far
  a1 : far - B < 2 * A
  a2 : 2 * A ≤ far + B
  c1 : far - B < 2 * C
  c2 : 2 * C ≤ far + B
theorem lies {D far A B C : Int} (R : Far D far) (hD : B * B + 4 * A * C = D) (F : PL A B C) : Lies far A B C := by
  obtain ⟨f1, f2, f3, f4⟩ := F
  have hac := Int.mul_pos f1 f2
  have e4 : 4 * A * C = 4 * (A * C) := Int.mul_assoc ..
  have b0 : 0 < B := by omega
  have b1 : B ≤ far := R.up (by omega)
  have s1 : A * C < A * (A + B) := Int.mul_lt_mul_of_pos_left f3 f1
  have s2 : C * A < C * (B + C) := Int.mul_lt_mul_of_pos_left f4 f2
  refine ⟨b0, b1, ?_, ?_, ?_, ?_⟩
  · have : far < 2 * A + B := R.lo (by omega) (by
      have : (2 * A + B) * (2 * A + B) = 4 * (A * (A + B)) + B * B := by grind
      omega)
    omega
  · have : 2 * A - B ≤ far := R.up (by
      have e : (2 * A - B) * (2 * A - B) = 4 * (A * (A - B)) + B * B := by grind
      have : A * (A - B) < A * C := Int.mul_lt_mul_of_pos_left (by omega) f1
      omega)
    omega
  · have : far < 2 * C + B := R.lo (by omega) (by
      have : (2 * C + B) * (2 * C + B) = 4 * (C * (B + C)) + B * B := by grind
      have e : C * A = A * C := Int.mul_comm ..
      omega)
    omega
  · have : 2 * C - B ≤ far := R.up (by
      have e : (2 * C - B) * (2 * C - B) = 4 * (C * (C - B)) + B * B := by grind
      have : C * (C - B) < C * A := Int.mul_lt_mul_of_pos_left (by omega) f2
      have e : C * A = A * C := Int.mul_comm ..
      omega)
    omega
theorem pl_of {D far A B C : Int} (R : Far D far) (hD : B * B + 4 * A * C = D) (hA : 0 ≤ A) (hC : 0 ≤ C) (b0 : 0 < B) (b1 : B ≤ far) (a1 : far - B < 2 * A) (a2 : 2 * A ≤ far + B) : PL A B C := by
  have n := R.n
  have e4 : 4 * A * C = 4 * (A * C) := Int.mul_assoc ..
  have h1 := R.sq (x := B) (by omega) b1
  have hA' : 0 < A := by omega
  have hC' : 0 < C := by
    rcases Int.lt_or_le 0 C with g | g
    · exact g
    · have : C = 0 := by omega
      subst this
      omega
  refine ⟨hA', hC', ?_, ?_⟩
  · have : (far + 1) * (far + 1) ≤ (2 * A + B) * (2 * A + B) := Int.mul_le_mul (by omega) (by omega) (by omega) (by omega)
    have e : (2 * A + B) * (2 * A + B) = 4 * (A * (A + B)) + B * B := by grind
    have u := R.u
    exact Int.lt_of_mul_lt_mul_left (a := A) (by omega) hA
  · have h2 := R.sq (x := 2 * A - B) (by omega) (by omega)
    have e : (2 * A - B) * (2 * A - B) = 4 * (A * A) - 4 * (A * B) + B * B := by grind
    have : A * A < A * (B + C) := by rw [Int.mul_add]; omega
    exact Int.lt_of_mul_lt_mul_left this hA
/-- how often the step goes on -/
def kap (far : Int) (F : Tr) : Int := (F.B + far).fdiv (2 * F.C)
def nx (far : Int) (F : Tr) : Tr := ⟨F.C, 2 * F.C * kap far F - F.B, F.A + F.B * kap far F - F.C * (kap far F * kap far F)⟩
def Mx.go (k : Int) (M : Mx) : Mx := ⟨M.q, M.p + k * M.q, M.s, M.r + k * M.s⟩
def rg (far : Int) (F : Tr) : Nat → Tr
  | 0 => F
  | n + 1 => nx far (rg far F n)
def tn (far : Int) (F : Tr) : Nat → Mx
  | 0 => ⟨1, 0, 0, 1⟩
  | n + 1 => (tn far F n).go (kap far (rg far F n))
theorem kap_uniq {far k : Int} {F : Tr} (hC : 0 < F.C) (h1 : far - 2 * F.C < 2 * F.C * k - F.B) (h2 : 2 * F.C * k - F.B ≤ far) : kap far F = k := by
  unfold kap
  have e := Int.mul_fdiv_add_fmod (F.B + far) (2 * F.C)
  have r1 := Int.fmod_nonneg_of_pos (F.B + far) (show 0 < 2 * F.C by omega)
  have r2 := Int.fmod_lt_of_pos (F.B + far) (show 0 < 2 * F.C by omega)
  generalize (F.B + far).fdiv (2 * F.C) = q at *
  generalize (F.B + far).fmod (2 * F.C) = t at *
  rcases Int.lt_trichotomy q k with g | g | g
  · have : 2 * F.C * (q + 1) ≤ 2 * F.C * k := Int.mul_le_mul_of_nonneg_left (by omega) (by omega)
    rw [Int.mul_add] at this
    omega
  · exact g
  · have : 2 * F.C * (k + 1) ≤ 2 * F.C * q := Int.mul_le_mul_of_nonneg_left (by omega) (by omega)
    rw [Int.mul_add] at this
    omega
theorem kap_in {far : Int} {F : Tr} (hC : 0 < F.C) : far - 2 * F.C < 2 * F.C * kap far F - F.B ∧ 2 * F.C * kap far F - F.B ≤ far := by
  unfold kap
  have e := Int.mul_fdiv_add_fmod (F.B + far) (2 * F.C)
  have r1 := Int.fmod_nonneg_of_pos (F.B + far) (show 0 < 2 * F.C by omega)
  have r2 := Int.fmod_lt_of_pos (F.B + far) (show 0 < 2 * F.C by omega)
  omega
structure Good (D far : Int) (F : Tr) : Prop where
  far : Far D far
  d : F.B * F.B + 4 * F.A * F.C = D
  pl : PL F.A F.B F.C
theorem Good.lies {D far : Int} {F : Tr} (g : Good D far F) : Lies far F.A F.B F.C := Rn.lies g.far g.d g.pl
theorem Good.kap {D far : Int} {F : Tr} (g : Good D far F) : 1 ≤ kap far F := by
  have l := g.lies
  have c := g.pl.c
  have h := (kap_in (far := far) c).1
  rcases Int.lt_or_le (Rn.kap far F) 1 with u | u
  · have : 2 * F.C * Rn.kap far F ≤ 0 := Int.mul_nonpos_of_nonneg_of_nonpos (by omega) (by omega)
    have := l.c2
    have := l.b1
    have := l.c1
    omega
  · exact u
theorem Good.nx {D far : Int} {F : Tr} (g : Good D far F) : Good D far (nx far F) := by
  have l := g.lies
  have c := g.pl.c
  have n := g.far.n
  obtain ⟨h1, h2⟩ := kap_in (far := far) c
  have hk := g.kap
  have hd : (2 * F.C * Rn.kap far F - F.B) * (2 * F.C * Rn.kap far F - F.B) + 4 * F.C * (F.A + F.B * Rn.kap far F - F.C * (Rn.kap far F * Rn.kap far F)) = D := by
    rw [← g.d]; grind
  have m1 : 2 * F.C * 1 ≤ 2 * F.C * Rn.kap far F := Int.mul_le_mul_of_nonneg_left hk (by omega)
  have b0 : 0 < 2 * F.C * Rn.kap far F - F.B := by
    rcases Int.lt_or_le 0 (2 * F.C * Rn.kap far F - F.B) with u | u
    · exact u
    · have := l.c1
      have := l.c2
      have := l.b1
      omega
  refine ⟨g.far, hd, ?_⟩
  show PL F.C (2 * F.C * Rn.kap far F - F.B) (F.A + F.B * Rn.kap far F - F.C * (Rn.kap far F * Rn.kap far F))
  have sq := g.far.sq (x := 2 * F.C * Rn.kap far F - F.B) (by omega) h2
  generalize F.A + F.B * Rn.kap far F - F.C * (Rn.kap far F * Rn.kap far F) = e at *
  generalize 2 * F.C * Rn.kap far F = z at *
  have he : 0 < e := by
    have e4 : 4 * F.C * e = 4 * (F.C * e) := Int.mul_assoc ..
    rcases Int.lt_or_le 0 e with u | u
    · exact u
    · have : F.C * e ≤ 0 := Int.mul_nonpos_of_nonneg_of_nonpos (by omega) u
      omega
  exact pl_of g.far hd (by omega) (by omega) b0 h2 (by omega) (by have := l.c1; have := l.c2; have := l.b1; omega)
theorem Good.rg {D far : Int} {F : Tr} (g : Good D far F) : ∀ n, Good D far (rg far F n)
  | 0 => g
  | n + 1 => (g.rg n).nx
theorem rg_nx (far : Int) (F : Tr) : ∀ n, rg far F (n + 1) = rg far (nx far F) n
  | 0 => rfl
  | n + 1 => congrArg (nx far) (rg_nx far F n)
def Mx.pre (k : Int) (M : Mx) : Mx := ⟨M.r, M.s, M.p + k * M.r, M.q + k * M.s⟩
theorem go_pre (k l : Int) (M : Mx) : (M.pre k).go l = (M.go l).pre k := by
  unfold Mx.pre Mx.go
  dsimp only
  congr 1
  all_goals grind
theorem tn_nx (far : Int) (F : Tr) : ∀ n, tn far F (n + 1) = (tn far (nx far F) n).pre (kap far F)
  | 0 => by
    show (Mx.mk 1 0 0 1).go (kap far F) = (Mx.mk 1 0 0 1).pre (kap far F)
    unfold Mx.pre Mx.go
    dsimp only
    congr 1 <;> omega
  | n + 1 => by
    show (tn far F (n + 1)).go (kap far (rg far F (n + 1))) = _
    rw [tn_nx far F n, rg_nx, go_pre]; rfl
/-- the numbers of a turn onward: from nought on, the lower ones and the right ones the greater -/
structure Onw (M : Mx) : Prop where
  p : 0 ≤ M.p
  q : 1 ≤ M.q
  r : 1 ≤ M.r
  s : M.r ≤ M.s
theorem onw {D far : Int} {F : Tr} (g : Good D far F) : ∀ n, Onw (tn far F (n + 1))
  | 0 => by
    have k := g.kap
    refine ⟨Int.le_refl 0, ?_, Int.le_refl 1, ?_⟩
    · show 1 ≤ 1 + kap far F * 0
      omega
    · show 1 ≤ 0 + kap far F * 1
      omega
  | n + 1 => by
    obtain ⟨h1, h2, h3, h4⟩ := onw g n
    have k := (g.rg (n + 1)).kap
    show Onw ((tn far F (n + 1)).go (kap far (rg far F (n + 1))))
    generalize tn far F (n + 1) = M at *
    generalize kap far (rg far F (n + 1)) = l at *
    have m1 : 1 * M.q ≤ l * M.q := Int.mul_le_mul_of_nonneg_right k (by omega)
    have m2 : 1 * M.s ≤ l * M.s := Int.mul_le_mul_of_nonneg_right k (by omega)
    exact ⟨by show 0 ≤ M.q; omega, by show 1 ≤ M.p + l * M.q; omega, by show 1 ≤ M.s; omega, by show M.s ≤ M.r + l * M.s; omega⟩
theorem tn_r {D far : Int} {F : Tr} (g : Good D far F) : ∀ n m, (tn far F (n + 1)).r ≤ (tn far F (n + 1 + m)).r
  | n, 0 => Int.le_refl _
  | n, m + 1 => by
    have h := tn_r g n m
    have := (onw g (n + m)).s
    have e : n + 1 + m = n + m + 1 := by omega
    rw [e] at h
    show _ ≤ (tn far F (n + 1 + m)).s
    rw [e]
    omega
theorem tn_by {D far : Int} {F : Tr} (g : Good D far F) : ∀ n, By F.A F.B F.C (tn far F n).p (tn far F n).q (tn far F n).r (tn far F n).s (rg far F n).A (rg far F n).B (rg far F n).C (if n % 2 = 0 then 1 else -1)
  | 0 => by
    show By F.A F.B F.C 1 0 0 1 F.A F.B F.C 1
    exact ⟨by decide, by omega, by omega, by omega⟩
  | n + 1 => by
    have h := tn_by g n
    show By F.A F.B F.C (tn far F n).q ((tn far F n).p + kap far (rg far F n) * (tn far F n).q) (tn far F n).s ((tn far F n).r + kap far (rg far F n) * (tn far F n).s) (rg far F n).C (2 * (rg far F n).C * kap far (rg far F n) - (rg far F n).B) ((rg far F n).A + (rg far F n).B * kap far (rg far F n) - (rg far F n).C * (kap far (rg far F n) * kap far (rg far F n))) _
    have e : (if (n + 1) % 2 = 0 then (1 : Int) else -1) = -(if n % 2 = 0 then 1 else -1) := by
      by_cases c : n % 2 = 0
      · rw [if_pos c, if_neg (by omega)]
      · rw [if_neg c, if_pos (by omega)]; rfl
    rw [e]
    generalize (if n % 2 = 0 then (1 : Int) else -1) = d at *
    generalize tn far F n = M at *
    generalize kap far (rg far F n) = k at *
    generalize rg far F n = G at *
    obtain ⟨dt, e1, e2, e3⟩ := h
    refine ⟨by grind, by grind, ?_, ?_⟩
    · have : 2 * F.A * (M.q * (M.p + k * M.q)) + F.B * (M.q * (M.r + k * M.s) + (M.p + k * M.q) * M.s) - 2 * F.C * (M.s * (M.r + k * M.s)) = (2 * F.A * (M.p * M.q) + F.B * (M.p * M.s + M.q * M.r) - 2 * F.C * (M.r * M.s)) + 2 * k * (F.A * (M.q * M.q) + F.B * (M.q * M.s) - F.C * (M.s * M.s)) := by grind
      rw [this, e2, e3]; grind
    · have : F.A * ((M.p + k * M.q) * (M.p + k * M.q)) + F.B * ((M.p + k * M.q) * (M.r + k * M.s)) - F.C * ((M.r + k * M.s) * (M.r + k * M.s)) = (F.A * (M.p * M.p) + F.B * (M.p * M.r) - F.C * (M.r * M.r)) + k * (2 * F.A * (M.p * M.q) + F.B * (M.p * M.s + M.q * M.r) - 2 * F.C * (M.r * M.s)) + k * k * (F.A * (M.q * M.q) + F.B * (M.q * M.s) - F.C * (M.s * M.s)) := by grind
      rw [this, e1, e2, e3]; grind
/-- a turn onward from a level form to a level form goes along the ring -/
theorem along {D far : Int} : ∀ (n : Nat) {F G : Tr} {M : Mx} {d : Int}, Good D far F → PL G.A G.B G.C → Fw M.p M.q M.r M.s → d = 1 ∨ d = -1 → By F.A F.B F.C M.p M.q M.r M.s G.A G.B G.C d → M.s ≤ n → ∃ i, rg far F (i + 1) = G ∧ tn far F (i + 1) = M
  | 0, F, G, M, d, _, _, w, _, _, hn => by have := w.s; omega
  | n + 1, F, G, M, d, g, gl, w, hd, h, hn => by
    obtain ⟨dt, e1, e2, e3⟩ := h
    have gx := g.nx
    -- the rest behind one step
    have hby : By F.C (2 * F.C * kap far F - F.B) (F.A + F.B * kap far F - F.C * (kap far F * kap far F)) (M.r - kap far F * M.p) (M.s - kap far F * M.q) M.p M.q G.A G.B G.C (-d) := by
      generalize kap far F = k
      refine ⟨by grind, by grind, ?_, ?_⟩
      · have : 2 * F.C * ((M.r - k * M.p) * (M.s - k * M.q)) + (2 * F.C * k - F.B) * ((M.r - k * M.p) * M.q + (M.s - k * M.q) * M.p) - 2 * (F.A + F.B * k - F.C * (k * k)) * (M.p * M.q) = -(2 * F.A * (M.p * M.q) + F.B * (M.p * M.s + M.q * M.r) - 2 * F.C * (M.r * M.s)) := by grind
        rw [this, e2]; grind
      · have : F.C * ((M.s - k * M.q) * (M.s - k * M.q)) + (2 * F.C * k - F.B) * ((M.s - k * M.q) * M.q) - (F.A + F.B * k - F.C * (k * k)) * (M.q * M.q) = -(F.A * (M.q * M.q) + F.B * (M.q * M.s) - F.C * (M.s * M.s)) := by grind
        rw [this, e3]; grind
    have k1 := g.kap
    obtain ⟨w1, w2, w3, w4⟩ := w
    rcases lower gx.pl gl (by omega) hby w1 w2 with ⟨c1, c2, c3, c4⟩ | c
    · refine ⟨0, ?_, ?_⟩
      · show nx far F = G
        obtain ⟨f0, f1, f2, f3⟩ := hby
        have hd : -d = 1 := by
          rw [c1, c2, c3, c4] at f0
          omega
        rw [hd, c1, c3, Int.one_mul, Int.mul_zero, Int.mul_zero, Int.mul_zero] at f1
        rw [hd, c1, c2, c3, c4] at f2
        rw [hd, c2, c4] at f3
        rw [Int.mul_zero, Int.mul_zero, Int.mul_zero, Int.zero_mul, Int.mul_zero] at f2
        rw [Int.zero_mul, Int.mul_zero, Int.zero_mul, Int.mul_zero] at f3
        unfold nx
        cases G
        congr 1 <;> dsimp only at * <;> omega
      · show (Mx.mk 1 0 0 1).go (kap far F) = M
        unfold Mx.go
        cases M
        dsimp only at *
        rw [c3] at c1
        rw [c4] at c2
        congr 1 <;> omega
    · have m1 : 1 * M.q ≤ kap far F * M.q := Int.mul_le_mul_of_nonneg_right k1 (by omega)
      have := c.q
      obtain ⟨i, h1, h2⟩ := along n (F := nx far F) (G := G) (M := ⟨M.r - kap far F * M.p, M.s - kap far F * M.q, M.p, M.q⟩) (d := -d) gx gl c (by omega) hby (by show M.q ≤ n; omega)
      refine ⟨i + 1, by rw [rg_nx]; exact h1, ?_⟩
      rw [tn_nx, h2]
      unfold Mx.pre
      cases M
      dsimp only
      congr 1 <;> omega
/-- the step has a way back -/
theorem nx_inj {D far : Int} {F G : Tr} (f : Good D far F) (g : Good D far G) (h : nx far F = nx far G) : F = G := by
  have lf := f.lies
  have lg := g.lies
  have cf := f.pl.c
  have df := f.d
  have dg := g.d
  have e1 : F.C = G.C := congrArg Tr.A h
  have e2 : 2 * F.C * kap far F - F.B = 2 * G.C * kap far G - G.B := congrArg Tr.B h
  cases F with | mk A B C =>
  cases G with | mk A' B' C' =>
  try dsimp only at *
  subst e1
  have hB : B = B' := by
    have := lf.c1
    have := lg.c1
    have := lf.b1
    have := lg.b1
    generalize kap far ⟨A, B, C⟩ = k at *
    generalize kap far ⟨A', B', C⟩ = k' at *
    have : 2 * C * (k - k') = B - B' := by rw [Int.mul_sub]; omega
    rcases Int.lt_trichotomy k k' with u | u | u
    · have : 2 * C * (k - k') ≤ 2 * C * (-1) := Int.mul_le_mul_of_nonneg_left (by omega) (by omega)
      omega
    · subst u; omega
    · have : 2 * C * 1 ≤ 2 * C * (k - k') := Int.mul_le_mul_of_nonneg_left (by omega) (by omega)
      omega
  subst hB
  congr 1
  have : 4 * A * C = 4 * A' * C := by omega
  have := Int.eq_of_mul_eq_mul_right (by omega) this
  omega
/-- pigeons -/
theorem twice_same : ∀ (K : Nat) (c : Nat → Nat), (∀ i, i ≤ K → c i < K) → ∃ i j, i < j ∧ j ≤ K ∧ c i = c j
  | 0, c, h => absurd (h 0 (Nat.le_refl _)) (Nat.not_lt_zero _)
  | K + 1, c, h => by
    by_cases hv : ∃ i, i ≤ K ∧ c i = c (K + 1)
    · obtain ⟨i, h1, h2⟩ := hv
      exact ⟨i, K + 1, by omega, Nat.le_refl _, h2⟩
    · have hv2 : ∀ i, i ≤ K → c i ≠ c (K + 1) := fun i hi e => hv ⟨i, hi, e⟩
      obtain ⟨i, j, h1, h2, h3⟩ := twice_same K (fun i => if c i = K then c (K + 1) else c i) fun i hi => by
        have := h i (by omega)
        have := h (K + 1) (by omega)
        have := hv2 i hi
        show (if c i = K then c (K + 1) else c i) < K
        split <;> omega
      refine ⟨i, j, h1, by omega, ?_⟩
      have a1 := hv2 i (by omega)
      have a2 := hv2 j (by omega)
      split at h3 <;> split at h3 <;> omega
def tri : Nat → Nat
  | 0 => 0
  | n + 1 => tri n + (n + 1)
theorem tri_le : ∀ {i j : Nat}, i ≤ j → tri i ≤ tri j
  | i, 0, h => by
    have : i = 0 := by omega
    subst this; exact Nat.le_refl _
  | i, j + 1, h => by
    by_cases e : i = j + 1
    · subst e; exact Nat.le_refl _
    · have := tri_le (show i ≤ j by omega)
      show tri i ≤ tri j + (j + 1)
      omega
theorem tri_lt {i j : Nat} (h : i < j) : tri i + i < tri j := by
  have := tri_le h
  have e : tri (i + 1) = tri i + (i + 1) := rfl
  rw [e] at this
  omega
def base (j z : Nat) : Nat := if j < 13 then tri j + z else 91 + (j - 13) * 14 + z
theorem base_lt {j z : Nat} (hj : j ≤ 31) (h1 : z ≤ j) (h2 : z ≤ 13) : base j z < 357 := by
  unfold base
  split
  · rename_i h
    have := tri_lt h
    have : tri 13 = 91 := rfl
    omega
  · omega
theorem base_inj {j z j' z' : Nat} (h1 : z ≤ j) (h2 : z ≤ 13) (h1' : z' ≤ j') (h2' : z' ≤ 13) (h : base j z = base j' z') : j = j' ∧ z = z' := by
  have t13 : tri 13 = 91 := rfl
  unfold base at h
  split at h <;> split at h
  · rcases Nat.lt_trichotomy j j' with g | g | g
    · have := tri_lt g
      omega
    · subst g; omega
    · have := tri_lt g
      omega
  · rename_i g _
    have := tri_lt g
    omega
  · rename_i g
    have := tri_lt g
    omega
  · omega
/-- half the middle number, how far the lesser of the two ends lies in, and which end it is -/
def Tr.hb (F : Tr) : Nat := F.B.toNat / 2
def Tr.ls (F : Tr) : Int := if F.A ≤ F.C then F.A else F.C
def Tr.zz (far : Int) (F : Tr) : Nat := (2 * F.ls - far + F.B - 1).toNat / 2
def Tr.code (far : Int) (F : Tr) : Nat := 2 * base F.hb (F.zz far) + if F.A ≤ F.C then 1 else 0
theorem zz_le {D far : Int} {F : Tr} (f : Good D far F) (h63 : far ≤ 63) : F.hb ≤ 31 ∧ F.zz far ≤ F.hb ∧ F.zz far ≤ 13 ∧ far - F.B < 2 * F.ls := by
  have l := f.lies
  have p := f.pl
  have d := f.d
  have u := f.far.u
  have := l.b0
  have := l.b1
  have := l.a1
  have := l.c1
  have := p.a
  have := p.c
  have hx : F.ls * F.ls ≤ F.A * F.C ∧ 0 < F.ls ∧ far - F.B < 2 * F.ls := by
    unfold Tr.ls
    split
    · exact ⟨Int.mul_le_mul_of_nonneg_left (by omega) (by omega), by omega, by omega⟩
    · exact ⟨Int.mul_le_mul_of_nonneg_right (by omega) (by omega), by omega, by omega⟩
  obtain ⟨x1, x2, x3⟩ := hx
  unfold Tr.hb Tr.zz
  generalize F.ls = x at *
  have e4 : 4 * F.A * F.C = 4 * (F.A * F.C) := Int.mul_assoc ..
  have y1 : 2 * x ≤ far := f.far.up (by
    have : 2 * x * (2 * x) = 4 * (x * x) := by grind
    have := Int.mul_pos (show 0 < F.B by omega) (show 0 < F.B by omega)
    omega)
  have y2 : 2 * x + F.B ≤ far + 28 := by
    rcases Int.lt_or_le (far + 28) (2 * x + F.B) with g | g
    · have k1 : (far + 29) * (far + 29) ≤ (2 * x + F.B) * (2 * x + F.B) := Int.mul_le_mul (by omega) (by omega) (by omega) (by omega)
      have k2 : (2 * x + F.B) * (2 * x + F.B) + (2 * x - F.B) * (2 * x - F.B) = 2 * (4 * (x * x) + F.B * F.B) := by grind
      have k3 : 0 ≤ (2 * x - F.B) * (2 * x - F.B) := by
        rcases Int.le_total 0 (2 * x - F.B) with h | h
        · exact Int.mul_nonneg h h
        · exact Int.mul_nonneg_of_nonpos_of_nonpos h h
      have k4 : 0 ≤ (63 - far) * far := Int.mul_nonneg (by omega) (by omega)
      have k5 : (63 - far) * far = 63 * far - far * far := by grind
      have k6 : (far + 29) * (far + 29) = far * far + 58 * far + 841 := by grind
      have k7 : (far + 1) * (far + 1) = far * far + 2 * far + 1 := by grind
      omega
    · exact g
  omega
theorem code_lt {D far : Int} {F : Tr} (f : Good D far F) (h63 : far ≤ 63) : F.code far < 714 := by
  obtain ⟨h1, h2, h3, _⟩ := zz_le f h63
  have := base_lt h1 h2 h3
  unfold Tr.code
  split <;> omega
theorem par_of {D far : Int} {F : Tr} (f : Good D far F) : F.B % 2 = D % 2 := by
  have d := f.d
  have e4 : 4 * F.A * F.C = 4 * (F.A * F.C) := Int.mul_assoc ..
  rcases (show F.B % 2 = 0 ∨ F.B % 2 = 1 by omega) with h | h
  · have e : F.B = 2 * (F.B / 2) := by omega
    generalize F.B / 2 = k at *
    have : F.B * F.B = 4 * (k * k) := by rw [e]; grind
    omega
  · have e : F.B = 2 * (F.B / 2) + 1 := by omega
    generalize F.B / 2 = k at *
    have : F.B * F.B = 4 * (k * k + k) + 1 := by rw [e]; grind
    omega
theorem code_inj {D far : Int} {F G : Tr} (f : Good D far F) (g : Good D far G) (h63 : far ≤ 63) (h : F.code far = G.code far) : F = G := by
  obtain ⟨f1, f2, f3, f4⟩ := zz_le f h63
  obtain ⟨g1, g2, g3, g4⟩ := zz_le g h63
  have p1 := par_of f
  have p2 := par_of g
  have lf := f.lies.b0
  have lg := g.lies.b0
  have pf := f.pl
  have pg := g.pl
  have df := f.d
  have dg := g.d
  unfold Tr.code at h
  have hb : base F.hb (F.zz far) = base G.hb (G.zz far) := by
    split at h <;> split at h <;> omega
  obtain ⟨b1, b2⟩ := base_inj f2 f3 g2 g3 hb
  have eB : F.B = G.B := by
    unfold Tr.hb at b1
    omega
  have ex : F.ls = G.ls := by
    unfold Tr.zz at b2
    omega
  unfold Tr.ls at ex
  have := pf.a
  have := pf.c
  cases F with | mk A B C =>
  cases G with | mk A' B' C' =>
  dsimp only at *
  subst eB
  by_cases c1 : A ≤ C
  · rw [if_pos c1] at h ex
    have c2 : A' ≤ C' := by
      rcases Int.lt_or_le C' A' with v | v
      · rw [if_neg (by omega)] at h
        omega
      · exact v
    rw [if_pos c2] at ex
    subst ex
    congr 1
    exact Int.eq_of_mul_eq_mul_left (a := 4 * A) (by omega) (by omega)
  · rw [if_neg c1] at h ex
    have c2 : ¬ A' ≤ C' := fun v => by
      rw [if_pos v] at h
      omega
    rw [if_neg c2] at ex
    subst ex
    congr 1
    have : 4 * A * C = 4 * A' * C := by omega
    have := Int.eq_of_mul_eq_mul_right (by omega) this
    omega
theorem rg_back {D far : Int} {F : Tr} (g : Good D far F) : ∀ i m, rg far F i = rg far F (i + m) → rg far F m = F
  | 0, m, h => by rw [Nat.zero_add] at h; exact h.symm
  | i + 1, m, h => rg_back g i m (nx_inj (g.rg i) (g.rg (i + m)) (by
      have e : i + 1 + m = i + m + 1 := by omega
      rw [e] at h
      exact h))
theorem rg_add (far : Int) (F : Tr) (n : Nat) : ∀ m, rg far F (n + m) = rg far (rg far F n) m
  | 0 => rfl
  | m + 1 => congrArg (nx far) (rg_add far F n m)
/-- the least with a property -/
theorem least_of {P : Nat → Prop} : ∀ n, P n → ∃ m, m ≤ n ∧ P m ∧ ∀ i, P i → m ≤ i := by
  intro n
  induction n using Nat.strongRecOn with
  | ind n ih =>
    intro h
    by_cases c : ∃ i, i < n ∧ P i
    · obtain ⟨i, h1, h2⟩ := c
      obtain ⟨m, h3, h4, h5⟩ := ih i h1 h2
      exact ⟨m, by omega, h4, h5⟩
    · exact ⟨n, Nat.le_refl _, h, fun i hi => by
        rcases Nat.lt_or_ge i n with u | u
        · exact absurd ⟨i, u, hi⟩ c
        · exact u⟩
/-- once round: an even number of steps -/
def Home (far : Int) (F : Tr) (i : Nat) : Prop := 1 ≤ i ∧ i % 2 = 0 ∧ rg far F i = F
theorem home {D far : Int} {F : Tr} (g : Good D far F) (h63 : far ≤ 63) : ∃ n, n ≤ 1428 ∧ Home far F n ∧ ∀ i, Home far F i → n ≤ i := by
  obtain ⟨i, j, h1, h2, h3⟩ := twice_same 714 (fun i => (rg far F i).code far) fun i _ => code_lt (g.rg i) h63
  have e := code_inj (g.rg i) (g.rg j) h63 h3
  have e2 : i + (j - i) = j := by omega
  have hm := rg_back g i (j - i) (by rw [e2]; exact e)
  have h2m : Home far F (2 * (j - i)) := ⟨by omega, by omega, by
    rw [Nat.two_mul, rg_add, hm, hm]⟩
  obtain ⟨m, k1, k2, k3⟩ := least_of _ h2m
  exact ⟨m, by omega, k2, k3⟩
/-- the numbers of the turn: at most 6 bits a step -/
theorem tn_size {D far : Int} {F : Tr} (g : Good D far F) (h63 : far ≤ 63) : ∀ n, (tn far F (n + 1)).q ≤ (64 : Int) ^ (n + 1) ∧ (tn far F (n + 1)).s ≤ (64 : Int) ^ (n + 1) ∧ (tn far F (n + 1)).p ≤ (64 : Int) ^ (n + 1) ∧ (tn far F (n + 1)).r ≤ (64 : Int) ^ (n + 1)
  | 0 => by
    have kp : kap far F ≤ 63 := by
      have h := (kap_in (far := far) g.pl.c).2
      have l := g.lies
      have k1 := g.kap
      have : 1 * kap far F ≤ F.C * kap far F := Int.mul_le_mul_of_nonneg_right g.pl.c (by omega)
      have e : 2 * F.C * kap far F = 2 * (F.C * kap far F) := Int.mul_assoc ..
      have := l.b1
      omega
    show (1 : Int) + kap far F * 0 ≤ 64 ∧ 0 + kap far F * 1 ≤ (64 : Int) ∧ (0 : Int) ≤ 64 ∧ (1 : Int) ≤ 64
    omega
  | n + 1 => by
    obtain ⟨h1, h2, h3, h4⟩ := tn_size g h63 n
    obtain ⟨o1, o2, o3, o4⟩ := onw g n
    have gi := g.rg (n + 1)
    have k1 := gi.kap
    have kp : kap far (rg far F (n + 1)) ≤ 63 := by
      have h := (kap_in (far := far) gi.pl.c).2
      have l := gi.lies
      have : 1 * kap far (rg far F (n + 1)) ≤ (rg far F (n + 1)).C * kap far (rg far F (n + 1)) := Int.mul_le_mul_of_nonneg_right gi.pl.c (by omega)
      have e : 2 * (rg far F (n + 1)).C * kap far (rg far F (n + 1)) = 2 * ((rg far F (n + 1)).C * kap far (rg far F (n + 1))) := Int.mul_assoc ..
      have := l.b1
      omega
    have e : (64 : Int) ^ (n + 1 + 1) = 64 ^ (n + 1) * 64 := Int.pow_succ ..
    rw [e]
    show (tn far F (n + 1)).p + kap far (rg far F (n + 1)) * (tn far F (n + 1)).q ≤ _ ∧ (tn far F (n + 1)).r + kap far (rg far F (n + 1)) * (tn far F (n + 1)).s ≤ _ ∧ (tn far F (n + 1)).q ≤ _ ∧ (tn far F (n + 1)).s ≤ _
    generalize tn far F (n + 1) = M at *
    generalize kap far (rg far F (n + 1)) = k at *
    generalize (64 : Int) ^ (n + 1) = w at *
    have m1 : k * M.q ≤ 63 * M.q := Int.mul_le_mul_of_nonneg_right kp (by omega)
    have m2 : k * M.s ≤ 63 * M.s := Int.mul_le_mul_of_nonneg_right kp (by omega)
    omega
/-- what leads a form to itself -/
theorem auto {A B C p q r s : Int} (h : By A B C p q r s A B C 1) : A * (s - p) = B * r ∧ A * q = C * r := by
  obtain ⟨dt, e1, e2, e3⟩ := h
  rw [Int.one_mul] at e1 e2
  constructor
  · have i1 : s * (2 * (A * (p * p) + B * (p * r) - C * (r * r))) - r * (2 * A * (p * q) + B * (p * s + q * r) - 2 * C * (r * s)) = (2 * A * p + B * r) * (p * s - q * r) := by grind
    rw [e1, e2, dt] at i1
    have : s * (2 * A) = 2 * (A * s) := by grind
    have : 2 * A * p = 2 * (A * p) := by grind
    have : r * B = B * r := Int.mul_comm ..
    rw [Int.mul_sub]
    omega
  · have i1 : p * (2 * A * (p * q) + B * (p * s + q * r) - 2 * C * (r * s)) - q * (2 * (A * (p * p) + B * (p * r) - C * (r * r))) = (B * p - 2 * C * r) * (p * s - q * r) := by grind
    rw [e1, e2, dt] at i1
    have : q * (2 * A) = 2 * (A * q) := by grind
    have : 2 * C * r = 2 * (C * r) := by grind
    have : p * B = B * p := Int.mul_comm ..
    omega
theorem pos_r {m x : Int} (hm : 0 < m) (h : 0 < m * x) : 0 < x := by
  rcases Int.lt_or_le 0 x with u | u
  · exact u
  · have : m * x ≤ 0 := Int.mul_nonpos_of_nonneg_of_nonpos (by omega) u
    omega
theorem dvd_of {A B C x y z : Int} (hg : Int.gcd (Int.gcd A B) C = 1) (h1 : A * x = B * z) (h2 : A * y = C * z) : ∃ u, z = A * u := by
  have d1 : A.natAbs ∣ A.natAbs * z.natAbs := ⟨_, rfl⟩
  have d2 : A.natAbs ∣ B.natAbs * z.natAbs := ⟨x.natAbs, by rw [← Int.natAbs_mul, ← Int.natAbs_mul, h1]⟩
  have d3 : A.natAbs ∣ C.natAbs * z.natAbs := ⟨y.natAbs, by rw [← Int.natAbs_mul, ← Int.natAbs_mul, h2]⟩
  have d4 := Nat.dvd_gcd (Nat.dvd_gcd d1 d2) d3
  rw [Nat.gcd_mul_right, Nat.gcd_mul_right] at d4
  have e : (A.natAbs.gcd B.natAbs).gcd C.natAbs = 1 := hg
  rw [e, Nat.one_mul] at d4
  exact Int.natAbs_dvd_natAbs.mp d4
/-- each root of the measure gives a turn of the form -/
theorem auto_of {D far x y : Int} {F : Tr} {m A B C : Int} (g : Good D far F) (hm : 1 ≤ m) (eA : F.A = m * A) (eB : F.B = m * B) (eC : F.C = m * C) (hy : 1 ≤ y) (hx : 0 ≤ x) (h : x * x = (B * B + 4 * A * C) * (y * y) + 4) : ∃ p, x = 2 * p + B * y ∧ 1 ≤ p ∧ By F.A F.B F.C p (C * y) (A * y) (p + B * y) F.A F.B F.C 1 ∧ Fw p (C * y) (A * y) (p + B * y) := by
  have l := g.lies
  have pl := g.pl
  have hA : 0 < A := pos_r hm (by rw [← eA]; exact pl.a)
  have hB : 0 < B := pos_r hm (by rw [← eB]; exact l.b0)
  have hC : 0 < C := pos_r hm (by rw [← eC]; exact pl.c)
  have w0 : 0 < B * y := Int.mul_pos hB (by omega)
  have a0 : 0 < A * y := Int.mul_pos hA (by omega)
  have c0 : 0 < C * y := Int.mul_pos hC (by omega)
  have ac := Int.mul_pos a0 c0
  have e : (x - B * y) * (x + B * y) = 4 * ((A * y) * (C * y)) + 4 := by
    have : (x - B * y) * (x + B * y) = x * x - (B * y) * (B * y) := by grind
    rw [this, h]; grind
  have hpos : 0 < x - B * y := by
    rcases Int.lt_or_le 0 (x - B * y) with u | u
    · exact u
    · have := Int.mul_nonpos_of_nonpos_of_nonneg u (show 0 ≤ x + B * y by omega)
      omega
  obtain ⟨p, hp⟩ : ∃ p, x - B * y = 2 * p ∨ x - B * y = 2 * p + 1 := ⟨(x - B * y) / 2, by omega⟩
  rcases hp with hp | hp
  · have hp1 : 1 ≤ p := by omega
    have hps : p * (p + B * y) = (A * y) * (C * y) + 1 := by
      have : (x - B * y) * (x + B * y) = 4 * (p * (p + B * y)) := by
        have : x = 2 * p + B * y := by omega
        rw [this]; grind
      omega
    refine ⟨p, by omega, hp1, ?_, ⟨by omega, c0, a0, by omega⟩⟩
    rw [eA, eB, eC]
    have k1 : p * p = (A * y) * (C * y) + 1 - p * (B * y) := by rw [← hps]; grind
    refine ⟨by rw [hps]; grind, ?_, ?_, ?_⟩
    · rw [k1]; grind
    · rw [hps]; grind
    · have k2 : (p + B * y) * (p + B * y) = (A * y) * (C * y) + 1 + (p + B * y) * (B * y) := by rw [← hps]; grind
      rw [k2]; grind
  · exfalso
    have e2 : (x - B * y) * (x + B * y) = 4 * (p * p + p + p * (B * y)) + 1 + 2 * (B * y) := by
      have : x = 2 * p + 1 + B * y := by omega
      rw [this]; grind
    omega
/-- what the turn once round is, and that its step is the least -/
structure Least (F : Tr) (M : Mx) (m A B C : Int) (t u : Int) : Prop where
  u1 : 1 ≤ u
  t3 : 3 ≤ t
  et : t = M.p + M.s
  er : M.r = A * u
  eq : M.q = C * u
  ed : M.s - M.p = B * u
  one : t * t = (B * B + 4 * A * C) * (u * u) + 4
  least : ∀ x y : Int, 1 ≤ y → x * x = (B * B + 4 * A * C) * (y * y) + 4 → u ≤ y
theorem round_least {D far : Int} {F : Tr} {n : Nat} {m A B C : Int} (g : Good D far F) (hn : Home far F n) (hl : ∀ i, Home far F i → n ≤ i) (hm : 1 ≤ m) (eA : F.A = m * A) (eB : F.B = m * B) (eC : F.C = m * C) (hg : Int.gcd (Int.gcd A B) C = 1) : ∃ t u, Least F (tn far F n) m A B C t u := by
  obtain ⟨n1, n2, n3⟩ := id hn
  obtain ⟨k, rfl⟩ : ∃ k, n = k + 1 := ⟨n - 1, by omega⟩
  have hb := tn_by g (k + 1)
  rw [n3, if_pos n2] at hb
  have ho := onw g k
  have hr := fun i => tn_r g k i
  have dt := hb.det
  obtain ⟨a1, a2⟩ := auto hb
  have l := g.lies
  have pl := g.pl
  have hA : 0 < A := pos_r hm (by rw [← eA]; exact pl.a)
  have hB : 0 < B := pos_r hm (by rw [← eB]; exact l.b0)
  have hC : 0 < C := pos_r hm (by rw [← eC]; exact pl.c)
  rw [eA, eB, Int.mul_assoc, Int.mul_assoc] at a1
  rw [eA, eC, Int.mul_assoc, Int.mul_assoc] at a2
  have b1 := Int.eq_of_mul_eq_mul_left (by omega) a1
  have b2 := Int.eq_of_mul_eq_mul_left (by omega) a2
  obtain ⟨u, hu⟩ := dvd_of hg b1 b2
  rw [hu] at b1 b2
  have c1 : (tn far F (k + 1)).s - (tn far F (k + 1)).p = B * u := Int.eq_of_mul_eq_mul_left (show A ≠ 0 by omega) (by rw [b1]; grind)
  have c2 : (tn far F (k + 1)).q = C * u := Int.eq_of_mul_eq_mul_left (show A ≠ 0 by omega) (by rw [b2]; grind)
  have hu1 : 1 ≤ u := by
    have := ho.r
    rw [hu] at this
    exact pos_r hA (by omega)
  have hone : ((tn far F (k + 1)).p + (tn far F (k + 1)).s) * ((tn far F (k + 1)).p + (tn far F (k + 1)).s) = (B * B + 4 * A * C) * (u * u) + 4 := by
    rw [hu, c2] at dt
    have : (tn far F (k + 1)).s = (tn far F (k + 1)).p + B * u := by omega
    rw [this] at dt ⊢
    grind
  refine ⟨_, u, hu1, ?_, rfl, hu, c2, c1, hone, fun x y hy hx => ?_⟩
  · have := ho.p
    have := ho.r
    have := ho.s
    have hpos : 0 < (B * B + 4 * A * C) * (u * u) := Int.mul_pos (by
      have := Int.mul_pos hB hB
      have := Int.mul_pos (Int.mul_pos (show (0 : Int) < 4 by decide) hA) hC
      omega) (Int.mul_pos hu1 hu1)
    have t1 : 0 < (tn far F (k + 1)).p + (tn far F (k + 1)).s := by omega
    generalize (tn far F (k + 1)).p + (tn far F (k + 1)).s = t at *
    rcases Int.lt_or_le t 3 with v | v
    · have : t * t ≤ 2 * 2 := Int.mul_le_mul (by omega) (by omega) (by omega) (by decide)
      omega
    · exact v
  · obtain ⟨p, e1, e2, e3, e4⟩ := auto_of (x := (x.natAbs : Int)) g hm eA eB eC hy (by omega) (by rw [← hx, ← Int.natCast_mul, Int.natAbs_mul_self])
    obtain ⟨i, h1, h2⟩ := along (p + B * y).toNat (G := F) (M := ⟨p, C * y, A * y, p + B * y⟩) g pl e4 (.inl rfl) e3 (by have := e4.s; show p + B * y ≤ _; omega)
    have he : (i + 1) % 2 = 0 := by
      have b := (tn_by g (i + 1)).det
      rw [h2, e3.det] at b
      by_cases c : (i + 1) % 2 = 0
      · exact c
      · rw [if_neg c] at b
        exact absurd b (by decide)
    have hle := hl (i + 1) ⟨by omega, he, h1⟩
    have h3 := hr (i - k)
    have e9 : k + 1 + (i - k) = i + 1 := by omega
    rw [e9, h2, hu] at h3
    exact Int.le_of_mul_le_mul_left h3 hA
end Rn
end DL

/- Rj -/
namespace DL
namespace Rn
theorem By.neg {A B C p q r s A' B' C' d : Int} (h : By A B C p q r s A' B' C' d) : By A B C (-p) (-q) (-r) (-s) A' B' C' d := by
  obtain ⟨dt, e1, e2, e3⟩ := h
  exact ⟨by grind, by grind, by grind, by grind⟩
theorem By.inv {A B C p q r s A' B' C' d : Int} (h : By A B C p q r s A' B' C' d) (hd : d = 1 ∨ d = -1) : By A' B' C' s (-q) (-r) p A B C d := by
  obtain ⟨dt, e1, e2, e3⟩ := h
  have dd : d * d = 1 := by rcases hd with rfl | rfl <;> rfl
  have a1 : A' = d * (A * (p * p) + B * (p * r) - C * (r * r)) := by rw [e1, ← Int.mul_assoc, dd, Int.one_mul]
  have a2 : B' = d * (2 * A * (p * q) + B * (p * s + q * r) - 2 * C * (r * s)) := by rw [e2, ← Int.mul_assoc, dd, Int.one_mul]
  have a3 : C' = d * -(A * (q * q) + B * (q * s) - C * (s * s)) := by rw [e3, Int.neg_neg, ← Int.mul_assoc, dd, Int.one_mul]
  refine ⟨by grind, ?_, ?_, ?_⟩
  · have : A' * (s * s) + B' * (s * -r) - C' * (-r * -r) = d * (A * ((p * s - q * r) * (p * s - q * r))) := by rw [a1, a2, a3]; grind
    rw [this, dt, dd, Int.mul_one]
  · have : 2 * A' * (s * -q) + B' * (s * p + -q * -r) - 2 * C' * (-r * p) = d * (B * ((p * s - q * r) * (p * s - q * r))) := by rw [a1, a2, a3]; grind
    rw [this, dt, dd, Int.mul_one]
  · have : A' * (-q * -q) + B' * (-q * p) - C' * (p * p) = -(d * (C * ((p * s - q * r) * (p * s - q * r)))) := by rw [a1, a2, a3]; grind
    rw [this, dt, dd, Int.mul_one]
theorem tn_sign {D far : Int} {F : Tr} (g : Good D far F) (i : Nat) {d : Int} (h : (tn far F i).p * (tn far F i).s - (tn far F i).q * (tn far F i).r = d) : d = if i % 2 = 0 then 1 else -1 := by
  have := (tn_by g i).det
  omega
/-- a lower row from nought on: along the ring -/
theorem joined1 {D far : Int} {F G : Tr} {p q r s d : Int} (f : Good D far F) (g : Good D far G) (hd : d = 1 ∨ d = -1) (h : By F.A F.B F.C p q r s G.A G.B G.C d) (hr : 0 ≤ r) (hs : 1 ≤ s) : ∃ i, rg far F i = G ∧ d = if i % 2 = 0 then 1 else -1 := by
  rcases lower f.pl g.pl hd h hr hs with ⟨rfl, rfl, rfl, rfl⟩ | w
  · obtain ⟨dt, e1, e2, e3⟩ := h
    have hd1 : d = 1 := by omega
    subst hd1
    refine ⟨0, ?_, rfl⟩
    show F = G
    cases F with | mk A B C =>
    cases G with | mk A' B' C' =>
    dsimp only at *
    congr 1
    · omega
    · have : 2 * A * (1 * 0) + B * (1 * 1 + 0 * 0) - 2 * C * (0 * 1) = B := by omega
      omega
    · omega
  · obtain ⟨i, h1, h2⟩ := along s.toNat (M := ⟨p, q, r, s⟩) f g.pl w hd h (by show s ≤ _; omega)
    exact ⟨i + 1, h1, tn_sign f (i + 1) (by rw [h2]; exact h.det)⟩
theorem rg_mul {far : Int} {F : Tr} {n : Nat} (h : rg far F n = F) : ∀ t, rg far F (n * t) = F
  | 0 => rfl
  | t + 1 => by rw [Nat.mul_succ, rg_add, rg_mul h t, h]
/-- and round again -/
theorem around {D far : Int} {F G : Tr} {j : Nat} (f : Good D far F) (g : Good D far G) (h63 : far ≤ 63) (h : rg far G j = F) : ∃ i, rg far F i = G ∧ i % 2 = j % 2 := by
  obtain ⟨n, _, ⟨n1, n2, n3⟩, _⟩ := home g h63
  have hle : 1 * j ≤ n * j := Nat.mul_le_mul_right _ n1
  refine ⟨n * j - j, ?_, ?_⟩
  · rw [← h, ← rg_add]
    have e : j + (n * j - j) = n * j := by omega
    rw [e, rg_mul n3]
  · have : n * j % 2 = 0 := by rw [Nat.mul_mod, n2, Nat.zero_mul]
    omega
theorem joined2 {D far : Int} {F G : Tr} {p q r s d : Int} (f : Good D far F) (g : Good D far G) (h63 : far ≤ 63) (hd : d = 1 ∨ d = -1) (h : By F.A F.B F.C p q r s G.A G.B G.C d) (hr : r ≤ -1) (hs : 0 ≤ s) : ∃ i, rg far F i = G ∧ d = if i % 2 = 0 then 1 else -1 := by
  rcases Int.lt_or_le 0 p with hp | hp
  · obtain ⟨j, h1, h2⟩ := joined1 g f hd (h.inv hd) (by omega) hp
    obtain ⟨i, h3, h4⟩ := around f g h63 h1
    exact ⟨i, h3, by rw [h4]; exact h2⟩
  · exfalso
    obtain ⟨dt, e1, e2, e3⟩ := h
    have fa := f.pl.a
    have fb := f.lies.b0
    have fc := f.pl.c
    have ga := g.pl.a
    have gb := g.lies.b0
    have gc := g.pl.c
    generalize F.A = A at *
    generalize F.B = B at *
    generalize F.C = C at *
    generalize G.A = A' at *
    generalize G.B = B' at *
    generalize G.C = C' at *
    rcases Int.lt_or_le p 0 with hp1 | hp1
    · rcases Int.lt_or_le 0 s with hs1 | hs1
      · -- p below nought, s above
        obtain ⟨P, rfl⟩ : ∃ P, p = -P := ⟨-p, by omega⟩
        obtain ⟨R, rfl⟩ : ∃ R, r = -R := ⟨-r, by omega⟩
        have hP : 0 < P := by omega
        have hR : 0 < R := by omega
        have hPs := Int.mul_pos hP hs1
        rw [Int.neg_mul, Int.mul_neg] at dt
        have hq0 : 0 ≤ q := by
          rcases Int.lt_or_le q 0 with v | v
          · have : q * R ≤ -1 := by
              have := Int.mul_pos (show 0 < -q by omega) hR
              rw [Int.neg_mul] at this
              omega
            omega
          · exact v
        rcases Int.lt_or_le 0 q with hq | hq
        · have hqR := Int.mul_pos hq hR
          have hRq := Int.mul_pos hR hq
          have k0 : 0 < A * ((P * q) * (P * q)) + C * ((P * s) * (R * q)) := by
            have hPq := Int.mul_pos hP hq
            have u1 := Int.mul_pos fa (Int.mul_pos hPq hPq)
            have u2 := Int.mul_pos fc (Int.mul_pos hPs hRq)
            omega
          have ident : (P * s) * ((A * (P * P) + B * (P * R) - C * (R * R)) * (q * q)) - (R * q) * ((A * (q * q) + B * (q * s) - C * (s * s)) * (P * P)) = (P * s - q * R) * (A * ((P * q) * (P * q)) + C * ((P * s) * (R * q))) := by grind
          have e1' : A * (P * P) + B * (P * R) - C * (R * R) = d * A' := by rw [← e1]; grind
          rw [e1', e3] at ident
          have dt' : P * s - q * R = -d := by omega
          rw [dt'] at ident
          have w1 : 0 < (P * s) * (A' * (q * q)) := Int.mul_pos hPs (Int.mul_pos ga (Int.mul_pos hq hq))
          have w2 : 0 < (R * q) * (C' * (P * P)) := Int.mul_pos hRq (Int.mul_pos gc (Int.mul_pos hP hP))
          rcases hd with rfl | rfl
          · have : (P * s) * (1 * A' * (q * q)) - (R * q) * (-(1 * C') * (P * P)) = (P * s) * (A' * (q * q)) + (R * q) * (C' * (P * P)) := by grind
            omega
          · have : (P * s) * (-1 * A' * (q * q)) - (R * q) * (-(-1 * C') * (P * P)) = -((P * s) * (A' * (q * q))) - (R * q) * (C' * (P * P)) := by grind
            omega
        · have : q = 0 := by omega
          subst this
          have hd1 : d = -1 := by omega
          subst hd1
          have : s = 1 := by
            have := one_one (y := P) (q := s) hs1 (by omega)
            exact this.2
          subst this
          omega
      · have : s = 0 := by omega
        subst this
        have : q * r = -d := by omega
        have hq1 : q * -r = d := by rw [Int.mul_neg]; omega
        have hr1 : r = -1 := by
          rcases hd with rfl | rfl
          · have := (one_one (show 1 ≤ -r by omega) hq1).2
            omega
          · have := (one_neg (show 1 ≤ -r by omega) hq1).2
            omega
        subst hr1
        have hqd : q = d := by omega
        subst hqd
        have hA : 0 < A * (q * q) := by rcases hd with rfl | rfl <;> omega
        rcases hd with rfl | rfl
        · omega
        · have : 0 < A * (-p) := Int.mul_pos fa (by omega)
          rw [Int.mul_neg] at this
          have : 2 * A * (p * -1) = -(2 * (A * p)) := by grind
          omega
    · have : p = 0 := by omega
      subst this
      have hq1 : q * -r = d := by rw [Int.mul_neg]; omega
      have hr1 : r = -1 := by
        rcases hd with rfl | rfl
        · have := (one_one (show 1 ≤ -r by omega) hq1).2
          omega
        · have := (one_neg (show 1 ≤ -r by omega) hq1).2
          omega
      subst hr1
      have hqd : q = d := by omega
      subst hqd
      rcases hd with rfl | rfl
      · omega
      · have : 0 ≤ C * s := Int.mul_nonneg (by omega) hs
        have : 2 * C * (-1 * s) = -(2 * (C * s)) := by grind
        omega
/-- level forms that a turn joins lie on one ring -/
theorem joined {D far : Int} {F G : Tr} {p q r s d : Int} (f : Good D far F) (g : Good D far G) (h63 : far ≤ 63) (hd : d = 1 ∨ d = -1) (h : By F.A F.B F.C p q r s G.A G.B G.C d) : ∃ i, rg far F i = G ∧ d = if i % 2 = 0 then 1 else -1 := by
  have hn := h.neg
  have dt := h.det
  have hrs : ¬ (r = 0 ∧ s = 0) := fun ⟨e1, e2⟩ => by subst e1 e2; omega
  rcases Int.lt_trichotomy r 0 with hr | hr | hr
  · rcases Int.lt_or_le s 0 with hs | hs
    · exact joined1 f g hd hn (by omega) (by omega)
    · exact joined2 f g h63 hd h (by omega) hs
  · rcases Int.lt_or_le s 0 with hs | hs
    · exact joined1 f g hd hn (by omega) (by omega)
    · exact joined1 f g hd h (by omega) (by omega)
  · rcases Int.lt_or_le 0 s with hs | hs
    · exact joined1 f g hd h (by omega) (by omega)
    · exact joined2 f g h63 hd hn (by omega) (by omega)
/-- a level form with its sign -/
structure SF where
  e : Int
  F : Tr
def SF.nx (far : Int) (s : SF) : SF := ⟨-s.e, Rn.nx far s.F⟩
def sr (far : Int) (s : SF) : Nat → SF
  | 0 => s
  | n + 1 => (sr far s n).nx far
structure SF.Ok (D far : Int) (s : SF) : Prop where
  e : s.e = 1 ∨ s.e = -1
  g : Good D far s.F
def SF.ns (s : SF) : List Int := [s.e * s.F.A, s.F.B, -(s.e * s.F.C)]
theorem SF.Ok.nx {D far : Int} {s : SF} (h : s.Ok D far) : (s.nx far).Ok D far := ⟨by show -s.e = 1 ∨ -s.e = -1; have := h.e; omega, h.g.nx⟩
theorem SF.Ok.sr {D far : Int} {s : SF} (h : s.Ok D far) : ∀ n, (sr far s n).Ok D far
  | 0 => h
  | n + 1 => (h.sr n).nx
theorem sr_F (far : Int) (s : SF) : ∀ n, (sr far s n).F = rg far s.F n
  | 0 => rfl
  | n + 1 => congrArg (Rn.nx far) (sr_F far s n)
theorem sr_e (far : Int) (s : SF) : ∀ n, (sr far s n).e = if n % 2 = 0 then s.e else -s.e
  | 0 => rfl
  | n + 1 => by
    have h := sr_e far s n
    show -(sr far s n).e = _
    rw [h]
    by_cases c : n % 2 = 0
    · rw [if_pos c, if_neg (by omega)]
    · rw [if_neg c, if_pos (by omega)]; omega
theorem sr_add (far : Int) (s : SF) (n : Nat) : ∀ m, sr far s (n + m) = sr far (sr far s n) m
  | 0 => rfl
  | m + 1 => congrArg (SF.nx far) (sr_add far s n m)
theorem ns_inj {D far : Int} {s t : SF} (hs : s.Ok D far) (ht : t.Ok D far) (h : s.ns = t.ns) : s = t := by
  have a1 := hs.g.pl.a
  have a2 := ht.g.pl.a
  have b1 := hs.e
  have b2 := ht.e
  cases s with | mk e F =>
  cases t with | mk e' F' =>
  cases F with | mk A B C =>
  cases F' with | mk A' B' C' =>
  unfold SF.ns at h
  try dsimp only at *
  injection h with h1 h
  injection h with h2 h
  injection h with h3 h
  have he : e = e' := by rcases b1 with rfl | rfl <;> rcases b2 with rfl | rfl <;> omega
  subst he
  congr 1
  rcases b1 with rfl | rfl
  · congr 1 <;> omega
  · congr 1 <;> omega
theorem sr_home {far : Int} {s : SF} {n : Nat} (hn : Home far s.F n) : sr far s n = s := by
  obtain ⟨n1, n2, n3⟩ := hn
  have h1 := sr_F far s n
  have h2 := sr_e far s n
  rw [if_pos n2] at h2
  rw [n3] at h1
  cases h : sr far s n with | mk e F =>
  rw [h] at h1 h2
  cases s
  dsimp only at *
  subst h1 h2
  rfl
theorem home_sr {D far : Int} {s : SF} (hs : s.Ok D far) {n : Nat} (n1 : 1 ≤ n) (h : sr far s n = s) : Home far s.F n := by
  have h1 := sr_F far s n
  have h2 := sr_e far s n
  rw [h] at h1 h2
  refine ⟨n1, ?_, h1.symm⟩
  have := hs.e
  by_cases c : n % 2 = 0
  · exact c
  · rw [if_neg c] at h2
    omega
theorem sr_mul {far : Int} {s : SF} {n : Nat} (h : sr far s n = s) : ∀ t, sr far s (n * t) = s
  | 0 => rfl
  | t + 1 => by rw [Nat.mul_succ, sr_add, sr_mul h t, h]
theorem sr_mod {far : Int} {s : SF} {n : Nat} (h : sr far s n = s) (j : Nat) : sr far s j = sr far s (j % n) := by
  have e := Nat.div_add_mod j n
  rw [← e, sr_add, sr_mul h, e]
/-- no level form twice in a round -/
theorem sr_back {D far : Int} {s : SF} (hs : s.Ok D far) {n : Nat} (hl : ∀ i, Home far s.F i → n ≤ i) {i j : Nat} (h1 : i < j) (h2 : j < n) (h : sr far s i = sr far s j) : False := by
  have g := hs.g
  have e : i + (j - i) = j := by omega
  have hF := rg_back g i (j - i) (by rw [e, ← sr_F, ← sr_F, h])
  have he := sr_e far s i
  have he2 := sr_e far s j
  rw [h, he2] at he
  have := hs.e
  have hp : (j - i) % 2 = 0 := by
    by_cases c1 : i % 2 = 0
    · by_cases c2 : j % 2 = 0
      · omega
      · rw [if_pos c1, if_neg c2] at he
        omega
    · by_cases c2 : j % 2 = 0
      · rw [if_neg c1, if_pos c2] at he
        omega
      · omega
  have := hl (j - i) ⟨by omega, hp, hF⟩
  omega
/-- the round's level forms, from s on -/
def rnd (far : Int) (s : SF) (n : Nat) : List (List Int) := (List.range n).map fun i => (sr far s i).ns
theorem rnd_mem {far : Int} {s : SF} {n : Nat} (n1 : 1 ≤ n) (h : sr far s n = s) (y : List Int) : y ∈ rnd far s n ↔ ∃ j, y = (sr far s j).ns := by
  unfold rnd
  rw [List.mem_map]
  constructor
  · rintro ⟨i, _, rfl⟩
    exact ⟨i, rfl⟩
  · rintro ⟨j, rfl⟩
    exact ⟨j % n, List.mem_range.mpr (Nat.mod_lt _ n1), by rw [← sr_mod h]⟩
theorem minL_mem (x : List Int) : ∀ l : List (List Int), minL x l ∈ x :: l := by
  intro l
  unfold minL
  induction l generalizing x with
  | nil => exact List.mem_cons_self
  | cons y l ih =>
    show List.foldl _ (if y < x then y else x) l ∈ _
    rcases List.mem_cons.mp (ih (if y < x then y else x)) with h | h
    · rw [h]
      split
      · exact List.mem_cons_of_mem _ List.mem_cons_self
      · exact List.mem_cons_self
    · exact List.mem_cons_of_mem _ (List.mem_cons_of_mem _ h)
theorem minL_le (x : List Int) : ∀ l : List (List Int), ∀ y ∈ x :: l, minL x l ≤ y := by
  intro l
  unfold minL
  induction l generalizing x with
  | nil =>
    intro y hy
    rcases List.mem_cons.mp hy with rfl | hy
    · exact List.le_refl _
    · exact absurd hy List.not_mem_nil
  | cons z l ih =>
    intro y hy
    show List.foldl _ (if z < x then z else x) l ≤ y
    have h0 := ih (if z < x then z else x) _ List.mem_cons_self
    rcases List.mem_cons.mp hy with rfl | hy
    · refine List.le_trans h0 ?_
      split
      · rename_i h; exact List.le_of_lt h
      · exact List.le_refl _
    · rcases List.mem_cons.mp hy with rfl | hy
      · refine List.le_trans h0 ?_
        split
        · exact List.le_refl _
        · rename_i h; exact List.not_lt.mp h
      · exact ih _ y (List.mem_cons_of_mem _ hy)
def canon (far : Int) (s : SF) (a n : Nat) : List (List Int) := (List.range n).map fun j => (sr far s (a + j)).ns
theorem rnd_turned {far : Int} {s : SF} {n : Nat} (h : sr far s n = s) {a : Nat} (ha : a ≤ n) : (rnd far s n).drop a ++ (rnd far s n).take a = canon far s a n := by
  unfold rnd canon
  refine List.ext_getElem (by simp; omega) fun j h1 h2 => ?_
  rw [List.length_map, List.length_range] at h2
  rw [List.getElem_append]
  split
  · rw [List.getElem_drop, List.getElem_map, List.getElem_map, List.getElem_range, List.getElem_range]
  · rename_i h3
    rw [List.getElem_take, List.getElem_map, List.getElem_map, List.getElem_range, List.getElem_range]
    rw [List.length_drop, List.length_map, List.length_range] at h3 ⊢
    have e : a + j = n + (j - (n - a)) := by omega
    rw [e, sr_add far s n, h]
/-- the round that is told: from its least form on -/
structure IsRound (far : Int) (s : SF) (R : List (List Int)) (n a : Nat) : Prop where
  home : Home far s.F n
  least : ∀ i, Home far s.F i → n ≤ i
  eq : R = canon far s a n
  min : ∀ y ∈ rnd far s n, (sr far s a).ns ≤ y
theorem home_same {D far : Int} {s : SF} (hs : s.Ok D far) {i n : Nat} (h : Home far (sr far s i).F n) : Home far s.F n := by
  obtain ⟨n1, n2, n3⟩ := h
  refine ⟨n1, n2, rg_back hs.g i n ?_⟩
  rw [sr_F] at n3
  rw [rg_add, n3]
theorem home_on {far : Int} {s : SF} {i n : Nat} (h : Home far s.F n) : Home far (sr far s i).F n := by
  obtain ⟨n1, n2, n3⟩ := h
  refine ⟨n1, n2, ?_⟩
  rw [sr_F, ← rg_add, Nat.add_comm, rg_add, n3]
theorem round_one {D far : Int} {s : SF} (hs : s.Ok D far) {i n n' a a' : Nat} {R R' : List (List Int)} (h : IsRound far s R n a) (h' : IsRound far (sr far s i) R' n' a') : R = R' := by
  have hn := sr_home h.home
  have hn' : n = n' := by
    have h1 := h.least n' (home_same hs h'.home)
    have h2 := h'.least n (home_on h.home)
    omega
  subst hn'
  have hni := sr_home (home_on (i := i) h.home)
  have n1 := h.home.1
  have e1 : (sr far s a).ns ≤ (sr far (sr far s i) a').ns := h.min _ ((rnd_mem n1 hn _).mpr ⟨i + a', by rw [sr_add]⟩)
  have e2 : (sr far (sr far s i) a').ns ≤ (sr far s a).ns := by
    refine h'.min _ ((rnd_mem n1 hni _).mpr ⟨n * i - i + a, ?_⟩)
    have hle : 1 * i ≤ n * i := Nat.mul_le_mul_right _ n1
    rw [← sr_add, show i + (n * i - i + a) = n * i + a by omega, sr_add far s (n * i), sr_mul hn]
  have e3 := List.le_antisymm e1 e2
  have e4 := ns_inj (hs.sr a) ((hs.sr i).sr a') e3
  rw [h.eq, h'.eq]
  unfold canon
  congr 1
  funext j
  rw [sr_add, sr_add far (sr far s i), e4]
theorem eqL_iff : ∀ a b : List Int, eqL (a.map D.int) (b.map D.int) = true ↔ a = b
  | [], [] => ⟨fun _ => rfl, fun _ => rfl⟩
  | [], _ :: _ => ⟨fun h => (nomatch h), fun h => (nomatch h)⟩
  | _ :: _, [] => ⟨fun h => (nomatch h), fun h => (nomatch h)⟩
  | x :: a, y :: b => by
    show (x == y && eqL (a.map D.int) (b.map D.int)) = true ↔ _
    rw [Bool.and_eq_true, eqL_iff a b, beq_iff_eq]
    exact ⟨fun ⟨h1, h2⟩ => by rw [h1, h2], fun h => by injection h with h1 h2; exact ⟨h1, h2⟩⟩
theorem tupI_eq (a b : List Int) : D.eq (tupI a) (tupI b) = true ↔ a = b := eqL_iff a b
theorem inD_tup (x : List Int) (l : List (List Int)) : inD (tupI x) (l.map tupI) = true ↔ x ∈ l := by
  unfold inD
  rw [List.any_eq_true]
  constructor
  · rintro ⟨z, hz, e⟩
    obtain ⟨y, hy, rfl⟩ := List.mem_map.mp hz
    rw [tupI_eq] at e
    rw [← e]; exact hy
  · intro h
    exact ⟨tupI x, List.mem_map.mpr ⟨x, h, rfl⟩, (tupI_eq x x).mpr rfl⟩
theorem idx_tup {m : List Int} : ∀ {l : List (List Int)}, m ∈ l → ∃ a, idxD (tupI m) (l.map tupI) = some a ∧ l[a]? = some m
  | [], h => absurd h List.not_mem_nil
  | x :: l, h => by
    show ∃ a, (if D.eq (tupI x) (tupI m) = true then some 0 else (idxD (tupI m) (l.map tupI)).map (· + 1)) = some a ∧ _
    by_cases c : D.eq (tupI x) (tupI m) = true
    · rw [if_pos c]
      exact ⟨0, rfl, by rw [(tupI_eq x m).mp c]; rfl⟩
    · rw [if_neg c]
      rcases List.mem_cons.mp h with rfl | h
      · exact absurd ((tupI_eq m m).mpr rfl) c
      · obtain ⟨a, h1, h2⟩ := idx_tup h
        exact ⟨a + 1, by rw [h1]; rfl, by rw [List.getElem?_cons_succ]; exact h2⟩
theorem nums_map (l : List (List Int)) : (l.map tupI).map D.nums = l := by
  rw [List.map_map]
  have : (D.nums ∘ tupI) = id := by
    funext x
    show (x.map D.int).map D.num = x
    rw [List.map_map]
    have : (D.num ∘ D.int) = id := rfl
    rw [this, List.map_id]
  rw [this, List.map_id]
theorem ints_map (l : List (List Int)) : (l.map tupI).all D.ints = true := by
  rw [List.all_eq_true]
  intro d hd
  obtain ⟨x, _, rfl⟩ := List.mem_map.mp hd
  show (x.map D.int).all D.isI = true
  rw [List.all_map]
  exact List.all_eq_true.mpr fun _ _ => rfl
theorem dat_map (n : Nat) : ∀ l : List (List Int), datL (n + 1) (l.map tupI) = true
  | [] => rfl
  | x :: l => by
    show ((tupI x).dat (n + 1) && datL (n + 1) (l.map tupI)) = true
    rw [dat_map n l, Bool.and_true]
    exact datL_ints n x
end Rn
end DL

/- M_k24 -/
namespace DL
theorem cutTake (ns : List Int) (n : Nat) (hn : n ≤ 1000) : cutD (ns.map D.int) none (some (n : Int)) = (ns.take n).map D.int := by
  unfold cutD sIx
  dsimp only
  rw [if_neg (by omega), List.length_map, List.drop_zero, List.map_take]
  have : (n : Int).toNat = n := by omega
  rw [this]
  by_cases h : n ≤ ns.length
  · rw [Nat.min_eq_left h]
    rfl
  · rw [Nat.min_eq_right (by omega), List.take_of_length_le (by rw [List.length_map]; omega), List.take_of_length_le (by rw [List.length_map]; omega)]
theorem fm (x : Int) {y : Int} (hy : 0 < y) : 0 ≤ x.fmod y ∧ x.fmod y < y := ⟨Int.fmod_nonneg_of_pos x hy, Int.fmod_lt_of_pos x hy⟩
theorem cut_ints (ns : List Int) (lo hi : Option Int) : (∀ d ∈ cutD (ns.map D.int) lo hi, ∃ k : Int, d = .int k) ∧ (cutD (ns.map D.int) lo hi).length ≤ ns.length := by
  unfold cutD
  refine ⟨fun d hd => ?_, ?_⟩
  · have h1 := List.mem_of_mem_drop (List.mem_of_mem_take hd)
    obtain ⟨k, _, rfl⟩ := List.mem_map.mp h1
    exact ⟨k, rfl⟩
  · rw [List.length_take, List.length_drop, List.length_map]
    omega
theorem cut_map (ns : List Int) (lo hi : Option Int) : ∃ ms : List Int, cutD (ns.map D.int) lo hi = ms.map D.int ∧ ms.length ≤ ns.length := by
  unfold cutD
  refine ⟨(ns.drop _).take _, by rw [List.map_take, List.map_drop], ?_⟩
  rw [List.length_take, List.length_drop]
  omega

theorem Lw.cell_ok (ns : List Int) (k : Int) (hk : 0 ≤ k) (Q : DK) (X : DX) (h : Q (.val (.int (ns.getD k.toNat 0)))) : Lw.w_law_cell [.lst (ns.map D.int), .int k] Q X := by
  refine fun_mk ?_
  dsimp only [Lw.t_law_cell, dSeq, dUnpL, lstOf_l, dCut, dSet, dSetV, dUnp, dPar, dDrop, dRet, dRetOwn, dRetN, dIf, dPass, dNext, dNever, dBreak, dCont, dFrz, frz, dTry, dRaise, isx_n, isx_o, dMeth, meth_b, meth_s, fld0b, fld0s, fld1b, fld1s, gr2, ws2, iso_bb, iso_bs, iso_ba, iso_sb, iso_ss, iso_sa, mk_obj, xf0, xf1, plain_o, dApp, dAug, setAll, dC, dVar, dView, dViewT, view, dOp, dUn, dAs, dNil, dCons, dAnd, dOr, dNot, dIte, dTup, dLst, dCall, dChain, two_t, two_f, cB, oIsi, oIsN, oNotN, dYes, dEach, dNoPart, dPart, dSl, use_val, use_own, use_ownd, bool_val, view_val, view_own, view_ownd, view_un, imm_val, imm_own, add_ii, add_ll, sub_ii, mul_ii, div_ii, mod_ii, pow_ii, shl_ii, cmp_ii, neg_i, isB_bb, notB_bb, len_t, len_l, abs_i, max_ii, min_ii, int_i, int_b, divmod_ii, isInt_i, isInt_t, isInt_n, isInt_b, isBool_i, isBool_b, isTuple_t, isTuple_i, isTuple_n, isList_l, isList_t, isStr_s, plain_i, plain_t, plain_l, plain_b, plain_n, plain_s, isNone_i, isNone_t, isNone_n, immI, immB, immN, immS, immT, immL_cons, immL_nil, told_val, getD_some, tupOf_t, given_own, given_ownd, items_l, items_t, owned_own, datum_val, asInt_i, asLst_l, slotAt, bEq_int, bNe_int, ix0, ix1, ix2, ix3, iy0, iy1, iy2, iy3, opt_some, map_c, map_n, vmap_c, vmap_n, app_c, app_n, rep_s, rep_z, get_z, get_s, set_z, set_s, leng_c, leng_n, Nat.reduceSub, Nat.reduceAdd, not_t, not_f, Int.reduceToNat, Int.reducePow, ixL]
  rw [List.length_map]
  refine ⟨rfl, two_d (fun h0 => opt_at (ixInt hk h0) ?_) fun h0 => ?_⟩
  · have e : ns[k.toNat]'(by omega) = ns.getD k.toNat 0 := by
      rw [List.getD_eq_getElem?_getD, List.getElem?_eq_getElem (by omega)]
      rfl
    rw [e]; exact h
  · have e : ns.getD k.toNat 0 = 0 := by
      rw [List.getD_eq_getElem?_getD, List.getElem?_eq_none (by omega)]
      rfl
    rw [e] at h; exact h

/-- a turn of numbers of fewer than N bits -/
structure Turn (N : Nat) (p q r s : Int) : Prop where
  bp : Bd p N
  bq : Bd q N
  br : Bd r N
  bs : Bd s N
  det : p * s - q * r = 1
theorem Turn.up {N : Nat} {p q r s : Int} (t : Turn N p q r s) (M : Nat) (h : N ≤ M := by omega) : Turn M p q r s := ⟨bd_up M t.bp h, bd_up M t.bq h, bd_up M t.br h, bd_up M t.bs h, t.det⟩
theorem Turn.back {N : Nat} {p q r s : Int} (t : Turn N p q r s) : Turn N s (-q) (-r) p := ⟨t.bs, bd_neg t.bq, bd_neg t.br, t.bp, by have := t.det; grind⟩
theorem Turn.put {N M K : Nat} {p q r s t u v w : Int} (a : Turn N p q r s) (b : Turn M t u v w) (h : N + M + 1 ≤ K := by omega) : Turn K (p * t + q * v) (p * u + q * w) (r * t + s * v) (r * u + s * w) :=
  ⟨bd_add2 (bd_mul a.bp b.bp) (bd_mul a.bq b.br), bd_add2 (bd_mul a.bp b.bq) (bd_mul a.bq b.bs), bd_add2 (bd_mul a.br b.bp) (bd_mul a.bs b.br), bd_add2 (bd_mul a.br b.bq) (bd_mul a.bs b.bs), by have := a.det; have := b.det; grind⟩
theorem Pg.is_turn_ok {N : Nat} {p q r s : Int} (t : Turn N p q r s) (hN : N ≤ 50000000) {Q : DK} {X : DX} (h : Q (.val (.bl true))) : Pg.w_is_turn [.tup [.int p, .int q, .int r, .int s]] Q X := by
  refine fun_mk ?_
  dsimp only [Pg.t_is_turn, dSeq, dUnpL, lstOf_l, dCut, dSet, dSetV, dUnp, dPar, dDrop, dRet, dRetOwn, dRetN, dIf, dPass, dNext, dNever, dBreak, dCont, dFrz, frz, dTry, dRaise, isx_n, isx_o, dMeth, meth_b, meth_s, fld0b, fld0s, fld1b, fld1s, gr2, ws2, iso_bb, iso_bs, iso_ba, iso_sb, iso_ss, iso_sa, mk_obj, xf0, xf1, plain_o, dApp, dAug, setAll, dC, dVar, dView, dViewT, view, dOp, dUn, dAs, dNil, dCons, dAnd, dOr, dNot, dIte, dTup, dLst, dCall, dChain, two_t, two_f, cB, oIsi, oIsN, oNotN, dYes, dEach, dNoPart, dPart, dSl, use_val, use_own, use_ownd, bool_val, view_val, view_own, view_ownd, view_un, imm_val, imm_own, add_ii, add_ll, sub_ii, mul_ii, div_ii, mod_ii, pow_ii, shl_ii, cmp_ii, neg_i, isB_bb, notB_bb, len_t, len_l, abs_i, max_ii, min_ii, int_i, int_b, divmod_ii, isInt_i, isInt_t, isInt_n, isInt_b, isBool_i, isBool_b, isTuple_t, isTuple_i, isTuple_n, isList_l, isList_t, isStr_s, plain_i, plain_t, plain_l, plain_b, plain_n, plain_s, isNone_i, isNone_t, isNone_n, immI, immB, immN, immS, immT, immL_cons, immL_nil, told_val, getD_some, tupOf_t, given_own, given_ownd, items_l, items_t, owned_own, datum_val, asInt_i, asLst_l, slotAt, bEq_int, bNe_int, ix0, ix1, ix2, ix3, iy0, iy1, iy2, iy3, opt_some, map_c, map_n, vmap_c, vmap_n, app_c, app_n, rep_s, rep_z, get_z, get_s, set_z, set_s, leng_c, leng_n, Nat.reduceSub, Nat.reduceAdd, not_t, not_f, Int.reduceToNat, Int.reducePow]
  refine ⟨rfl, szB t.bp t.bs (by omega), szB t.bq t.br (by omega), ?_⟩
  rw [decide_eq_true t.det]; exact h
theorem Pg.must_turn_ok {N : Nat} {p q r s : Int} (t : Turn N p q r s) (hN : N ≤ 50000000) {Q : DK} {X : DX} (h : Q (.val .non)) : Pg.w_must_turn [.tup [.int p, .int q, .int r, .int s]] Q X := by
  refine fun_mk ?_
  dsimp only [Pg.t_must_turn, dSeq, dUnpL, lstOf_l, dCut, dSet, dSetV, dUnp, dPar, dDrop, dRet, dRetOwn, dRetN, dIf, dPass, dNext, dNever, dBreak, dCont, dFrz, frz, dTry, dRaise, isx_n, isx_o, dMeth, meth_b, meth_s, fld0b, fld0s, fld1b, fld1s, gr2, ws2, iso_bb, iso_bs, iso_ba, iso_sb, iso_ss, iso_sa, mk_obj, xf0, xf1, plain_o, dApp, dAug, setAll, dC, dVar, dView, dViewT, view, dOp, dUn, dAs, dNil, dCons, dAnd, dOr, dNot, dIte, dTup, dLst, dCall, dChain, two_t, two_f, cB, oIsi, oIsN, oNotN, dYes, dEach, dNoPart, dPart, dSl, use_val, use_own, use_ownd, bool_val, view_val, view_own, view_ownd, view_un, imm_val, imm_own, add_ii, add_ll, sub_ii, mul_ii, div_ii, mod_ii, pow_ii, shl_ii, cmp_ii, neg_i, isB_bb, notB_bb, len_t, len_l, abs_i, max_ii, min_ii, int_i, int_b, divmod_ii, isInt_i, isInt_t, isInt_n, isInt_b, isBool_i, isBool_b, isTuple_t, isTuple_i, isTuple_n, isList_l, isList_t, isStr_s, plain_i, plain_t, plain_l, plain_b, plain_n, plain_s, isNone_i, isNone_t, isNone_n, immI, immB, immN, immS, immT, immL_cons, immL_nil, told_val, getD_some, tupOf_t, given_own, given_ownd, items_l, items_t, owned_own, datum_val, asInt_i, asLst_l, slotAt, bEq_int, bNe_int, ix0, ix1, ix2, ix3, iy0, iy1, iy2, iy3, opt_some, map_c, map_n, vmap_c, vmap_n, app_c, app_n, rep_s, rep_z, get_z, get_s, set_z, set_s, leng_c, leng_n, Nat.reduceSub, Nat.reduceAdd, not_t, not_f, Int.reduceToNat, Int.reducePow]
  exact ⟨rfl, Pg.is_turn_ok t hN h⟩

theorem Pg.put_ok {N : Nat} {p q r s t u v w : Int} (a : Turn N p q r s) (b : Turn N t u v w) (hN : N ≤ 50000000) {Q : DK} {X : DX} (h : Q (.val (.tup [.int (p * t + q * v), .int (p * u + q * w), .int (r * t + s * v), .int (r * u + s * w)]))) : Pg.w_put [.tup [.int p, .int q, .int r, .int s], .tup [.int t, .int u, .int v, .int w]] Q X := by
  refine fun_mk ?_
  dsimp only [Pg.t_put, dSeq, dUnpL, lstOf_l, dCut, dSet, dSetV, dUnp, dPar, dDrop, dRet, dRetOwn, dRetN, dIf, dPass, dNext, dNever, dBreak, dCont, dFrz, frz, dTry, dRaise, isx_n, isx_o, dMeth, meth_b, meth_s, fld0b, fld0s, fld1b, fld1s, gr2, ws2, iso_bb, iso_bs, iso_ba, iso_sb, iso_ss, iso_sa, mk_obj, xf0, xf1, plain_o, dApp, dAug, setAll, dC, dVar, dView, dViewT, view, dOp, dUn, dAs, dNil, dCons, dAnd, dOr, dNot, dIte, dTup, dLst, dCall, dChain, two_t, two_f, cB, oIsi, oIsN, oNotN, dYes, dEach, dNoPart, dPart, dSl, use_val, use_own, use_ownd, bool_val, view_val, view_own, view_ownd, view_un, imm_val, imm_own, add_ii, add_ll, sub_ii, mul_ii, div_ii, mod_ii, pow_ii, shl_ii, cmp_ii, neg_i, isB_bb, notB_bb, len_t, len_l, abs_i, max_ii, min_ii, int_i, int_b, divmod_ii, isInt_i, isInt_t, isInt_n, isInt_b, isBool_i, isBool_b, isTuple_t, isTuple_i, isTuple_n, isList_l, isList_t, isStr_s, plain_i, plain_t, plain_l, plain_b, plain_n, plain_s, isNone_i, isNone_t, isNone_n, immI, immB, immN, immS, immT, immL_cons, immL_nil, told_val, getD_some, tupOf_t, given_own, given_ownd, items_l, items_t, owned_own, datum_val, asInt_i, asLst_l, slotAt, bEq_int, bNe_int, ix0, ix1, ix2, ix3, iy0, iy1, iy2, iy3, opt_some, map_c, map_n, vmap_c, vmap_n, app_c, app_n, rep_s, rep_z, get_z, get_s, set_z, set_s, leng_c, leng_n, Nat.reduceSub, Nat.reduceAdd, not_t, not_f, Int.reduceToNat, Int.reducePow]
  exact ⟨rfl, rfl, rfl, szB a.bp b.bp (by omega), szB a.bq b.br (by omega), szB a.bp b.bq (by omega), szB a.bq b.bs (by omega), szB a.br b.bp (by omega), szB a.bs b.br (by omega), szB a.br b.bq (by omega), szB a.bs b.bs (by omega), h⟩
theorem Pg.then_ok {N : Nat} {p q r s t u v w : Int} (a : Turn N p q r s) (b : Turn N t u v w) (hN : N ≤ 50000000) {Q : DK} {X : DX} (h : Q (.val (.tup [.int (p * t + q * v), .int (p * u + q * w), .int (r * t + s * v), .int (r * u + s * w)]))) : Pg.w_then [.tup [.int p, .int q, .int r, .int s], .tup [.int t, .int u, .int v, .int w]] Q X := by
  refine fun_mk ?_
  dsimp only [Pg.t_then, dSeq, dUnpL, lstOf_l, dCut, dSet, dSetV, dUnp, dPar, dDrop, dRet, dRetOwn, dRetN, dIf, dPass, dNext, dNever, dBreak, dCont, dFrz, frz, dTry, dRaise, isx_n, isx_o, dMeth, meth_b, meth_s, fld0b, fld0s, fld1b, fld1s, gr2, ws2, iso_bb, iso_bs, iso_ba, iso_sb, iso_ss, iso_sa, mk_obj, xf0, xf1, plain_o, dApp, dAug, setAll, dC, dVar, dView, dViewT, view, dOp, dUn, dAs, dNil, dCons, dAnd, dOr, dNot, dIte, dTup, dLst, dCall, dChain, two_t, two_f, cB, oIsi, oIsN, oNotN, dYes, dEach, dNoPart, dPart, dSl, use_val, use_own, use_ownd, bool_val, view_val, view_own, view_ownd, view_un, imm_val, imm_own, add_ii, add_ll, sub_ii, mul_ii, div_ii, mod_ii, pow_ii, shl_ii, cmp_ii, neg_i, isB_bb, notB_bb, len_t, len_l, abs_i, max_ii, min_ii, int_i, int_b, divmod_ii, isInt_i, isInt_t, isInt_n, isInt_b, isBool_i, isBool_b, isTuple_t, isTuple_i, isTuple_n, isList_l, isList_t, isStr_s, plain_i, plain_t, plain_l, plain_b, plain_n, plain_s, isNone_i, isNone_t, isNone_n, immI, immB, immN, immS, immT, immL_cons, immL_nil, told_val, getD_some, tupOf_t, given_own, given_ownd, items_l, items_t, owned_own, datum_val, asInt_i, asLst_l, slotAt, bEq_int, bNe_int, ix0, ix1, ix2, ix3, iy0, iy1, iy2, iy3, opt_some, map_c, map_n, vmap_c, vmap_n, app_c, app_n, rep_s, rep_z, get_z, get_s, set_z, set_s, leng_c, leng_n, Nat.reduceSub, Nat.reduceAdd, not_t, not_f, Int.reduceToNat, Int.reducePow]
  refine ⟨rfl, Pg.must_turn_ok a hN (Pg.must_turn_ok b hN ?_)⟩
  exact Pg.put_ok a b hN h

theorem Pg.measure_ok {a b c : Int} {N : Nat} (hN : N ≤ 16000000) (ha : Bd a N) (hb : Bd b N) (hc : Bd c N) {Q : DK} {X : DX} (h : Q (.val (.int (b * b - 4 * a * c)))) : Pg.w_measure [.tup [.int a, .int b, .int c]] Q X := by
  refine fun_mk ?_
  dsimp only [Pg.t_measure, dSeq, dUnpL, lstOf_l, dCut, dSet, dSetV, dUnp, dPar, dDrop, dRet, dRetOwn, dRetN, dIf, dPass, dNext, dNever, dBreak, dCont, dFrz, frz, dTry, dRaise, isx_n, isx_o, dMeth, meth_b, meth_s, fld0b, fld0s, fld1b, fld1s, gr2, ws2, iso_bb, iso_bs, iso_ba, iso_sb, iso_ss, iso_sa, mk_obj, xf0, xf1, plain_o, dApp, dAug, setAll, dC, dVar, dView, dViewT, view, dOp, dUn, dAs, dNil, dCons, dAnd, dOr, dNot, dIte, dTup, dLst, dCall, dChain, two_t, two_f, cB, oIsi, oIsN, oNotN, dYes, dEach, dNoPart, dPart, dSl, use_val, use_own, use_ownd, bool_val, view_val, view_own, view_ownd, view_un, imm_val, imm_own, add_ii, add_ll, sub_ii, mul_ii, div_ii, mod_ii, pow_ii, shl_ii, cmp_ii, neg_i, isB_bb, notB_bb, len_t, len_l, abs_i, max_ii, min_ii, int_i, int_b, divmod_ii, isInt_i, isInt_t, isInt_n, isInt_b, isBool_i, isBool_b, isTuple_t, isTuple_i, isTuple_n, isList_l, isList_t, isStr_s, plain_i, plain_t, plain_l, plain_b, plain_n, plain_s, isNone_i, isNone_t, isNone_n, immI, immB, immN, immS, immT, immL_cons, immL_nil, told_val, getD_some, tupOf_t, given_own, given_ownd, items_l, items_t, owned_own, datum_val, asInt_i, asLst_l, slotAt, bEq_int, bNe_int, ix0, ix1, ix2, ix3, iy0, iy1, iy2, iy3, opt_some, map_c, map_n, vmap_c, vmap_n, app_c, app_n, rep_s, rep_z, get_z, get_s, set_z, set_s, leng_c, leng_n, Nat.reduceSub, Nat.reduceAdd, not_t, not_f, Int.reduceToNat, Int.reducePow]
  have b4 : Bd (4 * a) (3 + N) := bd_mul bd4 ha
  exact ⟨rfl, rfl, szB hb hb (by omega), szB bd4 ha (by omega), szB b4 hc (by omega), h⟩

/-- a form of numbers of fewer than N bits -/
structure Form (N : Nat) (a b c : Int) : Prop where
  ba : Bd a N
  bb : Bd b N
  bc : Bd c N
theorem Form.up {N : Nat} {a b c : Int} (f : Form N a b c) (M : Nat) (h : N ≤ M := by omega) : Form M a b c := ⟨bd_up M f.ba h, bd_up M f.bb h, bd_up M f.bc h⟩
/-- what a form takes -/
def vf (a b c x y : Int) : Int := a * x * x + b * x * y + c * y * y
/-- a moved form's middle number -/
def mf (a b c p q r s : Int) : Int := 2 * a * p * q + b * (p * s + q * r) + 2 * c * r * s
theorem bd_vf {a b c x y : Int} {N M : Nat} (f : Form N a b c) (bx : Bd x M) (by_ : Bd y M) (K : Nat) (h : N + 2 * M + 2 ≤ K := by omega) : Bd (vf a b c x y) K :=
  bd_add2 (n := N + 2 * M + 1) (m := N + 2 * M) (bd_add2 (n := N + 2 * M) (m := N + 2 * M) (bd_mul2 (n := N + M) (bd_mul f.ba bx) bx) (bd_mul2 (n := N + M) (bd_mul f.bb bx) by_)) (bd_mul2 (n := N + M) (bd_mul f.bc by_) by_)
theorem bd_mf {a b c p q r s : Int} {N M : Nat} (f : Form N a b c) (t : Turn M p q r s) (K : Nat) (h : N + 2 * M + 4 ≤ K := by omega) : Bd (mf a b c p q r s) K :=
  bd_add2 (n := N + 2 * M + 3) (m := N + 2 * M + 2) (bd_add2 (n := N + 2 * M + 2) (m := N + 2 * M + 1) (bd_mul2 (n := 2 + N + M) (bd_mul (bd_mul bd2 f.ba) t.bp) t.bq) (bd_mul2 (n := N) (m := 2 * M + 1) f.bb (bd_add2 (n := M + M) (m := M + M) (bd_mul t.bp t.bs) (bd_mul t.bq t.br)))) (bd_mul2 (n := 2 + N + M) (bd_mul (bd_mul bd2 f.bc) t.br) t.bs)
theorem Pg.value_ok {a b c x y : Int} {N M : Nat} (f : Form N a b c) (bx : Bd x M) (by_ : Bd y M) (hN : N ≤ 16000000) (hM : M ≤ 16000000) {Q : DK} {X : DX} (h : Q (.val (.int (vf a b c x y)))) : Pg.w_value [.tup [.int a, .int b, .int c], .tup [.int x, .int y]] Q X := by
  refine fun_mk ?_
  dsimp only [Pg.t_value, dSeq, dUnpL, lstOf_l, dCut, dSet, dSetV, dUnp, dPar, dDrop, dRet, dRetOwn, dRetN, dIf, dPass, dNext, dNever, dBreak, dCont, dFrz, frz, dTry, dRaise, isx_n, isx_o, dMeth, meth_b, meth_s, fld0b, fld0s, fld1b, fld1s, gr2, ws2, iso_bb, iso_bs, iso_ba, iso_sb, iso_ss, iso_sa, mk_obj, xf0, xf1, plain_o, dApp, dAug, setAll, dC, dVar, dView, dViewT, view, dOp, dUn, dAs, dNil, dCons, dAnd, dOr, dNot, dIte, dTup, dLst, dCall, dChain, two_t, two_f, cB, oIsi, oIsN, oNotN, dYes, dEach, dNoPart, dPart, dSl, use_val, use_own, use_ownd, bool_val, view_val, view_own, view_ownd, view_un, imm_val, imm_own, add_ii, add_ll, sub_ii, mul_ii, div_ii, mod_ii, pow_ii, shl_ii, cmp_ii, neg_i, isB_bb, notB_bb, len_t, len_l, abs_i, max_ii, min_ii, int_i, int_b, divmod_ii, isInt_i, isInt_t, isInt_n, isInt_b, isBool_i, isBool_b, isTuple_t, isTuple_i, isTuple_n, isList_l, isList_t, isStr_s, plain_i, plain_t, plain_l, plain_b, plain_n, plain_s, isNone_i, isNone_t, isNone_n, immI, immB, immN, immS, immT, immL_cons, immL_nil, told_val, getD_some, tupOf_t, given_own, given_ownd, items_l, items_t, owned_own, datum_val, asInt_i, asLst_l, slotAt, bEq_int, bNe_int, ix0, ix1, ix2, ix3, iy0, iy1, iy2, iy3, opt_some, map_c, map_n, vmap_c, vmap_n, app_c, app_n, rep_s, rep_z, get_z, get_s, set_z, set_s, leng_c, leng_n, Nat.reduceSub, Nat.reduceAdd, not_t, not_f, Int.reduceToNat, Int.reducePow]
  exact ⟨rfl, rfl, rfl, szB f.ba bx (by omega), szB (bd_mul f.ba bx) bx (by omega), szB f.bb bx (by omega), szB (bd_mul f.bb bx) by_ (by omega), szB f.bc by_ (by omega), szB (bd_mul f.bc by_) by_ (by omega), h⟩
theorem Pg.moved_ok {a b c p q r s : Int} {N M : Nat} (f : Form N a b c) (t : Turn M p q r s) (hN : N ≤ 16000000) (hM : M ≤ 16000000) {Q : DK} {X : DX} (h : Q (.val (.tup [.int (vf a b c p r), .int (mf a b c p q r s), .int (vf a b c q s)]))) : Pg.w_moved [.tup [.int a, .int b, .int c], .tup [.int p, .int q, .int r, .int s]] Q X := by
  refine fun_mk ?_
  dsimp only [Pg.t_moved, dSeq, dUnpL, lstOf_l, dCut, dSet, dSetV, dUnp, dPar, dDrop, dRet, dRetOwn, dRetN, dIf, dPass, dNext, dNever, dBreak, dCont, dFrz, frz, dTry, dRaise, isx_n, isx_o, dMeth, meth_b, meth_s, fld0b, fld0s, fld1b, fld1s, gr2, ws2, iso_bb, iso_bs, iso_ba, iso_sb, iso_ss, iso_sa, mk_obj, xf0, xf1, plain_o, dApp, dAug, setAll, dC, dVar, dView, dViewT, view, dOp, dUn, dAs, dNil, dCons, dAnd, dOr, dNot, dIte, dTup, dLst, dCall, dChain, two_t, two_f, cB, oIsi, oIsN, oNotN, dYes, dEach, dNoPart, dPart, dSl, use_val, use_own, use_ownd, bool_val, view_val, view_own, view_ownd, view_un, imm_val, imm_own, add_ii, add_ll, sub_ii, mul_ii, div_ii, mod_ii, pow_ii, shl_ii, cmp_ii, neg_i, isB_bb, notB_bb, len_t, len_l, abs_i, max_ii, min_ii, int_i, int_b, divmod_ii, isInt_i, isInt_t, isInt_n, isInt_b, isBool_i, isBool_b, isTuple_t, isTuple_i, isTuple_n, isList_l, isList_t, isStr_s, plain_i, plain_t, plain_l, plain_b, plain_n, plain_s, isNone_i, isNone_t, isNone_n, immI, immB, immN, immS, immT, immL_cons, immL_nil, told_val, getD_some, tupOf_t, given_own, given_ownd, items_l, items_t, owned_own, datum_val, asInt_i, asLst_l, slotAt, bEq_int, bNe_int, ix0, ix1, ix2, ix3, iy0, iy1, iy2, iy3, opt_some, map_c, map_n, vmap_c, vmap_n, app_c, app_n, rep_s, rep_z, get_z, get_s, set_z, set_s, leng_c, leng_n, Nat.reduceSub, Nat.reduceAdd, not_t, not_f, Int.reduceToNat, Int.reducePow]
  refine ⟨rfl, Pg.must_turn_ok t (by omega) ?_⟩
  try dsimp only [dSeq, dUnpL, lstOf_l, dCut, dSet, dSetV, dUnp, dPar, dDrop, dRet, dRetOwn, dRetN, dIf, dPass, dNext, dNever, dBreak, dCont, dFrz, frz, dTry, dRaise, isx_n, isx_o, dMeth, meth_b, meth_s, fld0b, fld0s, fld1b, fld1s, gr2, ws2, iso_bb, iso_bs, iso_ba, iso_sb, iso_ss, iso_sa, mk_obj, xf0, xf1, plain_o, dApp, dAug, setAll, dC, dVar, dView, dViewT, view, dOp, dUn, dAs, dNil, dCons, dAnd, dOr, dNot, dIte, dTup, dLst, dCall, dChain, two_t, two_f, cB, oIsi, oIsN, oNotN, dYes, dEach, dNoPart, dPart, dSl, use_val, use_own, use_ownd, bool_val, view_val, view_own, view_ownd, view_un, imm_val, imm_own, add_ii, add_ll, sub_ii, mul_ii, div_ii, mod_ii, pow_ii, shl_ii, cmp_ii, neg_i, isB_bb, notB_bb, len_t, len_l, abs_i, max_ii, min_ii, int_i, int_b, divmod_ii, isInt_i, isInt_t, isInt_n, isInt_b, isBool_i, isBool_b, isTuple_t, isTuple_i, isTuple_n, isList_l, isList_t, isStr_s, plain_i, plain_t, plain_l, plain_b, plain_n, plain_s, isNone_i, isNone_t, isNone_n, immI, immB, immN, immS, immT, immL_cons, immL_nil, told_val, getD_some, tupOf_t, given_own, given_ownd, items_l, items_t, owned_own, datum_val, asInt_i, asLst_l, slotAt, bEq_int, bNe_int, ix0, ix1, ix2, ix3, iy0, iy1, iy2, iy3, opt_some, map_c, map_n, vmap_c, vmap_n, app_c, app_n, rep_s, rep_z, get_z, get_s, set_z, set_s, leng_c, leng_n, Nat.reduceSub, Nat.reduceAdd, not_t, not_f, Int.reduceToNat, Int.reducePow]
  refine ⟨rfl, rfl, szB bd2 f.ba (by omega), szB (bd_mul bd2 f.ba) t.bp (by omega), szB (bd_mul (bd_mul bd2 f.ba) t.bp) t.bq (by omega), szB t.bp t.bs (by omega), szB t.bq t.br (by omega), szB (m := 2 * M + 1) f.bb (bd_add2 (n := M + M) (m := M + M) (bd_mul t.bp t.bs) (bd_mul t.bq t.br)) (by omega), szB bd2 f.bc (by omega), szB (bd_mul bd2 f.bc) t.br (by omega), szB (bd_mul (bd_mul bd2 f.bc) t.br) t.bs (by omega), ?_⟩
  refine Pg.value_ok f t.bp t.br hN hM ?_
  try dsimp only [dSeq, dUnpL, lstOf_l, dCut, dSet, dSetV, dUnp, dPar, dDrop, dRet, dRetOwn, dRetN, dIf, dPass, dNext, dNever, dBreak, dCont, dFrz, frz, dTry, dRaise, isx_n, isx_o, dMeth, meth_b, meth_s, fld0b, fld0s, fld1b, fld1s, gr2, ws2, iso_bb, iso_bs, iso_ba, iso_sb, iso_ss, iso_sa, mk_obj, xf0, xf1, plain_o, dApp, dAug, setAll, dC, dVar, dView, dViewT, view, dOp, dUn, dAs, dNil, dCons, dAnd, dOr, dNot, dIte, dTup, dLst, dCall, dChain, two_t, two_f, cB, oIsi, oIsN, oNotN, dYes, dEach, dNoPart, dPart, dSl, use_val, use_own, use_ownd, bool_val, view_val, view_own, view_ownd, view_un, imm_val, imm_own, add_ii, add_ll, sub_ii, mul_ii, div_ii, mod_ii, pow_ii, shl_ii, cmp_ii, neg_i, isB_bb, notB_bb, len_t, len_l, abs_i, max_ii, min_ii, int_i, int_b, divmod_ii, isInt_i, isInt_t, isInt_n, isInt_b, isBool_i, isBool_b, isTuple_t, isTuple_i, isTuple_n, isList_l, isList_t, isStr_s, plain_i, plain_t, plain_l, plain_b, plain_n, plain_s, isNone_i, isNone_t, isNone_n, immI, immB, immN, immS, immT, immL_cons, immL_nil, told_val, getD_some, tupOf_t, given_own, given_ownd, items_l, items_t, owned_own, datum_val, asInt_i, asLst_l, slotAt, bEq_int, bNe_int, ix0, ix1, ix2, ix3, iy0, iy1, iy2, iy3, opt_some, map_c, map_n, vmap_c, vmap_n, app_c, app_n, rep_s, rep_z, get_z, get_s, set_z, set_s, leng_c, leng_n, Nat.reduceSub, Nat.reduceAdd, not_t, not_f, Int.reduceToNat, Int.reducePow]
  refine Pg.value_ok f t.bq t.bs hN hM ?_
  exact h
theorem Form.move {a b c p q r s : Int} {N M : Nat} (f : Form N a b c) (t : Turn M p q r s) (K : Nat) (h : N + 2 * M + 4 ≤ K := by omega) : Form K (vf a b c p r) (mf a b c p q r s) (vf a b c q s) := ⟨bd_vf f t.bp t.br K, bd_mf f t K, bd_vf f t.bq t.bs K⟩
theorem vf_moved (a b c p q r s x y : Int) : vf (vf a b c p r) (mf a b c p q r s) (vf a b c q s) x y = vf a b c (p * x + q * y) (r * x + s * y) := by
  unfold vf mf; grind
theorem mf_moved (a b c p q r s t u v w : Int) : mf (vf a b c p r) (mf a b c p q r s) (vf a b c q s) t u v w = mf a b c (p * t + q * v) (p * u + q * w) (r * t + s * v) (r * u + s * w) := by
  unfold vf mf; grind
theorem measure_moved (a b c p q r s : Int) (h : p * s - q * r = 1) : mf a b c p q r s * mf a b c p q r s - 4 * vf a b c p r * vf a b c q s = b * b - 4 * a * c := by
  have e : mf a b c p q r s * mf a b c p q r s - 4 * vf a b c p r * vf a b c q s = (b * b - 4 * a * c) * ((p * s - q * r) * (p * s - q * r)) := by unfold vf mf; grind
  rw [e, h]; omega

theorem newton {n x : Int} (hx : 1 ≤ x) : n < ((x + n.fdiv x).fdiv 2 + 1) * ((x + n.fdiv x).fdiv 2 + 1) ∨ (x + n.fdiv x).fdiv 2 < 0 := by
  have e1 := Int.mul_fdiv_add_fmod n x
  have e2 := Int.fmod_lt_of_pos n (show 0 < x by omega)
  have e3 := Int.mul_fdiv_add_fmod (x + n.fdiv x) 2
  have e4 := Int.fmod_lt_of_pos (x + n.fdiv x) (show (0 : Int) < 2 by decide)
  generalize n.fmod x = r at *
  generalize n.fdiv x = q at *
  generalize (x + q).fmod 2 = t at *
  generalize (x + q).fdiv 2 = b at *
  by_cases hb : b < 0
  · exact .inr hb
  refine .inl ?_
  have h1 : 0 ≤ (x - (q + 1)) * (x - (q + 1)) := by
    rcases Int.le_total 0 (x - (q + 1)) with h | h
    · exact Int.mul_nonneg h h
    · exact Int.mul_nonneg_of_nonpos_of_nonpos h h
  by_cases hs : x + q + 1 ≤ 0
  · have : n < 0 := by
      have : x * q ≤ x * (-x - 1) := Int.mul_le_mul_of_nonneg_left (by omega) (by omega)
      have h9 : 0 ≤ x * x := Int.mul_nonneg (by omega) (by omega)
      grind
    have : 0 ≤ (b + 1) * (b + 1) := Int.mul_nonneg (by omega) (by omega)
    omega
  have h2 : (x + q + 1) * (x + q + 1) ≤ (2 * (b + 1)) * (2 * (b + 1)) := Int.mul_le_mul (by omega) (by omega) (by omega) (by omega)
  have h3 : n < x * (q + 1) := by rw [Int.mul_add]; omega
  grind
theorem bits_lt {n : Int} (h : 0 < n) : n < 2 ^ bits n := by
  unfold bits
  rw [if_neg (by omega)]
  have := @Nat.lt_log2_self n.natAbs
  have e : ((2 ^ (n.natAbs.log2 + 1) : Nat) : Int) = (2 : Int) ^ (n.natAbs.log2 + 1) := by rw [Int.natCast_pow]; rfl
  rw [← e]; omega
theorem newton0 {n : Int} (h : 0 < n) : let x := 1 * (2 : Int) ^ (((bits n : Int) + 1).fdiv 2).toNat; 1 ≤ x ∧ n < (x + 1) * (x + 1) := by
  intro x
  have e1 := Int.mul_fdiv_add_fmod ((bits n : Int) + 1) 2
  have e2 := Int.fmod_lt_of_pos ((bits n : Int) + 1) (show (0 : Int) < 2 by decide)
  have e3 := Int.fmod_nonneg_of_pos ((bits n : Int) + 1) (show (0 : Int) < 2 by decide)
  generalize hk : (((bits n : Int) + 1).fdiv 2).toNat = k at *
  have hx : x = ((2 ^ k : Nat) : Int) := by
    show 1 * (2 : Int) ^ _ = _
    rw [Int.one_mul, hk, Int.natCast_pow]; rfl
  have h2 : bits n ≤ k + k := by omega
  have h3 := bits_lt h
  have h4 : (2 : Nat) ^ bits n ≤ 2 ^ k * 2 ^ k := by rw [← Nat.pow_add]; exact Nat.pow_le_pow_right (by decide) h2
  have h5 : ((2 ^ bits n : Nat) : Int) = (2 : Int) ^ bits n := by rw [Int.natCast_pow]; rfl
  have h6 : ((2 ^ k * 2 ^ k : Nat) : Int) = x * x := by rw [hx, Int.natCast_mul]
  have h7 := Nat.two_pow_pos k
  have h8 : n < x * x := by rw [← h6]; omega
  refine ⟨by omega, ?_⟩
  have : (x + 1) * (x + 1) = x * x + 2 * x + 1 := by grind
  omega
theorem pos_of_sq {n b : Int} (hn : 1 ≤ n) (hb : 0 ≤ b) (h : n < (b + 1) * (b + 1)) : 1 ≤ b := by
  rcases Int.lt_or_le b 1 with h1 | h1
  · have : b = 0 := by omega
    subst this; omega
  · exact h1
theorem fdiv_nonneg {n x : Int} (hn : 0 ≤ n) (hx : 1 ≤ x) : 0 ≤ n.fdiv x := by
  rw [Int.fdiv_eq_ediv_of_nonneg _ (by omega)]
  exact Int.ediv_nonneg hn (by omega)
theorem newton1 {n x : Int} (hn : 1 ≤ n) (hx : 1 ≤ x) : 1 ≤ (x + n.fdiv x).fdiv 2 ∧ n < ((x + n.fdiv x).fdiv 2 + 1) * ((x + n.fdiv x).fdiv 2 + 1) := by
  have h0 := fdiv_nonneg (show 0 ≤ n by omega) hx
  have h1 : 0 ≤ (x + n.fdiv x).fdiv 2 := fdiv_nonneg (by omega) (by decide)
  rcases newton (n := n) hx with h | h
  · exact ⟨pos_of_sq hn h1 h, h⟩
  · omega
theorem newton_end {n x : Int} (hx : 1 ≤ x) (h : x ≤ (x + n.fdiv x).fdiv 2) : x * x ≤ n := by
  have e1 := Int.mul_fdiv_add_fmod n x
  have e2 := Int.fmod_nonneg_of_pos n (show 0 < x by omega)
  have e3 := Int.mul_fdiv_add_fmod (x + n.fdiv x) 2
  have e4 := Int.fmod_nonneg_of_pos (x + n.fdiv x) (show (0 : Int) < 2 by decide)
  have h1 : x * x ≤ x * n.fdiv x := Int.mul_le_mul_of_nonneg_left (by omega) (by omega)
  omega
theorem newton_down {n x : Int} (hx : 1 ≤ x) (h : n < x * x) : (x + n.fdiv x).fdiv 2 < x := by
  rcases Int.lt_or_le ((x + n.fdiv x).fdiv 2) x with h1 | h1
  · exact h1
  · have := newton_end hx h1
    omega
/-- a square number -/
def Sq (n : Int) : Prop := ∃ r : Int, r * r = n
theorem sq_uniq {n r s : Int} (hr : 0 ≤ r) (h1 : r * r ≤ n) (h2 : n < (r + 1) * (r + 1)) (hs : s * s = n) : r * r = n := by
  have h3 : s.natAbs * s.natAbs = n := by rw [← Int.natCast_mul, Int.natAbs_mul_self]; exact hs
  generalize hm : (s.natAbs : Int) = m at *
  have hm0 : 0 ≤ m := by omega
  rcases Int.lt_trichotomy m r with h | h | h
  · have : m * m ≤ (r - 1) * r := Int.mul_le_mul (by omega) (by omega) hm0 (by omega)
    have : (r - 1) * r = r * r - r := by grind
    omega
  · subst h; exact h3
  · have : (r + 1) * (r + 1) ≤ m * m := Int.mul_le_mul (by omega) (by omega) (by omega) hm0
    omega
theorem sq_iff {n r : Int} (hr : 0 ≤ r) (h1 : r * r ≤ n) (h2 : n < (r + 1) * (r + 1)) : decide (r * r = n) = true ↔ Sq n := by
  rw [decide_eq_true_eq]
  exact ⟨fun h => ⟨r, h⟩, fun ⟨s, hs⟩ => sq_uniq hr h1 h2 hs⟩
theorem sq_neg {n : Int} (h : n < 0) : ¬ Sq n := fun ⟨r, hr⟩ => by
  have : 0 ≤ r * r := by
    rcases Int.le_total 0 r with h | h
    · exact Int.mul_nonneg h h
    · exact Int.mul_nonneg_of_nonpos_of_nonpos h h
  omega

theorem Pg.root_ok {n : Int} {N : Nat} (bn : Bd n N) (hN : N ≤ 4000) (h0 : 0 ≤ n) {Q : DK} {X : DX} (h : ∀ r, 0 ≤ r → r * r ≤ n → n < (r + 1) * (r + 1) → Q (.val (.int r))) : Pg.w_root [.int n] Q X := by
  refine fun_mk ?_
  dsimp only [Pg.t_root, oBits, dSeq, dUnpL, lstOf_l, dCut, dSet, dSetV, dUnp, dPar, dDrop, dRet, dRetOwn, dRetN, dIf, dPass, dNext, dNever, dBreak, dCont, dFrz, frz, dTry, dRaise, isx_n, isx_o, dMeth, meth_b, meth_s, fld0b, fld0s, fld1b, fld1s, gr2, ws2, iso_bb, iso_bs, iso_ba, iso_sb, iso_ss, iso_sa, mk_obj, xf0, xf1, plain_o, dApp, dAug, setAll, dC, dVar, dView, dViewT, view, dOp, dUn, dAs, dNil, dCons, dAnd, dOr, dNot, dIte, dTup, dLst, dCall, dChain, two_t, two_f, cB, oIsi, oIsN, oNotN, dYes, dEach, dNoPart, dPart, dSl, use_val, use_own, use_ownd, bool_val, view_val, view_own, view_ownd, view_un, imm_val, imm_own, add_ii, add_ll, sub_ii, mul_ii, div_ii, mod_ii, pow_ii, shl_ii, cmp_ii, neg_i, isB_bb, notB_bb, len_t, len_l, abs_i, max_ii, min_ii, int_i, int_b, divmod_ii, isInt_i, isInt_t, isInt_n, isInt_b, isBool_i, isBool_b, isTuple_t, isTuple_i, isTuple_n, isList_l, isList_t, isStr_s, plain_i, plain_t, plain_l, plain_b, plain_n, plain_s, isNone_i, isNone_t, isNone_n, immI, immB, immN, immS, immT, immL_cons, immL_nil, told_val, getD_some, tupOf_t, given_own, given_ownd, items_l, items_t, owned_own, datum_val, asInt_i, asLst_l, slotAt, bEq_int, bNe_int, ix0, ix1, ix2, ix3, iy0, iy1, iy2, iy3, opt_some, map_c, map_n, vmap_c, vmap_n, app_c, app_n, rep_s, rep_z, get_z, get_s, set_z, set_s, leng_c, leng_n, Nat.reduceSub, Nat.reduceAdd, not_t, not_f, Int.reduceToNat, Int.reducePow]
  have hb := bits_le bn
  have hc : 0 ≤ ((bits n : Int) + 1).fdiv 2 := fdiv_nonneg (by omega) (by decide)
  have hd : ((bits n : Int) + 1).fdiv 2 ≤ (bits n : Int) + 1 := by
    have := Int.mul_fdiv_add_fmod ((bits n : Int) + 1) 2
    have := Int.fmod_nonneg_of_pos ((bits n : Int) + 1) (show (0 : Int) < 2 by decide)
    omega
  refine ⟨rfl, two_q (by omega) (two_d (fun e => by subst e; exact h 0 (by decide) (by decide) (by decide)) fun hz => ⟨divLit (by decide), ⟨hc, ?_⟩, ?_⟩)⟩
  · have : (bits 1 : Int) = 1 := by decide
    omega
  obtain ⟨g1, g2⟩ := newton0 (n := n) (by omega)
  generalize 1 * (2 : Int) ^ (((bits n : Int) + 1).fdiv 2).toNat = x0 at *
  refine while_g (fun e m => ∃ (x : Int) (s2 : Sl), e = [.val (.int n), .val (.int x), s2] ∧ 1 ≤ x ∧ n < (x + 1) * (x + 1) ∧ m = x.toNat) x0.toNat ⟨x0, _, rfl, g1, g2, rfl⟩ ?_
  rintro e m G ⟨x, s2, rfl, k1, k2, rfl⟩ ih
  try dsimp only [dSeq, dUnpL, lstOf_l, dCut, dSet, dSetV, dUnp, dPar, dDrop, dRet, dRetOwn, dRetN, dIf, dPass, dNext, dNever, dBreak, dCont, dFrz, frz, dTry, dRaise, isx_n, isx_o, dMeth, meth_b, meth_s, fld0b, fld0s, fld1b, fld1s, gr2, ws2, iso_bb, iso_bs, iso_ba, iso_sb, iso_ss, iso_sa, mk_obj, xf0, xf1, plain_o, dApp, dAug, setAll, dC, dVar, dView, dViewT, view, dOp, dUn, dAs, dNil, dCons, dAnd, dOr, dNot, dIte, dTup, dLst, dCall, dChain, two_t, two_f, cB, oIsi, oIsN, oNotN, dYes, dEach, dNoPart, dPart, dSl, use_val, use_own, use_ownd, bool_val, view_val, view_own, view_ownd, view_un, imm_val, imm_own, add_ii, add_ll, sub_ii, mul_ii, div_ii, mod_ii, pow_ii, shl_ii, cmp_ii, neg_i, isB_bb, notB_bb, len_t, len_l, abs_i, max_ii, min_ii, int_i, int_b, divmod_ii, isInt_i, isInt_t, isInt_n, isInt_b, isBool_i, isBool_b, isTuple_t, isTuple_i, isTuple_n, isList_l, isList_t, isStr_s, plain_i, plain_t, plain_l, plain_b, plain_n, plain_s, isNone_i, isNone_t, isNone_n, immI, immB, immN, immS, immT, immL_cons, immL_nil, told_val, getD_some, tupOf_t, given_own, given_ownd, items_l, items_t, owned_own, datum_val, asInt_i, asLst_l, slotAt, bEq_int, bNe_int, ix0, ix1, ix2, ix3, iy0, iy1, iy2, iy3, opt_some, map_c, map_n, vmap_c, vmap_n, app_c, app_n, rep_s, rep_z, get_z, get_s, set_z, set_s, leng_c, leng_n, Nat.reduceSub, Nat.reduceAdd, not_t, not_f, Int.reduceToNat, Int.reducePow]
  obtain ⟨k3, k4⟩ := newton1 (n := n) (show 1 ≤ n by omega) k1
  refine ⟨@divBd2 n x N bn (by omega) (Nat.ble_eq_true_of_le hN), divLit (by decide), two_d (fun hge => h x (by omega) (newton_end k1 hge) k2) fun hlt => ih _ _ ?_ ⟨_, _, rfl, k3, k4, rfl⟩⟩
  omega
theorem Pg.is_square_ok {n : Int} {N : Nat} (bn : Bd n N) (hN : N ≤ 4000) {Q : DK} {X : DX} (h : ∀ b : Bool, (b = true ↔ Sq n) → Q (.val (.bl b))) : Pg.w_is_square [.int n] Q X := by
  refine fun_mk ?_
  dsimp only [Pg.t_is_square, dSeq, dUnpL, lstOf_l, dCut, dSet, dSetV, dUnp, dPar, dDrop, dRet, dRetOwn, dRetN, dIf, dPass, dNext, dNever, dBreak, dCont, dFrz, frz, dTry, dRaise, isx_n, isx_o, dMeth, meth_b, meth_s, fld0b, fld0s, fld1b, fld1s, gr2, ws2, iso_bb, iso_bs, iso_ba, iso_sb, iso_ss, iso_sa, mk_obj, xf0, xf1, plain_o, dApp, dAug, setAll, dC, dVar, dView, dViewT, view, dOp, dUn, dAs, dNil, dCons, dAnd, dOr, dNot, dIte, dTup, dLst, dCall, dChain, two_t, two_f, cB, oIsi, oIsN, oNotN, dYes, dEach, dNoPart, dPart, dSl, use_val, use_own, use_ownd, bool_val, view_val, view_own, view_ownd, view_un, imm_val, imm_own, add_ii, add_ll, sub_ii, mul_ii, div_ii, mod_ii, pow_ii, shl_ii, cmp_ii, neg_i, isB_bb, notB_bb, len_t, len_l, abs_i, max_ii, min_ii, int_i, int_b, divmod_ii, isInt_i, isInt_t, isInt_n, isInt_b, isBool_i, isBool_b, isTuple_t, isTuple_i, isTuple_n, isList_l, isList_t, isStr_s, plain_i, plain_t, plain_l, plain_b, plain_n, plain_s, isNone_i, isNone_t, isNone_n, immI, immB, immN, immS, immT, immL_cons, immL_nil, told_val, getD_some, tupOf_t, given_own, given_ownd, items_l, items_t, owned_own, datum_val, asInt_i, asLst_l, slotAt, bEq_int, bNe_int, ix0, ix1, ix2, ix3, iy0, iy1, iy2, iy3, opt_some, map_c, map_n, vmap_c, vmap_n, app_c, app_n, rep_s, rep_z, get_z, get_s, set_z, set_s, leng_c, leng_n, Nat.reduceSub, Nat.reduceAdd, not_t, not_f, Int.reduceToNat, Int.reducePow]
  refine ⟨rfl, two_d (fun hn => h false ⟨fun e => Bool.noConfusion e, fun s => absurd s (sq_neg hn)⟩) fun hn => Pg.root_ok bn hN (by omega) fun r h1 h2 h3 => ?_⟩
  try dsimp only [dSeq, dUnpL, lstOf_l, dCut, dSet, dSetV, dUnp, dPar, dDrop, dRet, dRetOwn, dRetN, dIf, dPass, dNext, dNever, dBreak, dCont, dFrz, frz, dTry, dRaise, isx_n, isx_o, dMeth, meth_b, meth_s, fld0b, fld0s, fld1b, fld1s, gr2, ws2, iso_bb, iso_bs, iso_ba, iso_sb, iso_ss, iso_sa, mk_obj, xf0, xf1, plain_o, dApp, dAug, setAll, dC, dVar, dView, dViewT, view, dOp, dUn, dAs, dNil, dCons, dAnd, dOr, dNot, dIte, dTup, dLst, dCall, dChain, two_t, two_f, cB, oIsi, oIsN, oNotN, dYes, dEach, dNoPart, dPart, dSl, use_val, use_own, use_ownd, bool_val, view_val, view_own, view_ownd, view_un, imm_val, imm_own, add_ii, add_ll, sub_ii, mul_ii, div_ii, mod_ii, pow_ii, shl_ii, cmp_ii, neg_i, isB_bb, notB_bb, len_t, len_l, abs_i, max_ii, min_ii, int_i, int_b, divmod_ii, isInt_i, isInt_t, isInt_n, isInt_b, isBool_i, isBool_b, isTuple_t, isTuple_i, isTuple_n, isList_l, isList_t, isStr_s, plain_i, plain_t, plain_l, plain_b, plain_n, plain_s, isNone_i, isNone_t, isNone_n, immI, immB, immN, immS, immT, immL_cons, immL_nil, told_val, getD_some, tupOf_t, given_own, given_ownd, items_l, items_t, owned_own, datum_val, asInt_i, asLst_l, slotAt, bEq_int, bNe_int, ix0, ix1, ix2, ix3, iy0, iy1, iy2, iy3, opt_some, map_c, map_n, vmap_c, vmap_n, app_c, app_n, rep_s, rep_z, get_z, get_s, set_z, set_s, leng_c, leng_n, Nat.reduceSub, Nat.reduceAdd, not_t, not_f, Int.reduceToNat, Int.reducePow]
  have br : Bd r N := ⟨by
    have h4 := bn.h
    have h5 : r ≤ r * r := by
      rcases Int.lt_or_le 0 r with g | g
      · have := Int.mul_le_mul_of_nonneg_left (show 1 ≤ r by omega) h1
        omega
      · have : r = 0 := by omega
        subst this; decide
    omega⟩
  exact ⟨szB br br (by omega), h _ (sq_iff h1 h2 h3)⟩

theorem sq_nonneg (x : Int) : 0 ≤ x * x := by
  rcases Int.le_total 0 x with h | h
  · exact Int.mul_nonneg h h
  · exact Int.mul_nonneg_of_nonpos_of_nonpos h h

/-- the whole root -/
def IsRoot (n r : Int) : Prop := 0 ≤ r ∧ r * r ≤ n ∧ n < (r + 1) * (r + 1)
theorem root_one {n r s : Int} (h1 : IsRoot n r) (h2 : IsRoot n s) : r = s := by
  obtain ⟨a1, a2, a3⟩ := h1
  obtain ⟨b1, b2, b3⟩ := h2
  rcases Int.lt_trichotomy r s with h | h | h
  · have : (r + 1) * (r + 1) ≤ s * s := Int.mul_le_mul (by omega) (by omega) (by omega) (by omega)
    omega
  · exact h
  · have : (s + 1) * (s + 1) ≤ r * r := Int.mul_le_mul (by omega) (by omega) (by omega) (by omega)
    omega
/-- a level form, by the root of its measure -/
def Level (a b far : Int) : Prop := (0 < b ∧ b ≤ far) ∧ far - b < 2 * (a.natAbs : Int) ∧ 2 * (a.natAbs : Int) ≤ far + b
instance (a b far : Int) : Decidable (Level a b far) := by unfold Level; infer_instance
theorem two_level {a b far : Int} {S : Prop} (hS : S) {Q : Bool → Prop} (h : Q (decide (Level a b far))) : two (decide (0 < b)) (two (decide (b ≤ far)) (S ∧ two (decide (far - b < 2 * (a.natAbs : Int))) (Q (decide (2 * (a.natAbs : Int) ≤ far + b))) (Q false)) (Q false)) (Q false) := by
  have F : ¬ Level a b far → Q false := fun n => by rw [decide_eq_false n] at h; exact h
  refine two_d (fun h1 => two_d (fun h2 => ⟨hS, two_d (fun h3 => ?_) fun n => F fun l => n l.2.1⟩) fun n => F fun l => n l.1.2) fun n => F fun l => n l.1.1
  by_cases h4 : 2 * (a.natAbs : Int) ≤ far + b
  · rw [decide_eq_true h4]
    rw [decide_eq_true (show Level a b far from ⟨⟨h1, h2⟩, h3, h4⟩)] at h
    exact h
  · rw [decide_eq_false h4]
    exact F fun l => h4 l.2.2
theorem Pg.shape_saddle {a b c : Int} {N : Nat} (f : Form N a b c) (hN : N ≤ 1500) (h0 : 0 ≤ b * b - 4 * a * c) (hs : ¬ Sq (b * b - 4 * a * c)) {Q : DK} {X : DX} (h : Q (.val (.str [115, 97, 100, 100, 108, 101]))) : Pg.w_shape [.tup [.int a, .int b, .int c]] Q X := by
  refine fun_mk ?_
  dsimp only [Pg.t_shape, dSeq, dUnpL, lstOf_l, dCut, dSet, dSetV, dUnp, dPar, dDrop, dRet, dRetOwn, dRetN, dIf, dPass, dNext, dNever, dBreak, dCont, dFrz, frz, dTry, dRaise, isx_n, isx_o, dMeth, meth_b, meth_s, fld0b, fld0s, fld1b, fld1s, gr2, ws2, iso_bb, iso_bs, iso_ba, iso_sb, iso_ss, iso_sa, mk_obj, xf0, xf1, plain_o, dApp, dAug, setAll, dC, dVar, dView, dViewT, view, dOp, dUn, dAs, dNil, dCons, dAnd, dOr, dNot, dIte, dTup, dLst, dCall, dChain, two_t, two_f, cB, oIsi, oIsN, oNotN, dYes, dEach, dNoPart, dPart, dSl, use_val, use_own, use_ownd, bool_val, view_val, view_own, view_ownd, view_un, imm_val, imm_own, add_ii, add_ll, sub_ii, mul_ii, div_ii, mod_ii, pow_ii, shl_ii, cmp_ii, neg_i, isB_bb, notB_bb, len_t, len_l, abs_i, max_ii, min_ii, int_i, int_b, divmod_ii, isInt_i, isInt_t, isInt_n, isInt_b, isBool_i, isBool_b, isTuple_t, isTuple_i, isTuple_n, isList_l, isList_t, isStr_s, plain_i, plain_t, plain_l, plain_b, plain_n, plain_s, isNone_i, isNone_t, isNone_n, immI, immB, immN, immS, immT, immL_cons, immL_nil, told_val, getD_some, tupOf_t, given_own, given_ownd, items_l, items_t, owned_own, datum_val, asInt_i, asLst_l, slotAt, bEq_int, bNe_int, ix0, ix1, ix2, ix3, iy0, iy1, iy2, iy3, opt_some, map_c, map_n, vmap_c, vmap_n, app_c, app_n, rep_s, rep_z, get_z, get_s, set_z, set_s, leng_c, leng_n, Nat.reduceSub, Nat.reduceAdd, not_t, not_f, Int.reduceToNat, Int.reducePow]
  have bm : Bd (b * b - 4 * a * c) 3100 := bd_sub2 (bd_mul f.bb f.bb) (bd_mul (bd_mul bd4 f.ba) f.bc)
  refine ⟨rfl, Pg.measure_ok (by omega) f.ba f.bb f.bc ?_⟩
  try dsimp only [dSeq, dUnpL, lstOf_l, dCut, dSet, dSetV, dUnp, dPar, dDrop, dRet, dRetOwn, dRetN, dIf, dPass, dNext, dNever, dBreak, dCont, dFrz, frz, dTry, dRaise, isx_n, isx_o, dMeth, meth_b, meth_s, fld0b, fld0s, fld1b, fld1s, gr2, ws2, iso_bb, iso_bs, iso_ba, iso_sb, iso_ss, iso_sa, mk_obj, xf0, xf1, plain_o, dApp, dAug, setAll, dC, dVar, dView, dViewT, view, dOp, dUn, dAs, dNil, dCons, dAnd, dOr, dNot, dIte, dTup, dLst, dCall, dChain, two_t, two_f, cB, oIsi, oIsN, oNotN, dYes, dEach, dNoPart, dPart, dSl, use_val, use_own, use_ownd, bool_val, view_val, view_own, view_ownd, view_un, imm_val, imm_own, add_ii, add_ll, sub_ii, mul_ii, div_ii, mod_ii, pow_ii, shl_ii, cmp_ii, neg_i, isB_bb, notB_bb, len_t, len_l, abs_i, max_ii, min_ii, int_i, int_b, divmod_ii, isInt_i, isInt_t, isInt_n, isInt_b, isBool_i, isBool_b, isTuple_t, isTuple_i, isTuple_n, isList_l, isList_t, isStr_s, plain_i, plain_t, plain_l, plain_b, plain_n, plain_s, isNone_i, isNone_t, isNone_n, immI, immB, immN, immS, immT, immL_cons, immL_nil, told_val, getD_some, tupOf_t, given_own, given_ownd, items_l, items_t, owned_own, datum_val, asInt_i, asLst_l, slotAt, bEq_int, bNe_int, ix0, ix1, ix2, ix3, iy0, iy1, iy2, iy3, opt_some, map_c, map_n, vmap_c, vmap_n, app_c, app_n, rep_s, rep_z, get_z, get_s, set_z, set_s, leng_c, leng_n, Nat.reduceSub, Nat.reduceAdd, not_t, not_f, Int.reduceToNat, Int.reducePow]
  refine two_q (by omega) (two_q (by omega) (Pg.is_square_ok bm (by decide) fun s hi => ?_))
  have e : s = false := by
    cases s
    · rfl
    · exact absurd (hi.mp rfl) hs
  subst e
  exact h
theorem Pg.must_saddle_ok {a b c : Int} {N : Nat} (f : Form N a b c) (hN : N ≤ 1500) (h0 : 0 ≤ b * b - 4 * a * c) (h1 : b * b - 4 * a * c ≤ 4000) (hs : ¬ Sq (b * b - 4 * a * c)) {Q : DK} {X : DX} (h : Q (.val .non)) : Pg.w_must_saddle [.tup [.int a, .int b, .int c]] Q X := by
  refine fun_mk ?_
  dsimp only [Pg.t_must_saddle, dSeq, dUnpL, lstOf_l, dCut, dSet, dSetV, dUnp, dPar, dDrop, dRet, dRetOwn, dRetN, dIf, dPass, dNext, dNever, dBreak, dCont, dFrz, frz, dTry, dRaise, isx_n, isx_o, dMeth, meth_b, meth_s, fld0b, fld0s, fld1b, fld1s, gr2, ws2, iso_bb, iso_bs, iso_ba, iso_sb, iso_ss, iso_sa, mk_obj, xf0, xf1, plain_o, dApp, dAug, setAll, dC, dVar, dView, dViewT, view, dOp, dUn, dAs, dNil, dCons, dAnd, dOr, dNot, dIte, dTup, dLst, dCall, dChain, two_t, two_f, cB, oIsi, oIsN, oNotN, dYes, dEach, dNoPart, dPart, dSl, use_val, use_own, use_ownd, bool_val, view_val, view_own, view_ownd, view_un, imm_val, imm_own, add_ii, add_ll, sub_ii, mul_ii, div_ii, mod_ii, pow_ii, shl_ii, cmp_ii, neg_i, isB_bb, notB_bb, len_t, len_l, abs_i, max_ii, min_ii, int_i, int_b, divmod_ii, isInt_i, isInt_t, isInt_n, isInt_b, isBool_i, isBool_b, isTuple_t, isTuple_i, isTuple_n, isList_l, isList_t, isStr_s, plain_i, plain_t, plain_l, plain_b, plain_n, plain_s, isNone_i, isNone_t, isNone_n, immI, immB, immN, immS, immT, immL_cons, immL_nil, told_val, getD_some, tupOf_t, given_own, given_ownd, items_l, items_t, owned_own, datum_val, asInt_i, asLst_l, slotAt, bEq_int, bNe_int, ix0, ix1, ix2, ix3, iy0, iy1, iy2, iy3, opt_some, map_c, map_n, vmap_c, vmap_n, app_c, app_n, rep_s, rep_z, get_z, get_s, set_z, set_s, leng_c, leng_n, Nat.reduceSub, Nat.reduceAdd, not_t, not_f, Int.reduceToNat, Int.reducePow]
  refine ⟨rfl, Pg.shape_saddle f hN h0 hs ?_⟩
  try dsimp only [dSeq, dUnpL, lstOf_l, dCut, dSet, dSetV, dUnp, dPar, dDrop, dRet, dRetOwn, dRetN, dIf, dPass, dNext, dNever, dBreak, dCont, dFrz, frz, dTry, dRaise, isx_n, isx_o, dMeth, meth_b, meth_s, fld0b, fld0s, fld1b, fld1s, gr2, ws2, iso_bb, iso_bs, iso_ba, iso_sb, iso_ss, iso_sa, mk_obj, xf0, xf1, plain_o, dApp, dAug, setAll, dC, dVar, dView, dViewT, view, dOp, dUn, dAs, dNil, dCons, dAnd, dOr, dNot, dIte, dTup, dLst, dCall, dChain, two_t, two_f, cB, oIsi, oIsN, oNotN, dYes, dEach, dNoPart, dPart, dSl, use_val, use_own, use_ownd, bool_val, view_val, view_own, view_ownd, view_un, imm_val, imm_own, add_ii, add_ll, sub_ii, mul_ii, div_ii, mod_ii, pow_ii, shl_ii, cmp_ii, neg_i, isB_bb, notB_bb, len_t, len_l, abs_i, max_ii, min_ii, int_i, int_b, divmod_ii, isInt_i, isInt_t, isInt_n, isInt_b, isBool_i, isBool_b, isTuple_t, isTuple_i, isTuple_n, isList_l, isList_t, isStr_s, plain_i, plain_t, plain_l, plain_b, plain_n, plain_s, isNone_i, isNone_t, isNone_n, immI, immB, immN, immS, immT, immL_cons, immL_nil, told_val, getD_some, tupOf_t, given_own, given_ownd, items_l, items_t, owned_own, datum_val, asInt_i, asLst_l, slotAt, bEq_int, bNe_int, ix0, ix1, ix2, ix3, iy0, iy1, iy2, iy3, opt_some, map_c, map_n, vmap_c, vmap_n, app_c, app_n, rep_s, rep_z, get_z, get_s, set_z, set_s, leng_c, leng_n, Nat.reduceSub, Nat.reduceAdd, not_t, not_f, Int.reduceToNat, Int.reducePow]
  refine bNe_str (by decide) ?_
  try dsimp only [dSeq, dUnpL, lstOf_l, dCut, dSet, dSetV, dUnp, dPar, dDrop, dRet, dRetOwn, dRetN, dIf, dPass, dNext, dNever, dBreak, dCont, dFrz, frz, dTry, dRaise, isx_n, isx_o, dMeth, meth_b, meth_s, fld0b, fld0s, fld1b, fld1s, gr2, ws2, iso_bb, iso_bs, iso_ba, iso_sb, iso_ss, iso_sa, mk_obj, xf0, xf1, plain_o, dApp, dAug, setAll, dC, dVar, dView, dViewT, view, dOp, dUn, dAs, dNil, dCons, dAnd, dOr, dNot, dIte, dTup, dLst, dCall, dChain, two_t, two_f, cB, oIsi, oIsN, oNotN, dYes, dEach, dNoPart, dPart, dSl, use_val, use_own, use_ownd, bool_val, view_val, view_own, view_ownd, view_un, imm_val, imm_own, add_ii, add_ll, sub_ii, mul_ii, div_ii, mod_ii, pow_ii, shl_ii, cmp_ii, neg_i, isB_bb, notB_bb, len_t, len_l, abs_i, max_ii, min_ii, int_i, int_b, divmod_ii, isInt_i, isInt_t, isInt_n, isInt_b, isBool_i, isBool_b, isTuple_t, isTuple_i, isTuple_n, isList_l, isList_t, isStr_s, plain_i, plain_t, plain_l, plain_b, plain_n, plain_s, isNone_i, isNone_t, isNone_n, immI, immB, immN, immS, immT, immL_cons, immL_nil, told_val, getD_some, tupOf_t, given_own, given_ownd, items_l, items_t, owned_own, datum_val, asInt_i, asLst_l, slotAt, bEq_int, bNe_int, ix0, ix1, ix2, ix3, iy0, iy1, iy2, iy3, opt_some, map_c, map_n, vmap_c, vmap_n, app_c, app_n, rep_s, rep_z, get_z, get_s, set_z, set_s, leng_c, leng_n, Nat.reduceSub, Nat.reduceAdd, not_t, not_f, Int.reduceToNat, Int.reducePow]
  refine Pg.measure_ok (by omega) f.ba f.bb f.bc ?_
  try dsimp only [dSeq, dUnpL, lstOf_l, dCut, dSet, dSetV, dUnp, dPar, dDrop, dRet, dRetOwn, dRetN, dIf, dPass, dNext, dNever, dBreak, dCont, dFrz, frz, dTry, dRaise, isx_n, isx_o, dMeth, meth_b, meth_s, fld0b, fld0s, fld1b, fld1s, gr2, ws2, iso_bb, iso_bs, iso_ba, iso_sb, iso_ss, iso_sa, mk_obj, xf0, xf1, plain_o, dApp, dAug, setAll, dC, dVar, dView, dViewT, view, dOp, dUn, dAs, dNil, dCons, dAnd, dOr, dNot, dIte, dTup, dLst, dCall, dChain, two_t, two_f, cB, oIsi, oIsN, oNotN, dYes, dEach, dNoPart, dPart, dSl, use_val, use_own, use_ownd, bool_val, view_val, view_own, view_ownd, view_un, imm_val, imm_own, add_ii, add_ll, sub_ii, mul_ii, div_ii, mod_ii, pow_ii, shl_ii, cmp_ii, neg_i, isB_bb, notB_bb, len_t, len_l, abs_i, max_ii, min_ii, int_i, int_b, divmod_ii, isInt_i, isInt_t, isInt_n, isInt_b, isBool_i, isBool_b, isTuple_t, isTuple_i, isTuple_n, isList_l, isList_t, isStr_s, plain_i, plain_t, plain_l, plain_b, plain_n, plain_s, isNone_i, isNone_t, isNone_n, immI, immB, immN, immS, immT, immL_cons, immL_nil, told_val, getD_some, tupOf_t, given_own, given_ownd, items_l, items_t, owned_own, datum_val, asInt_i, asLst_l, slotAt, bEq_int, bNe_int, ix0, ix1, ix2, ix3, iy0, iy1, iy2, iy3, opt_some, map_c, map_n, vmap_c, vmap_n, app_c, app_n, rep_s, rep_z, get_z, get_s, set_z, set_s, leng_c, leng_n, Nat.reduceSub, Nat.reduceAdd, not_t, not_f, Int.reduceToNat, Int.reducePow]
  exact two_q (by omega) h
theorem Pg.lies_level_ok {a b c far : Int} {Q : DK} {X : DX} (h : Q (.val (.bl (decide (Level a b far))))) : Pg.w_lies_level [.tup [.int a, .int b, .int c], .int far] Q X := by
  refine fun_mk ?_
  dsimp only [Pg.t_lies_level, dSeq, dUnpL, lstOf_l, dCut, dSet, dSetV, dUnp, dPar, dDrop, dRet, dRetOwn, dRetN, dIf, dPass, dNext, dNever, dBreak, dCont, dFrz, frz, dTry, dRaise, isx_n, isx_o, dMeth, meth_b, meth_s, fld0b, fld0s, fld1b, fld1s, gr2, ws2, iso_bb, iso_bs, iso_ba, iso_sb, iso_ss, iso_sa, mk_obj, xf0, xf1, plain_o, dApp, dAug, setAll, dC, dVar, dView, dViewT, view, dOp, dUn, dAs, dNil, dCons, dAnd, dOr, dNot, dIte, dTup, dLst, dCall, dChain, two_t, two_f, cB, oIsi, oIsN, oNotN, dYes, dEach, dNoPart, dPart, dSl, use_val, use_own, use_ownd, bool_val, view_val, view_own, view_ownd, view_un, imm_val, imm_own, add_ii, add_ll, sub_ii, mul_ii, div_ii, mod_ii, pow_ii, shl_ii, cmp_ii, neg_i, isB_bb, notB_bb, len_t, len_l, abs_i, max_ii, min_ii, int_i, int_b, divmod_ii, isInt_i, isInt_t, isInt_n, isInt_b, isBool_i, isBool_b, isTuple_t, isTuple_i, isTuple_n, isList_l, isList_t, isStr_s, plain_i, plain_t, plain_l, plain_b, plain_n, plain_s, isNone_i, isNone_t, isNone_n, immI, immB, immN, immS, immT, immL_cons, immL_nil, told_val, getD_some, tupOf_t, given_own, given_ownd, items_l, items_t, owned_own, datum_val, asInt_i, asLst_l, slotAt, bEq_int, bNe_int, ix0, ix1, ix2, ix3, iy0, iy1, iy2, iy3, opt_some, map_c, map_n, vmap_c, vmap_n, app_c, app_n, rep_s, rep_z, get_z, get_s, set_z, set_s, leng_c, leng_n, Nat.reduceSub, Nat.reduceAdd, not_t, not_f, Int.reduceToNat, Int.reducePow]
  exact ⟨rfl, rfl, two_level (szL (by decide)) (Q := fun b => Q (.val (.bl b))) h⟩

theorem Lw.saddle_3 (x y z o size : Int) (ho : 1 ≤ o) (hs : (o = 1 ∧ size = 400) ∨ (o ≤ 6 ∧ size = 12)) (s5 s6 s7 s8 s9 s10 : Sl) (N : Env → Prop) (Q : DK) (B C : Env → Prop) (X : Exn → Env → Prop) (hQ : ∀ a b c : Int, Bd a 20 → Bd b 20 → Bd c 20 → a ≠ 0 → 0 ≤ b * b - 4 * a * c → b * b - 4 * a * c ≤ 4000 → Q (.val (.tup [.int a, .int b, .int c]))) :
    Lw.t_law_saddle_3 N Q B C X [.val (.int x), .val (.int y), .val (.int z), .val (.int o), .val (.int size), s5, s6, s7, s8, s9, s10] := by
  dsimp only [Lw.t_law_saddle_3, dSeq, dUnpL, lstOf_l, dCut, dSet, dSetV, dUnp, dPar, dDrop, dRet, dRetOwn, dRetN, dIf, dPass, dNext, dNever, dBreak, dCont, dFrz, frz, dTry, dRaise, isx_n, isx_o, dMeth, meth_b, meth_s, fld0b, fld0s, fld1b, fld1s, gr2, ws2, iso_bb, iso_bs, iso_ba, iso_sb, iso_ss, iso_sa, mk_obj, xf0, xf1, plain_o, dApp, dAug, setAll, dC, dVar, dView, dViewT, view, dOp, dUn, dAs, dNil, dCons, dAnd, dOr, dNot, dIte, dTup, dLst, dCall, dChain, two_t, two_f, cB, oIsi, oIsN, oNotN, dYes, dEach, dNoPart, dPart, dSl, use_val, use_own, use_ownd, bool_val, view_val, view_own, view_ownd, view_un, imm_val, imm_own, add_ii, add_ll, sub_ii, mul_ii, div_ii, mod_ii, pow_ii, shl_ii, cmp_ii, neg_i, isB_bb, notB_bb, len_t, len_l, abs_i, max_ii, min_ii, int_i, int_b, divmod_ii, isInt_i, isInt_t, isInt_n, isInt_b, isBool_i, isBool_b, isTuple_t, isTuple_i, isTuple_n, isList_l, isList_t, isStr_s, plain_i, plain_t, plain_l, plain_b, plain_n, plain_s, isNone_i, isNone_t, isNone_n, immI, immB, immN, immS, immT, immL_cons, immL_nil, told_val, getD_some, tupOf_t, given_own, given_ownd, items_l, items_t, owned_own, datum_val, asInt_i, asLst_l, slotAt, bEq_int, bNe_int, ix0, ix1, ix2, ix3, iy0, iy1, iy2, iy3, opt_some, map_c, map_n, vmap_c, vmap_n, app_c, app_n, rep_s, rep_z, get_z, get_s, set_z, set_s, leng_c, leng_n, Nat.reduceSub, Nat.reduceAdd, not_t, not_f, Int.reduceToNat, Int.reducePow]
  have h1 := fm (x.fdiv 80) (y := size) (by omega)
  generalize hm : 1 + (x.fdiv 80).fmod size = m
  have h2 := fm y (y := 2 * m) (by omega)
  generalize y.fmod (2 * m) = b at *
  have h3 := fm (b * b) (y := 4 * m) (by omega)
  have e3 := Int.mul_fdiv_add_fmod (b * b) (4 * m)
  generalize (b * b).fmod (4 * m) = rest at *
  generalize (b * b).fdiv (4 * m) = q at *
  have hmm : 1 ≤ m ∧ m ≤ size := by omega
  clear hm
  have hz : size = 400 ∨ size = 12 := by omega
  obtain ⟨most, hmost, g1, g2, g3⟩ : ∃ most, Int.fdiv 4000 (o * o) = most ∧ o * o * most ≤ 4000 ∧ rest ≤ most ∧ most ≤ 4000 := by
    have : o = 1 ∨ ((o = 2 ∨ o = 3 ∨ o = 4 ∨ o = 5 ∨ o = 6) ∧ size = 12) := by omega
    rcases this with rfl | ⟨rfl | rfl | rfl | rfl | rfl, hsz⟩
    · exact ⟨4000, rfl, by decide, by omega, by decide⟩
    · exact ⟨1000, rfl, by decide, by omega, by decide⟩
    · exact ⟨444, rfl, by decide, by omega, by decide⟩
    · exact ⟨250, rfl, by decide, by omega, by decide⟩
    · exact ⟨160, rfl, by decide, by omega, by decide⟩
    · exact ⟨111, rfl, by decide, by omega, by decide⟩
  rw [hmost]
  have h4 := fdiv_nonneg (n := most - rest) (x := 4 * m) (by omega) (by omega)
  have e4 := Int.mul_fdiv_add_fmod (most - rest) (4 * m)
  have h5 := fm (most - rest) (y := 4 * m) (by omega)
  generalize (most - rest).fmod (4 * m) = u at *
  generalize (most - rest).fdiv (4 * m) = top at *
  have h6 := fm z (y := 1 + top) (by omega)
  generalize z.fmod (1 + top) = w at *
  have h7 : 4 * m * w ≤ 4 * m * top := Int.mul_le_mul_of_nonneg_left (by omega) (by omega)
  have h8 : 0 ≤ 4 * m * w := Int.mul_nonneg (by omega) (by omega)
  have e5 : b * b - (rest + 4 * m * w) = 4 * m * (q - w) := by rw [Int.mul_sub]; omega
  rw [e5, Int.mul_fdiv_cancel_left _ (by omega)]
  have h9 := fm x (y := 2) (by decide)
  have hg : (1 - 2 * x.fmod 2) * (1 - 2 * x.fmod 2) = 1 := by
    have : x.fmod 2 = 0 ∨ x.fmod 2 = 1 := by omega
    rcases this with e | e <;> rw [e] <;> rfl
  have bg : Bd (1 - 2 * x.fmod 2) 1 := ⟨by omega⟩
  have hg0 : 1 - 2 * x.fmod 2 ≠ 0 := by omega
  generalize 1 - 2 * x.fmod 2 = g at *
  have bo : Bd o 3 := ⟨by omega⟩
  have bm : Bd m 9 := ⟨by omega⟩
  have bb : Bd b 10 := ⟨by omega⟩
  have hq : 0 ≤ q ∧ q ≤ 800 := by
    have k1 : b * b ≤ 2 * m * b := Int.mul_le_mul_of_nonneg_right (by omega) h2.1
    have k2 : 2 * m * b ≤ 2 * m * (2 * m) := Int.mul_le_mul_of_nonneg_left (by omega) (by omega)
    have k3 := sq_nonneg b
    constructor
    · rcases Int.lt_or_le q 0 with k | k
      · have : 4 * m * q ≤ 4 * m * (-1) := Int.mul_le_mul_of_nonneg_left (by omega) (by omega)
        omega
      · exact k
    · rcases Int.lt_or_le m q with k | k
      · have : 4 * m * (m + 1) ≤ 4 * m * q := Int.mul_le_mul_of_nonneg_left (by omega) (by omega)
        have e9 : 2 * m * (2 * m) = 4 * m * m := by grind
        rw [Int.mul_add] at this
        omega
      · omega
  have hw : 0 ≤ w ∧ w ≤ 1000 := by
    refine ⟨h6.1, ?_⟩
    have : 4 * 1 * w ≤ 4 * m * w := Int.mul_le_mul_of_nonneg_right (by omega) h6.1
    omega
  have bw : Bd w 11 := ⟨by omega⟩
  have bqw : Bd (q - w) 11 := ⟨by omega⟩
  have b4m : Bd (4 * m) 12 := bd_mul bd4 bm
  have bog : Bd (o * g) 4 := bd_mul bo bg
  have e6 : (o * b) * (o * b) - 4 * (o * g * m) * (o * g * (q - w)) = o * o * (rest + 4 * m * w) := by
    have : (o * b) * (o * b) - 4 * (o * g * m) * (o * g * (q - w)) = o * o * (b * b - (g * g) * (4 * m * (q - w))) := by clear hQ; grind
    rw [this, hg, Int.one_mul, ← e5]
    congr 1; omega
  have h10 : 0 ≤ o * o * (rest + 4 * m * w) := Int.mul_nonneg (Int.mul_nonneg (by omega) (by omega)) (by omega)
  have h11 : o * o * (rest + 4 * m * w) ≤ o * o * most := Int.mul_le_mul_of_nonneg_left (by omega) (Int.mul_nonneg (by omega) (by omega))
  refine ⟨divLit (by decide), by omega, szL (by decide), by omega, szB bb bb (by decide), szL (by decide), by omega, szB bo bo (by decide), @divBd _ _ _ (bd_mul bo bo) (fun e => by rcases Int.mul_eq_zero.mp e with e | e <;> omega) (by decide), szL (by decide), szL (by decide), @divBd _ _ _ b4m (by omega) (by decide), by omega, szB b4m bw (by decide), by decide, szL (by decide), szB bo bg (by decide), szB bog bm (by decide), szB bo bb (by decide), szB bb bb (by decide), szL (by decide), @divBd _ _ _ b4m (by omega) (by decide), szB bog bqw (by decide), ?_⟩
  refine hQ _ _ _ (bd_up _ (bd_mul bog bm)) (bd_up _ (bd_mul bo bb)) (bd_up _ (bd_mul bog bqw)) ?_ (by rw [e6]; exact h10) (by rw [e6]; omega)
  intro e
  rcases Int.mul_eq_zero.mp e with e | e
  · rcases Int.mul_eq_zero.mp e with e | e
    · omega
    · exact hg0 e
  · omega
theorem Lw.saddle_ok (x y z : Int) {Q : DK} {X : DX} (hQ : ∀ a b c : Int, Bd a 20 → Bd b 20 → Bd c 20 → a ≠ 0 → 0 ≤ b * b - 4 * a * c → b * b - 4 * a * c ≤ 4000 → Q (.val (.tup [.int a, .int b, .int c]))) : Lw.w_law_saddle [.int x, .int y, .int z] Q X := by
  refine fun_mk ?_
  dsimp only [Lw.t_law_saddle, ixL, dSeq, dUnpL, lstOf_l, dCut, dSet, dSetV, dUnp, dPar, dDrop, dRet, dRetOwn, dRetN, dIf, dPass, dNext, dNever, dBreak, dCont, dFrz, frz, dTry, dRaise, isx_n, isx_o, dMeth, meth_b, meth_s, fld0b, fld0s, fld1b, fld1s, gr2, ws2, iso_bb, iso_bs, iso_ba, iso_sb, iso_ss, iso_sa, mk_obj, xf0, xf1, plain_o, dApp, dAug, setAll, dC, dVar, dView, dViewT, view, dOp, dUn, dAs, dNil, dCons, dAnd, dOr, dNot, dIte, dTup, dLst, dCall, dChain, two_t, two_f, cB, oIsi, oIsN, oNotN, dYes, dEach, dNoPart, dPart, dSl, use_val, use_own, use_ownd, bool_val, view_val, view_own, view_ownd, view_un, imm_val, imm_own, add_ii, add_ll, sub_ii, mul_ii, div_ii, mod_ii, pow_ii, shl_ii, cmp_ii, neg_i, isB_bb, notB_bb, len_t, len_l, abs_i, max_ii, min_ii, int_i, int_b, divmod_ii, isInt_i, isInt_t, isInt_n, isInt_b, isBool_i, isBool_b, isTuple_t, isTuple_i, isTuple_n, isList_l, isList_t, isStr_s, plain_i, plain_t, plain_l, plain_b, plain_n, plain_s, isNone_i, isNone_t, isNone_n, immI, immB, immN, immS, immT, immL_cons, immL_nil, told_val, getD_some, tupOf_t, given_own, given_ownd, items_l, items_t, owned_own, datum_val, asInt_i, asLst_l, slotAt, bEq_int, bNe_int, ix0, ix1, ix2, ix3, iy0, iy1, iy2, iy3, opt_some, map_c, map_n, vmap_c, vmap_n, app_c, app_n, rep_s, rep_z, get_z, get_s, set_z, set_s, leng_c, leng_n, Nat.reduceSub, Nat.reduceAdd, not_t, not_f, Int.reduceToNat, Int.reducePow]
  have h1 := fm (x.fdiv 8) (y := 5) (by decide)
  have h2 := fm (x.fdiv 2) (y := 4) (by decide)
  obtain ⟨o, ho, e⟩ : ∃ o : Int, (1 ≤ o ∧ o ≤ 6) ∧ ixI [.int 1, .int 1, .int 1, .int (2 + (x.fdiv 8).fmod 5)] ((x.fdiv 2).fmod 4) = some (.int o) := by
    have : (x.fdiv 2).fmod 4 = 0 ∨ (x.fdiv 2).fmod 4 = 1 ∨ (x.fdiv 2).fmod 4 = 2 ∨ (x.fdiv 2).fmod 4 = 3 := by omega
    rcases this with e | e | e | e <;> rw [e]
    · exact ⟨1, by decide, rfl⟩
    · exact ⟨1, by decide, rfl⟩
    · exact ⟨1, by decide, rfl⟩
    · exact ⟨_, by omega, rfl⟩
  refine ⟨rfl, divLit (by decide), by decide, divLit (by decide), by decide, opt_at e ?_⟩
  try dsimp only [dSeq, dUnpL, lstOf_l, dCut, dSet, dSetV, dUnp, dPar, dDrop, dRet, dRetOwn, dRetN, dIf, dPass, dNext, dNever, dBreak, dCont, dFrz, frz, dTry, dRaise, isx_n, isx_o, dMeth, meth_b, meth_s, fld0b, fld0s, fld1b, fld1s, gr2, ws2, iso_bb, iso_bs, iso_ba, iso_sb, iso_ss, iso_sa, mk_obj, xf0, xf1, plain_o, dApp, dAug, setAll, dC, dVar, dView, dViewT, view, dOp, dUn, dAs, dNil, dCons, dAnd, dOr, dNot, dIte, dTup, dLst, dCall, dChain, two_t, two_f, cB, oIsi, oIsN, oNotN, dYes, dEach, dNoPart, dPart, dSl, use_val, use_own, use_ownd, bool_val, view_val, view_own, view_ownd, view_un, imm_val, imm_own, add_ii, add_ll, sub_ii, mul_ii, div_ii, mod_ii, pow_ii, shl_ii, cmp_ii, neg_i, isB_bb, notB_bb, len_t, len_l, abs_i, max_ii, min_ii, int_i, int_b, divmod_ii, isInt_i, isInt_t, isInt_n, isInt_b, isBool_i, isBool_b, isTuple_t, isTuple_i, isTuple_n, isList_l, isList_t, isStr_s, plain_i, plain_t, plain_l, plain_b, plain_n, plain_s, isNone_i, isNone_t, isNone_n, immI, immB, immN, immS, immT, immL_cons, immL_nil, told_val, getD_some, tupOf_t, given_own, given_ownd, items_l, items_t, owned_own, datum_val, asInt_i, asLst_l, slotAt, bEq_int, bNe_int, ix0, ix1, ix2, ix3, iy0, iy1, iy2, iy3, opt_some, map_c, map_n, vmap_c, vmap_n, app_c, app_n, rep_s, rep_z, get_z, get_s, set_z, set_s, leng_c, leng_n, Nat.reduceSub, Nat.reduceAdd, not_t, not_f, Int.reduceToNat, Int.reducePow]
  refine two_d (fun h1 => ?_) fun h1 => ⟨divLit (by decide), by decide, ?_⟩
  · exact Lw.saddle_3 x y z o 12 (by omega) (by omega) _ _ _ _ _ _ _ _ _ _ _ hQ
  · by_cases h3 : (x.fdiv 40).fmod 2 = 1
    · rw [decide_eq_true h3]
      exact Lw.saddle_3 x y z o 12 (by omega) (by omega) _ _ _ _ _ _ _ _ _ _ _ hQ
    · rw [decide_eq_false h3]
      exact Lw.saddle_3 x y z o 400 (by omega) (by omega) _ _ _ _ _ _ _ _ _ _ _ hQ
theorem Lw.bar_ok {a b c : Int} (f : Form 300 a b c) {Q : DK} {X : DX} (h : Q (.val (.int (b * b - 4 * a * c)))) : Lw.w_law_bar [.tup [.int a, .int b, .int c]] Q X := by
  refine fun_mk ?_
  dsimp only [Lw.t_law_bar, dSeq, dUnpL, lstOf_l, dCut, dSet, dSetV, dUnp, dPar, dDrop, dRet, dRetOwn, dRetN, dIf, dPass, dNext, dNever, dBreak, dCont, dFrz, frz, dTry, dRaise, isx_n, isx_o, dMeth, meth_b, meth_s, fld0b, fld0s, fld1b, fld1s, gr2, ws2, iso_bb, iso_bs, iso_ba, iso_sb, iso_ss, iso_sa, mk_obj, xf0, xf1, plain_o, dApp, dAug, setAll, dC, dVar, dView, dViewT, view, dOp, dUn, dAs, dNil, dCons, dAnd, dOr, dNot, dIte, dTup, dLst, dCall, dChain, two_t, two_f, cB, oIsi, oIsN, oNotN, dYes, dEach, dNoPart, dPart, dSl, use_val, use_own, use_ownd, bool_val, view_val, view_own, view_ownd, view_un, imm_val, imm_own, add_ii, add_ll, sub_ii, mul_ii, div_ii, mod_ii, pow_ii, shl_ii, cmp_ii, neg_i, isB_bb, notB_bb, len_t, len_l, abs_i, max_ii, min_ii, int_i, int_b, divmod_ii, isInt_i, isInt_t, isInt_n, isInt_b, isBool_i, isBool_b, isTuple_t, isTuple_i, isTuple_n, isList_l, isList_t, isStr_s, plain_i, plain_t, plain_l, plain_b, plain_n, plain_s, isNone_i, isNone_t, isNone_n, immI, immB, immN, immS, immT, immL_cons, immL_nil, told_val, getD_some, tupOf_t, given_own, given_ownd, items_l, items_t, owned_own, datum_val, asInt_i, asLst_l, slotAt, bEq_int, bNe_int, ix0, ix1, ix2, ix3, iy0, iy1, iy2, iy3, opt_some, map_c, map_n, vmap_c, vmap_n, app_c, app_n, rep_s, rep_z, get_z, get_s, set_z, set_s, leng_c, leng_n, Nat.reduceSub, Nat.reduceAdd, not_t, not_f, Int.reduceToNat, Int.reducePow]
  exact ⟨rfl, szB f.bb f.bb (by decide), szL (by decide), szB (bd_mul bd4 f.ba) f.bc (by decide), h⟩
theorem Lw.root_ok {n : Int} (h0 : 0 ≤ n) (h1 : n ≤ 4000) {Q : DK} {X : DX} (h : ∀ r, IsRoot n r → Q (.val (.int r))) : Lw.w_law_root [.int n] Q X := by
  refine fun_mk ?_
  dsimp only [Lw.t_law_root, oBits, dSeq, dUnpL, lstOf_l, dCut, dSet, dSetV, dUnp, dPar, dDrop, dRet, dRetOwn, dRetN, dIf, dPass, dNext, dNever, dBreak, dCont, dFrz, frz, dTry, dRaise, isx_n, isx_o, dMeth, meth_b, meth_s, fld0b, fld0s, fld1b, fld1s, gr2, ws2, iso_bb, iso_bs, iso_ba, iso_sb, iso_ss, iso_sa, mk_obj, xf0, xf1, plain_o, dApp, dAug, setAll, dC, dVar, dView, dViewT, view, dOp, dUn, dAs, dNil, dCons, dAnd, dOr, dNot, dIte, dTup, dLst, dCall, dChain, two_t, two_f, cB, oIsi, oIsN, oNotN, dYes, dEach, dNoPart, dPart, dSl, use_val, use_own, use_ownd, bool_val, view_val, view_own, view_ownd, view_un, imm_val, imm_own, add_ii, add_ll, sub_ii, mul_ii, div_ii, mod_ii, pow_ii, shl_ii, cmp_ii, neg_i, isB_bb, notB_bb, len_t, len_l, abs_i, max_ii, min_ii, int_i, int_b, divmod_ii, isInt_i, isInt_t, isInt_n, isInt_b, isBool_i, isBool_b, isTuple_t, isTuple_i, isTuple_n, isList_l, isList_t, isStr_s, plain_i, plain_t, plain_l, plain_b, plain_n, plain_s, isNone_i, isNone_t, isNone_n, immI, immB, immN, immS, immT, immL_cons, immL_nil, told_val, getD_some, tupOf_t, given_own, given_ownd, items_l, items_t, owned_own, datum_val, asInt_i, asLst_l, slotAt, bEq_int, bNe_int, ix0, ix1, ix2, ix3, iy0, iy1, iy2, iy3, opt_some, map_c, map_n, vmap_c, vmap_n, app_c, app_n, rep_s, rep_z, get_z, get_s, set_z, set_s, leng_c, leng_n, Nat.reduceSub, Nat.reduceAdd, not_t, not_f, Int.reduceToNat, Int.reducePow]
  have bn : Bd n 12 := ⟨by omega⟩
  have hb := bits_le bn
  have hc : 0 ≤ ((bits n : Int) + 1).fdiv 2 := fdiv_nonneg (by omega) (by decide)
  have hd : ((bits n : Int) + 1).fdiv 2 ≤ (bits n : Int) + 1 := by
    have := Int.mul_fdiv_add_fmod ((bits n : Int) + 1) 2
    have := Int.fmod_nonneg_of_pos ((bits n : Int) + 1) (show (0 : Int) < 2 by decide)
    omega
  refine ⟨rfl, divLit (by decide), ⟨hc, ?_⟩, ?_⟩
  · have : (bits 1 : Int) = 1 := by decide
    omega
  have bx0 : Bd (1 * (2 : Int) ^ (((bits n : Int) + 1).fdiv 2).toNat) 20 := by
    have e : 1 * (2 : Int) ^ (((bits n : Int) + 1).fdiv 2).toNat = ((2 ^ (((bits n : Int) + 1).fdiv 2).toNat : Nat) : Int) := by rw [Int.one_mul, Int.natCast_pow]; rfl
    rw [e]
    exact ⟨by
      rw [Int.natAbs_natCast]
      exact Nat.pow_lt_pow_right (by decide) (by omega)⟩
  have start : (1 ≤ n → 1 ≤ 1 * (2 : Int) ^ (((bits n : Int) + 1).fdiv 2).toNat ∧ n < (1 * (2 : Int) ^ (((bits n : Int) + 1).fdiv 2).toNat + 1) * (1 * (2 : Int) ^ (((bits n : Int) + 1).fdiv 2).toNat + 1)) ∧ (n = 0 → 1 * (2 : Int) ^ (((bits n : Int) + 1).fdiv 2).toNat = 1) := ⟨fun h => newton0 (by omega), fun e => by subst e; decide⟩
  generalize 1 * (2 : Int) ^ (((bits n : Int) + 1).fdiv 2).toNat = x0 at *
  refine while_g (fun e m => ∃ (x : Int), e = [.val (.int n), .val (.int x)] ∧ ((1 ≤ n ∧ 1 ≤ x ∧ n < (x + 1) * (x + 1)) ∨ (n = 0 ∧ (x = 1 ∨ x = 0))) ∧ Bd x 20 ∧ m = x.toNat) x0.toNat ⟨x0, rfl, by omega, bx0, rfl⟩ ?_
  rintro e m G ⟨x, rfl, k, bx, rfl⟩ ih
  try dsimp only [dSeq, dUnpL, lstOf_l, dCut, dSet, dSetV, dUnp, dPar, dDrop, dRet, dRetOwn, dRetN, dIf, dPass, dNext, dNever, dBreak, dCont, dFrz, frz, dTry, dRaise, isx_n, isx_o, dMeth, meth_b, meth_s, fld0b, fld0s, fld1b, fld1s, gr2, ws2, iso_bb, iso_bs, iso_ba, iso_sb, iso_ss, iso_sa, mk_obj, xf0, xf1, plain_o, dApp, dAug, setAll, dC, dVar, dView, dViewT, view, dOp, dUn, dAs, dNil, dCons, dAnd, dOr, dNot, dIte, dTup, dLst, dCall, dChain, two_t, two_f, cB, oIsi, oIsN, oNotN, dYes, dEach, dNoPart, dPart, dSl, use_val, use_own, use_ownd, bool_val, view_val, view_own, view_ownd, view_un, imm_val, imm_own, add_ii, add_ll, sub_ii, mul_ii, div_ii, mod_ii, pow_ii, shl_ii, cmp_ii, neg_i, isB_bb, notB_bb, len_t, len_l, abs_i, max_ii, min_ii, int_i, int_b, divmod_ii, isInt_i, isInt_t, isInt_n, isInt_b, isBool_i, isBool_b, isTuple_t, isTuple_i, isTuple_n, isList_l, isList_t, isStr_s, plain_i, plain_t, plain_l, plain_b, plain_n, plain_s, isNone_i, isNone_t, isNone_n, immI, immB, immN, immS, immT, immL_cons, immL_nil, told_val, getD_some, tupOf_t, given_own, given_ownd, items_l, items_t, owned_own, datum_val, asInt_i, asLst_l, slotAt, bEq_int, bNe_int, ix0, ix1, ix2, ix3, iy0, iy1, iy2, iy3, opt_some, map_c, map_n, vmap_c, vmap_n, app_c, app_n, rep_s, rep_z, get_z, get_s, set_z, set_s, leng_c, leng_n, Nat.reduceSub, Nat.reduceAdd, not_t, not_f, Int.reduceToNat, Int.reducePow]
  rcases k with ⟨hn, k1, k2⟩ | ⟨rfl, rfl | rfl⟩
  · refine ⟨szB bx bx (by decide), two_d (fun hgt => ?_) fun hle => h _ ⟨by omega, by omega, k2⟩⟩
    obtain ⟨k3, k4⟩ := newton1 hn k1
    have hdn := newton_down k1 hgt
    exact ⟨@divBd2 n x 12 bn (by omega) (by decide), divLit (by decide), ih _ _ (by omega) ⟨_, rfl, .inl ⟨hn, k3, k4⟩, bd_abs bx (by omega), rfl⟩⟩
  · refine ⟨szL (by decide), two_d (fun _ => ⟨divLit (by decide), divLit (by decide), ih _ _ (by decide) ⟨_, rfl, .inr ⟨rfl, .inr (by decide)⟩, bd_up _ (bd_at 1 (by decide)), rfl⟩⟩) fun n => absurd (by decide) n⟩
  · exact ⟨szL (by decide), two_q (by decide) (h 0 ⟨by decide, by decide, by decide⟩)⟩
theorem Lw.flat_ok {a b c : Int} (f : Form 300 a b c) (h0 : 0 ≤ b * b - 4 * a * c) (h1 : b * b - 4 * a * c ≤ 4000) {Q : DK} {X : DX} (hT : Q (.val (.bl true))) (hF : ¬ Sq (b * b - 4 * a * c) → Q (.val (.bl false))) : Lw.w_law_flat [.tup [.int a, .int b, .int c]] Q X := by
  refine fun_mk ?_
  dsimp only [Lw.t_law_flat, dSeq, dUnpL, lstOf_l, dCut, dSet, dSetV, dUnp, dPar, dDrop, dRet, dRetOwn, dRetN, dIf, dPass, dNext, dNever, dBreak, dCont, dFrz, frz, dTry, dRaise, isx_n, isx_o, dMeth, meth_b, meth_s, fld0b, fld0s, fld1b, fld1s, gr2, ws2, iso_bb, iso_bs, iso_ba, iso_sb, iso_ss, iso_sa, mk_obj, xf0, xf1, plain_o, dApp, dAug, setAll, dC, dVar, dView, dViewT, view, dOp, dUn, dAs, dNil, dCons, dAnd, dOr, dNot, dIte, dTup, dLst, dCall, dChain, two_t, two_f, cB, oIsi, oIsN, oNotN, dYes, dEach, dNoPart, dPart, dSl, use_val, use_own, use_ownd, bool_val, view_val, view_own, view_ownd, view_un, imm_val, imm_own, add_ii, add_ll, sub_ii, mul_ii, div_ii, mod_ii, pow_ii, shl_ii, cmp_ii, neg_i, isB_bb, notB_bb, len_t, len_l, abs_i, max_ii, min_ii, int_i, int_b, divmod_ii, isInt_i, isInt_t, isInt_n, isInt_b, isBool_i, isBool_b, isTuple_t, isTuple_i, isTuple_n, isList_l, isList_t, isStr_s, plain_i, plain_t, plain_l, plain_b, plain_n, plain_s, isNone_i, isNone_t, isNone_n, immI, immB, immN, immS, immT, immL_cons, immL_nil, told_val, getD_some, tupOf_t, given_own, given_ownd, items_l, items_t, owned_own, datum_val, asInt_i, asLst_l, slotAt, bEq_int, bNe_int, ix0, ix1, ix2, ix3, iy0, iy1, iy2, iy3, opt_some, map_c, map_n, vmap_c, vmap_n, app_c, app_n, rep_s, rep_z, get_z, get_s, set_z, set_s, leng_c, leng_n, Nat.reduceSub, Nat.reduceAdd, not_t, not_f, Int.reduceToNat, Int.reducePow]
  refine ⟨rfl, Lw.bar_ok f ?_⟩
  try dsimp only [dSeq, dUnpL, lstOf_l, dCut, dSet, dSetV, dUnp, dPar, dDrop, dRet, dRetOwn, dRetN, dIf, dPass, dNext, dNever, dBreak, dCont, dFrz, frz, dTry, dRaise, isx_n, isx_o, dMeth, meth_b, meth_s, fld0b, fld0s, fld1b, fld1s, gr2, ws2, iso_bb, iso_bs, iso_ba, iso_sb, iso_ss, iso_sa, mk_obj, xf0, xf1, plain_o, dApp, dAug, setAll, dC, dVar, dView, dViewT, view, dOp, dUn, dAs, dNil, dCons, dAnd, dOr, dNot, dIte, dTup, dLst, dCall, dChain, two_t, two_f, cB, oIsi, oIsN, oNotN, dYes, dEach, dNoPart, dPart, dSl, use_val, use_own, use_ownd, bool_val, view_val, view_own, view_ownd, view_un, imm_val, imm_own, add_ii, add_ll, sub_ii, mul_ii, div_ii, mod_ii, pow_ii, shl_ii, cmp_ii, neg_i, isB_bb, notB_bb, len_t, len_l, abs_i, max_ii, min_ii, int_i, int_b, divmod_ii, isInt_i, isInt_t, isInt_n, isInt_b, isBool_i, isBool_b, isTuple_t, isTuple_i, isTuple_n, isList_l, isList_t, isStr_s, plain_i, plain_t, plain_l, plain_b, plain_n, plain_s, isNone_i, isNone_t, isNone_n, immI, immB, immN, immS, immT, immL_cons, immL_nil, told_val, getD_some, tupOf_t, given_own, given_ownd, items_l, items_t, owned_own, datum_val, asInt_i, asLst_l, slotAt, bEq_int, bNe_int, ix0, ix1, ix2, ix3, iy0, iy1, iy2, iy3, opt_some, map_c, map_n, vmap_c, vmap_n, app_c, app_n, rep_s, rep_z, get_z, get_s, set_z, set_s, leng_c, leng_n, Nat.reduceSub, Nat.reduceAdd, not_t, not_f, Int.reduceToNat, Int.reducePow]
  refine Lw.root_ok h0 h1 fun r hr => ?_
  try dsimp only [dSeq, dUnpL, lstOf_l, dCut, dSet, dSetV, dUnp, dPar, dDrop, dRet, dRetOwn, dRetN, dIf, dPass, dNext, dNever, dBreak, dCont, dFrz, frz, dTry, dRaise, isx_n, isx_o, dMeth, meth_b, meth_s, fld0b, fld0s, fld1b, fld1s, gr2, ws2, iso_bb, iso_bs, iso_ba, iso_sb, iso_ss, iso_sa, mk_obj, xf0, xf1, plain_o, dApp, dAug, setAll, dC, dVar, dView, dViewT, view, dOp, dUn, dAs, dNil, dCons, dAnd, dOr, dNot, dIte, dTup, dLst, dCall, dChain, two_t, two_f, cB, oIsi, oIsN, oNotN, dYes, dEach, dNoPart, dPart, dSl, use_val, use_own, use_ownd, bool_val, view_val, view_own, view_ownd, view_un, imm_val, imm_own, add_ii, add_ll, sub_ii, mul_ii, div_ii, mod_ii, pow_ii, shl_ii, cmp_ii, neg_i, isB_bb, notB_bb, len_t, len_l, abs_i, max_ii, min_ii, int_i, int_b, divmod_ii, isInt_i, isInt_t, isInt_n, isInt_b, isBool_i, isBool_b, isTuple_t, isTuple_i, isTuple_n, isList_l, isList_t, isStr_s, plain_i, plain_t, plain_l, plain_b, plain_n, plain_s, isNone_i, isNone_t, isNone_n, immI, immB, immN, immS, immT, immL_cons, immL_nil, told_val, getD_some, tupOf_t, given_own, given_ownd, items_l, items_t, owned_own, datum_val, asInt_i, asLst_l, slotAt, bEq_int, bNe_int, ix0, ix1, ix2, ix3, iy0, iy1, iy2, iy3, opt_some, map_c, map_n, vmap_c, vmap_n, app_c, app_n, rep_s, rep_z, get_z, get_s, set_z, set_s, leng_c, leng_n, Nat.reduceSub, Nat.reduceAdd, not_t, not_f, Int.reduceToNat, Int.reducePow]
  have hi := sq_iff hr.1 hr.2.1 hr.2.2
  have br : Bd r 20 := ⟨by
    have h5 : r ≤ r * r := by
      rcases Int.lt_or_le 0 r with g | g
      · have := Int.mul_le_mul_of_nonneg_left (show 1 ≤ r by omega) hr.1
        omega
      · have : r = 0 := by have := hr.1; omega
        subst this; decide
    have := hr.1
    have := hr.2.1
    omega⟩
  refine ⟨szB br br (by decide), ?_⟩
  by_cases e : r * r = b * b - 4 * a * c
  · rw [decide_eq_true e]; exact hT
  · rw [decide_eq_false e]; exact hF fun s => e (of_decide_eq_true (hi.mpr s))
theorem Lw.level_ok {a b c far : Int} {Q : DK} {X : DX} (h : Q (.val (.bl (decide (Level a b far))))) : Lw.w_law_level [.tup [.int a, .int b, .int c], .int far] Q X := by
  refine fun_mk ?_
  dsimp only [Lw.t_law_level, dSeq, dUnpL, lstOf_l, dCut, dSet, dSetV, dUnp, dPar, dDrop, dRet, dRetOwn, dRetN, dIf, dPass, dNext, dNever, dBreak, dCont, dFrz, frz, dTry, dRaise, isx_n, isx_o, dMeth, meth_b, meth_s, fld0b, fld0s, fld1b, fld1s, gr2, ws2, iso_bb, iso_bs, iso_ba, iso_sb, iso_ss, iso_sa, mk_obj, xf0, xf1, plain_o, dApp, dAug, setAll, dC, dVar, dView, dViewT, view, dOp, dUn, dAs, dNil, dCons, dAnd, dOr, dNot, dIte, dTup, dLst, dCall, dChain, two_t, two_f, cB, oIsi, oIsN, oNotN, dYes, dEach, dNoPart, dPart, dSl, use_val, use_own, use_ownd, bool_val, view_val, view_own, view_ownd, view_un, imm_val, imm_own, add_ii, add_ll, sub_ii, mul_ii, div_ii, mod_ii, pow_ii, shl_ii, cmp_ii, neg_i, isB_bb, notB_bb, len_t, len_l, abs_i, max_ii, min_ii, int_i, int_b, divmod_ii, isInt_i, isInt_t, isInt_n, isInt_b, isBool_i, isBool_b, isTuple_t, isTuple_i, isTuple_n, isList_l, isList_t, isStr_s, plain_i, plain_t, plain_l, plain_b, plain_n, plain_s, isNone_i, isNone_t, isNone_n, immI, immB, immN, immS, immT, immL_cons, immL_nil, told_val, getD_some, tupOf_t, given_own, given_ownd, items_l, items_t, owned_own, datum_val, asInt_i, asLst_l, slotAt, bEq_int, bNe_int, ix0, ix1, ix2, ix3, iy0, iy1, iy2, iy3, opt_some, map_c, map_n, vmap_c, vmap_n, app_c, app_n, rep_s, rep_z, get_z, get_s, set_z, set_s, leng_c, leng_n, Nat.reduceSub, Nat.reduceAdd, not_t, not_f, Int.reduceToNat, Int.reducePow]
  exact ⟨rfl, two_level (szL (by decide)) (Q := fun b => Q (.val (.bl b))) h⟩

/-- how many steps are left at most -/
def easeLeft (a b c far : Int) : Nat := if Level a b far then 0 else if 2 * (c.natAbs : Int) ≤ far then 1 else if (c.natAbs : Int) ≤ far then 2 else 2 + bits c
theorem bits_half {c d : Int} (hc : c ≠ 0) (h : 2 * (d.natAbs : Int) ≤ (c.natAbs : Int)) : bits d + 1 ≤ bits c := by
  have b1 : Bd c (bits c) := bd_of_bits (Nat.le_refl _)
  have h1 := b1.h
  obtain ⟨m, hm⟩ : ∃ m, bits c = m + 1 := by
    cases e : bits c with
    | zero => rw [e] at h1; simp at h1; exact absurd h1 hc
    | succ m => exact ⟨m, rfl⟩
  rw [hm] at h1 ⊢
  rw [Nat.pow_succ] at h1
  have : bits d ≤ m := bits_le ⟨by omega⟩
  omega
theorem easeLeft_le (a b c far : Int) : easeLeft a b c far ≤ 2 + bits c ∧ (2 * (c.natAbs : Int) ≤ far → easeLeft a b c far ≤ 1) := by
  unfold easeLeft
  refine ⟨?_, fun h => ?_⟩
  · split
    · omega
    · split
      · omega
      · split <;> omega
  · split
    · omega
    · exact Nat.le_refl _
/-- one step onward -/
theorem ease_step {a b c far d k D : Int} {N : Nat} (f : Form N a b c) (hN : 12 ≤ N) (hD : b * b - 4 * a * c = D) (hD4 : D ≤ 4000) (hr : IsRoot D far) (hc : c ≠ 0) (hnl : ¬ Level a b far)
    (h1 : (if (c.natAbs : Int) > far then (c.natAbs : Int) else far) - 2 * (c.natAbs : Int) < d) (h2 : d ≤ (if (c.natAbs : Int) > far then (c.natAbs : Int) else far)) (hk : b + d = 2 * c * k) :
    vf a b c 0 1 = c ∧ mf a b c 0 (-1) 1 k = d ∧ Form N c d (vf a b c (-1) k) ∧ easeLeft c d (vf a b c (-1) k) far < easeLeft a b c far := by
  have e1 : vf a b c 0 1 = c := by unfold vf; grind
  have e2 : mf a b c 0 (-1) 1 k = d := by unfold mf; grind
  have e3 : d * d - 4 * c * vf a b c (-1) k = D := by
    have := measure_moved a b c 0 (-1) 1 k (by omega)
    rw [e1, e2] at this
    omega
  obtain ⟨r0, r1, r2⟩ := hr
  have hp : (2 : Nat) ^ 12 ≤ 2 ^ N := Nat.pow_le_pow_right (by decide) hN
  have far63 : far ≤ 63 := by
    rcases Int.lt_or_le 63 far with g | g
    · have : 64 * 64 ≤ far * far := Int.mul_le_mul (by omega) (by omega) (by decide) (by omega)
      omega
    · exact g
  have hcb := f.bc.h
  generalize vf a b c (-1) k = c1 at *
  -- the product of the two
  have hprod : 4 * ((c.natAbs : Int) * (c1.natAbs : Int)) = ((d * d - D).natAbs : Int) := by
    have : d * d - D = 4 * (c * c1) := by
      have : 4 * c * c1 = 4 * (c * c1) := Int.mul_assoc ..
      omega
    rw [this, Int.natAbs_mul, Int.natAbs_mul, Int.natCast_mul, Int.natCast_mul]; rfl
  refine ⟨e1, e2, ?_⟩
  by_cases hcf : (c.natAbs : Int) > far
  · rw [if_pos hcf] at h1 h2
    have k1 : d * d ≤ (c.natAbs : Int) * c.natAbs := by
      have : 0 ≤ ((c.natAbs : Int) - d) * (c.natAbs + d) := Int.mul_nonneg (by omega) (by omega)
      grind
    have k2 : (far + 1) * (far + 1) ≤ (c.natAbs : Int) * c.natAbs := Int.mul_le_mul (by omega) (by omega) (by omega) (by omega)
    have k0 := sq_nonneg d
    have hD0 : 0 ≤ D := by have := sq_nonneg far; omega
    have k3 : ((d * d - D).natAbs : Int) ≤ (c.natAbs : Int) * c.natAbs := by omega
    have k4 : 4 * (c1.natAbs : Int) ≤ (c.natAbs : Int) := by
      rcases Int.lt_or_le (c.natAbs : Int) (4 * (c1.natAbs : Int)) with g | g
      · have : (c.natAbs : Int) * (c.natAbs + 1) ≤ (c.natAbs : Int) * (4 * (c1.natAbs : Int)) := Int.mul_le_mul_of_nonneg_left (by omega) (by omega)
        have e9 : (c.natAbs : Int) * (4 * (c1.natAbs : Int)) = 4 * ((c.natAbs : Int) * c1.natAbs) := by grind
        rw [Int.mul_add] at this
        omega
      · exact g
    refine ⟨⟨f.bc, ⟨by omega⟩, ⟨by omega⟩⟩, ?_⟩
    have kb := bits_half hc (d := c1) (by omega)
    have u1 := (easeLeft_le c d c1 far).1
    have u2 : easeLeft a b c far = 2 + bits c := by
      unfold easeLeft
      rw [if_neg hnl, if_neg (by omega), if_neg (by omega)]
    omega
  · rw [if_neg hcf] at h1 h2
    have k1 : d * d ≤ far * far := by
      have : 0 ≤ (far - d) * (far + d) := Int.mul_nonneg (by omega) (by omega)
      grind
    have k0 := sq_nonneg d
    have hc1 : 1 ≤ (c.natAbs : Int) := by omega
    have k4 : 4 * (1 * (c1.natAbs : Int)) ≤ 4 * ((c.natAbs : Int) * c1.natAbs) := Int.mul_le_mul_of_nonneg_left (Int.mul_le_mul_of_nonneg_right hc1 (by omega)) (by decide)
    refine ⟨⟨f.bc, ⟨by omega⟩, ⟨by omega⟩⟩, ?_⟩
    by_cases h2c : 2 * (c.natAbs : Int) ≤ far
    · have lv : Level c d far := ⟨⟨by omega, by omega⟩, by omega, by omega⟩
      unfold easeLeft
      rw [if_pos lv, if_neg hnl, if_pos h2c]
      decide
    · have k5 : 2 * (c1.natAbs : Int) ≤ far := by
        rcases Int.lt_or_le far (2 * (c1.natAbs : Int)) with g | g
        · have : (far + 1) * (far + 1) ≤ (2 * (c.natAbs : Int)) * (2 * (c1.natAbs : Int)) := Int.mul_le_mul (by omega) (by omega) (by omega) (by omega)
          have e9 : (2 * (c.natAbs : Int)) * (2 * (c1.natAbs : Int)) = 4 * ((c.natAbs : Int) * c1.natAbs) := by grind
          omega
        · exact g
      have u1 := (easeLeft_le c d c1 far).2 k5
      have u2 : easeLeft a b c far = 2 := by
        unfold easeLeft
        rw [if_neg hnl, if_neg h2c, if_pos (by omega)]
      omega
theorem c_ne {a b c D : Int} (hD : b * b - 4 * a * c = D) (hs : ¬ Sq D) : c ≠ 0 := fun e => hs ⟨b, by subst e; omega⟩
theorem Pg.onward_ok {a b c far : Int} {N : Nat} (f : Form N a b c) (hN : 12 ≤ N) (hN2 : N ≤ 4000) (hc : c ≠ 0) (h0 : 0 ≤ far) (h1 : far ≤ 63) {Q : DK} {X : DX}
    (h : ∀ d k, (if (c.natAbs : Int) > far then (c.natAbs : Int) else far) - 2 * (c.natAbs : Int) < d → d ≤ (if (c.natAbs : Int) > far then (c.natAbs : Int) else far) → b + d = 2 * c * k → Bd k (N + 1) → Q (.val (.tup [.int 0, .int (-1), .int 1, .int k]))) : Pg.w_onward [.tup [.int a, .int b, .int c], .int far] Q X := by
  refine fun_mk ?_
  dsimp only [Pg.t_onward, dSeq, dUnpL, lstOf_l, dCut, dSet, dSetV, dUnp, dPar, dDrop, dRet, dRetOwn, dRetN, dIf, dPass, dNext, dNever, dBreak, dCont, dFrz, frz, dTry, dRaise, isx_n, isx_o, dMeth, meth_b, meth_s, fld0b, fld0s, fld1b, fld1s, gr2, ws2, iso_bb, iso_bs, iso_ba, iso_sb, iso_ss, iso_sa, mk_obj, xf0, xf1, plain_o, dApp, dAug, setAll, dC, dVar, dView, dViewT, view, dOp, dUn, dAs, dNil, dCons, dAnd, dOr, dNot, dIte, dTup, dLst, dCall, dChain, two_t, two_f, cB, oIsi, oIsN, oNotN, dYes, dEach, dNoPart, dPart, dSl, use_val, use_own, use_ownd, bool_val, view_val, view_own, view_ownd, view_un, imm_val, imm_own, add_ii, add_ll, sub_ii, mul_ii, div_ii, mod_ii, pow_ii, shl_ii, cmp_ii, neg_i, isB_bb, notB_bb, len_t, len_l, abs_i, max_ii, min_ii, int_i, int_b, divmod_ii, isInt_i, isInt_t, isInt_n, isInt_b, isBool_i, isBool_b, isTuple_t, isTuple_i, isTuple_n, isList_l, isList_t, isStr_s, plain_i, plain_t, plain_l, plain_b, plain_n, plain_s, isNone_i, isNone_t, isNone_n, immI, immB, immN, immS, immT, immL_cons, immL_nil, told_val, getD_some, tupOf_t, given_own, given_ownd, items_l, items_t, owned_own, datum_val, asInt_i, asLst_l, slotAt, bEq_int, bNe_int, ix0, ix1, ix2, ix3, iy0, iy1, iy2, iy3, opt_some, map_c, map_n, vmap_c, vmap_n, app_c, app_n, rep_s, rep_z, get_z, get_s, set_z, set_s, leng_c, leng_n, Nat.reduceSub, Nat.reduceAdd, not_t, not_f, Int.reduceToNat, Int.reducePow]
  have htop : (if (c.natAbs : Int) > far then (c.natAbs : Int) else far) < 2 ^ N := by
    have := f.bc.h
    have hp : (2 : Nat) ^ 12 ≤ 2 ^ N := Nat.pow_le_pow_right (by decide) hN
    have e : ((2 ^ N : Nat) : Int) = (2 : Int) ^ N := by rw [Int.natCast_pow]; rfl
    rw [← e]
    split <;> omega
  have htop2 : (c.natAbs : Int) ≤ (if (c.natAbs : Int) > far then (c.natAbs : Int) else far) := by split <;> omega
  generalize (if (c.natAbs : Int) > far then (c.natAbs : Int) else far) = top at *
  have g1 := fm (top + b) (y := 2 * (c.natAbs : Int)) (by omega)
  have g2 := Int.mul_fdiv_add_fmod (top + b) (2 * (c.natAbs : Int))
  generalize (top + b).fmod (2 * (c.natAbs : Int)) = t at *
  generalize (top + b).fdiv (2 * (c.natAbs : Int)) = q at *
  have hs : b + (top - t) = 2 * c * (if 0 ≤ c then q else -q) := by
    by_cases hc0 : 0 ≤ c
    · rw [if_pos hc0]
      have : (c.natAbs : Int) = c := by omega
      rw [this] at g2
      omega
    · rw [if_neg hc0]
      have : (c.natAbs : Int) = -c := by omega
      rw [this] at g2
      have e : 2 * -c * q = 2 * c * -q := by grind
      omega
  rw [hs, Int.mul_fdiv_cancel_left _ (by omega)]
  generalize (if 0 ≤ c then q else -q) = k at *
  have bk : Bd k (N + 1) := ⟨by
    have k1 := f.bb.h
    have k2 : (b + (top - t)).natAbs = 2 * c.natAbs * k.natAbs := by rw [hs, Int.natAbs_mul, Int.natAbs_mul]; rfl
    have k3 : 1 * k.natAbs ≤ 2 * c.natAbs * k.natAbs := Nat.mul_le_mul_right _ (by omega)
    have e : ((2 ^ N : Nat) : Int) = (2 : Int) ^ N := by rw [Int.natCast_pow]; rfl
    rw [← e] at htop
    rw [Nat.pow_succ]
    omega⟩
  exact ⟨rfl, rfl, szL (by decide), by omega, szL (by decide), @divBd _ _ _ (bd_mul bd2 f.bc) (by omega) (Nat.ble_eq_true_of_le (by omega)), h (top - t) k (by omega) (by omega) hs bk⟩
theorem Pg.eased_ok {a b c : Int} {N : Nat} (f : Form N a b c) (hN : 12 ≤ N) (hN2 : N ≤ 1500) (h0 : 0 ≤ b * b - 4 * a * c) (h1 : b * b - 4 * a * c ≤ 4000) (hs : ¬ Sq (b * b - 4 * a * c)) {Q : DK} {X : DX}
    (h : ∀ far A B C p q r s, IsRoot (b * b - 4 * a * c) far → Level A B far → Form N A B C → Turn (1 + (N + 2) * (N + 2)) p q r s → A = vf a b c p r → B = mf a b c p q r s → C = vf a b c q s → B * B - 4 * A * C = b * b - 4 * a * c → Q (.val (.tup [.tup [.int A, .int B, .int C], .tup [.int p, .int q, .int r, .int s]]))) : Pg.w_eased [.tup [.int a, .int b, .int c]] Q X := by
  refine fun_mk ?_
  dsimp only [Pg.t_eased, dSeq, dUnpL, lstOf_l, dCut, dSet, dSetV, dUnp, dPar, dDrop, dRet, dRetOwn, dRetN, dIf, dPass, dNext, dNever, dBreak, dCont, dFrz, frz, dTry, dRaise, isx_n, isx_o, dMeth, meth_b, meth_s, fld0b, fld0s, fld1b, fld1s, gr2, ws2, iso_bb, iso_bs, iso_ba, iso_sb, iso_ss, iso_sa, mk_obj, xf0, xf1, plain_o, dApp, dAug, setAll, dC, dVar, dView, dViewT, view, dOp, dUn, dAs, dNil, dCons, dAnd, dOr, dNot, dIte, dTup, dLst, dCall, dChain, two_t, two_f, cB, oIsi, oIsN, oNotN, dYes, dEach, dNoPart, dPart, dSl, use_val, use_own, use_ownd, bool_val, view_val, view_own, view_ownd, view_un, imm_val, imm_own, add_ii, add_ll, sub_ii, mul_ii, div_ii, mod_ii, pow_ii, shl_ii, cmp_ii, neg_i, isB_bb, notB_bb, len_t, len_l, abs_i, max_ii, min_ii, int_i, int_b, divmod_ii, isInt_i, isInt_t, isInt_n, isInt_b, isBool_i, isBool_b, isTuple_t, isTuple_i, isTuple_n, isList_l, isList_t, isStr_s, plain_i, plain_t, plain_l, plain_b, plain_n, plain_s, isNone_i, isNone_t, isNone_n, immI, immB, immN, immS, immT, immL_cons, immL_nil, told_val, getD_some, tupOf_t, given_own, given_ownd, items_l, items_t, owned_own, datum_val, asInt_i, asLst_l, slotAt, bEq_int, bNe_int, ix0, ix1, ix2, ix3, iy0, iy1, iy2, iy3, opt_some, map_c, map_n, vmap_c, vmap_n, app_c, app_n, rep_s, rep_z, get_z, get_s, set_z, set_s, leng_c, leng_n, Nat.reduceSub, Nat.reduceAdd, not_t, not_f, Int.reduceToNat, Int.reducePow]
  refine ⟨rfl, Pg.must_saddle_ok f (by omega) h0 h1 hs ?_⟩
  try dsimp only [dSeq, dUnpL, lstOf_l, dCut, dSet, dSetV, dUnp, dPar, dDrop, dRet, dRetOwn, dRetN, dIf, dPass, dNext, dNever, dBreak, dCont, dFrz, frz, dTry, dRaise, isx_n, isx_o, dMeth, meth_b, meth_s, fld0b, fld0s, fld1b, fld1s, gr2, ws2, iso_bb, iso_bs, iso_ba, iso_sb, iso_ss, iso_sa, mk_obj, xf0, xf1, plain_o, dApp, dAug, setAll, dC, dVar, dView, dViewT, view, dOp, dUn, dAs, dNil, dCons, dAnd, dOr, dNot, dIte, dTup, dLst, dCall, dChain, two_t, two_f, cB, oIsi, oIsN, oNotN, dYes, dEach, dNoPart, dPart, dSl, use_val, use_own, use_ownd, bool_val, view_val, view_own, view_ownd, view_un, imm_val, imm_own, add_ii, add_ll, sub_ii, mul_ii, div_ii, mod_ii, pow_ii, shl_ii, cmp_ii, neg_i, isB_bb, notB_bb, len_t, len_l, abs_i, max_ii, min_ii, int_i, int_b, divmod_ii, isInt_i, isInt_t, isInt_n, isInt_b, isBool_i, isBool_b, isTuple_t, isTuple_i, isTuple_n, isList_l, isList_t, isStr_s, plain_i, plain_t, plain_l, plain_b, plain_n, plain_s, isNone_i, isNone_t, isNone_n, immI, immB, immN, immS, immT, immL_cons, immL_nil, told_val, getD_some, tupOf_t, given_own, given_ownd, items_l, items_t, owned_own, datum_val, asInt_i, asLst_l, slotAt, bEq_int, bNe_int, ix0, ix1, ix2, ix3, iy0, iy1, iy2, iy3, opt_some, map_c, map_n, vmap_c, vmap_n, app_c, app_n, rep_s, rep_z, get_z, get_s, set_z, set_s, leng_c, leng_n, Nat.reduceSub, Nat.reduceAdd, not_t, not_f, Int.reduceToNat, Int.reducePow]
  refine Pg.measure_ok (by omega) f.ba f.bb f.bc ?_
  try dsimp only [dSeq, dUnpL, lstOf_l, dCut, dSet, dSetV, dUnp, dPar, dDrop, dRet, dRetOwn, dRetN, dIf, dPass, dNext, dNever, dBreak, dCont, dFrz, frz, dTry, dRaise, isx_n, isx_o, dMeth, meth_b, meth_s, fld0b, fld0s, fld1b, fld1s, gr2, ws2, iso_bb, iso_bs, iso_ba, iso_sb, iso_ss, iso_sa, mk_obj, xf0, xf1, plain_o, dApp, dAug, setAll, dC, dVar, dView, dViewT, view, dOp, dUn, dAs, dNil, dCons, dAnd, dOr, dNot, dIte, dTup, dLst, dCall, dChain, two_t, two_f, cB, oIsi, oIsN, oNotN, dYes, dEach, dNoPart, dPart, dSl, use_val, use_own, use_ownd, bool_val, view_val, view_own, view_ownd, view_un, imm_val, imm_own, add_ii, add_ll, sub_ii, mul_ii, div_ii, mod_ii, pow_ii, shl_ii, cmp_ii, neg_i, isB_bb, notB_bb, len_t, len_l, abs_i, max_ii, min_ii, int_i, int_b, divmod_ii, isInt_i, isInt_t, isInt_n, isInt_b, isBool_i, isBool_b, isTuple_t, isTuple_i, isTuple_n, isList_l, isList_t, isStr_s, plain_i, plain_t, plain_l, plain_b, plain_n, plain_s, isNone_i, isNone_t, isNone_n, immI, immB, immN, immS, immT, immL_cons, immL_nil, told_val, getD_some, tupOf_t, given_own, given_ownd, items_l, items_t, owned_own, datum_val, asInt_i, asLst_l, slotAt, bEq_int, bNe_int, ix0, ix1, ix2, ix3, iy0, iy1, iy2, iy3, opt_some, map_c, map_n, vmap_c, vmap_n, app_c, app_n, rep_s, rep_z, get_z, get_s, set_z, set_s, leng_c, leng_n, Nat.reduceSub, Nat.reduceAdd, not_t, not_f, Int.reduceToNat, Int.reducePow]
  have bm : Bd (b * b - 4 * a * c) 12 := ⟨by omega⟩
  refine Pg.root_ok bm (by decide) h0 fun far k1 k2 k3 => ?_
  try dsimp only [dSeq, dUnpL, lstOf_l, dCut, dSet, dSetV, dUnp, dPar, dDrop, dRet, dRetOwn, dRetN, dIf, dPass, dNext, dNever, dBreak, dCont, dFrz, frz, dTry, dRaise, isx_n, isx_o, dMeth, meth_b, meth_s, fld0b, fld0s, fld1b, fld1s, gr2, ws2, iso_bb, iso_bs, iso_ba, iso_sb, iso_ss, iso_sa, mk_obj, xf0, xf1, plain_o, dApp, dAug, setAll, dC, dVar, dView, dViewT, view, dOp, dUn, dAs, dNil, dCons, dAnd, dOr, dNot, dIte, dTup, dLst, dCall, dChain, two_t, two_f, cB, oIsi, oIsN, oNotN, dYes, dEach, dNoPart, dPart, dSl, use_val, use_own, use_ownd, bool_val, view_val, view_own, view_ownd, view_un, imm_val, imm_own, add_ii, add_ll, sub_ii, mul_ii, div_ii, mod_ii, pow_ii, shl_ii, cmp_ii, neg_i, isB_bb, notB_bb, len_t, len_l, abs_i, max_ii, min_ii, int_i, int_b, divmod_ii, isInt_i, isInt_t, isInt_n, isInt_b, isBool_i, isBool_b, isTuple_t, isTuple_i, isTuple_n, isList_l, isList_t, isStr_s, plain_i, plain_t, plain_l, plain_b, plain_n, plain_s, isNone_i, isNone_t, isNone_n, immI, immB, immN, immS, immT, immL_cons, immL_nil, told_val, getD_some, tupOf_t, given_own, given_ownd, items_l, items_t, owned_own, datum_val, asInt_i, asLst_l, slotAt, bEq_int, bNe_int, ix0, ix1, ix2, ix3, iy0, iy1, iy2, iy3, opt_some, map_c, map_n, vmap_c, vmap_n, app_c, app_n, rep_s, rep_z, get_z, get_s, set_z, set_s, leng_c, leng_n, Nat.reduceSub, Nat.reduceAdd, not_t, not_f, Int.reduceToNat, Int.reducePow]
  have hr : IsRoot (b * b - 4 * a * c) far := ⟨k1, k2, k3⟩
  have far63 : far ≤ 63 := by
    rcases Int.lt_or_le 63 far with g | g
    · have : 64 * 64 ≤ far * far := Int.mul_le_mul (by omega) (by omega) (by decide) (by omega)
      omega
    · exact g
  have hc0 := c_ne rfl hs
  have start : easeLeft a b c far ≤ N + 2 := by
    have := bits_le f.bc
    unfold easeLeft
    split
    · omega
    · split
      · omega
      · split <;> omega
  refine while_g (fun e m => ∃ (A B C p q r s : Int) (s3 : Sl) (n : Nat), e = [.val (.tup [.int A, .int B, .int C]), .val (.int far), .val (.tup [.int p, .int q, .int r, .int s]), s3] ∧ Form N A B C ∧ Turn (1 + (N + 2) * n) p q r s ∧ A = vf a b c p r ∧ B = mf a b c p q r s ∧ C = vf a b c q s ∧ B * B - 4 * A * C = b * b - 4 * a * c ∧ n + easeLeft A B C far ≤ N + 2 ∧ m = easeLeft A B C far) (easeLeft a b c far) ⟨a, b, c, 1, 0, 0, 1, _, 0, rfl, f, ⟨bd_up _ bd1, bd_up _ bd0, bd_up _ bd0, bd_up _ bd1, by decide⟩, by unfold vf; omega, by unfold mf; omega, by unfold vf; omega, rfl, by omega, rfl⟩ ?_
  rintro e m G ⟨A, B, C, p, q, r, s, s3, n, rfl, F, T, eA, eB, eC, hD, hn, rfl⟩ ih
  try dsimp only [dSeq, dUnpL, lstOf_l, dCut, dSet, dSetV, dUnp, dPar, dDrop, dRet, dRetOwn, dRetN, dIf, dPass, dNext, dNever, dBreak, dCont, dFrz, frz, dTry, dRaise, isx_n, isx_o, dMeth, meth_b, meth_s, fld0b, fld0s, fld1b, fld1s, gr2, ws2, iso_bb, iso_bs, iso_ba, iso_sb, iso_ss, iso_sa, mk_obj, xf0, xf1, plain_o, dApp, dAug, setAll, dC, dVar, dView, dViewT, view, dOp, dUn, dAs, dNil, dCons, dAnd, dOr, dNot, dIte, dTup, dLst, dCall, dChain, two_t, two_f, cB, oIsi, oIsN, oNotN, dYes, dEach, dNoPart, dPart, dSl, use_val, use_own, use_ownd, bool_val, view_val, view_own, view_ownd, view_un, imm_val, imm_own, add_ii, add_ll, sub_ii, mul_ii, div_ii, mod_ii, pow_ii, shl_ii, cmp_ii, neg_i, isB_bb, notB_bb, len_t, len_l, abs_i, max_ii, min_ii, int_i, int_b, divmod_ii, isInt_i, isInt_t, isInt_n, isInt_b, isBool_i, isBool_b, isTuple_t, isTuple_i, isTuple_n, isList_l, isList_t, isStr_s, plain_i, plain_t, plain_l, plain_b, plain_n, plain_s, isNone_i, isNone_t, isNone_n, immI, immB, immN, immS, immT, immL_cons, immL_nil, told_val, getD_some, tupOf_t, given_own, given_ownd, items_l, items_t, owned_own, datum_val, asInt_i, asLst_l, slotAt, bEq_int, bNe_int, ix0, ix1, ix2, ix3, iy0, iy1, iy2, iy3, opt_some, map_c, map_n, vmap_c, vmap_n, app_c, app_n, rep_s, rep_z, get_z, get_s, set_z, set_s, leng_c, leng_n, Nat.reduceSub, Nat.reduceAdd, not_t, not_f, Int.reduceToNat, Int.reducePow]
  refine Pg.lies_level_ok ?_
  try dsimp only [dSeq, dUnpL, lstOf_l, dCut, dSet, dSetV, dUnp, dPar, dDrop, dRet, dRetOwn, dRetN, dIf, dPass, dNext, dNever, dBreak, dCont, dFrz, frz, dTry, dRaise, isx_n, isx_o, dMeth, meth_b, meth_s, fld0b, fld0s, fld1b, fld1s, gr2, ws2, iso_bb, iso_bs, iso_ba, iso_sb, iso_ss, iso_sa, mk_obj, xf0, xf1, plain_o, dApp, dAug, setAll, dC, dVar, dView, dViewT, view, dOp, dUn, dAs, dNil, dCons, dAnd, dOr, dNot, dIte, dTup, dLst, dCall, dChain, two_t, two_f, cB, oIsi, oIsN, oNotN, dYes, dEach, dNoPart, dPart, dSl, use_val, use_own, use_ownd, bool_val, view_val, view_own, view_ownd, view_un, imm_val, imm_own, add_ii, add_ll, sub_ii, mul_ii, div_ii, mod_ii, pow_ii, shl_ii, cmp_ii, neg_i, isB_bb, notB_bb, len_t, len_l, abs_i, max_ii, min_ii, int_i, int_b, divmod_ii, isInt_i, isInt_t, isInt_n, isInt_b, isBool_i, isBool_b, isTuple_t, isTuple_i, isTuple_n, isList_l, isList_t, isStr_s, plain_i, plain_t, plain_l, plain_b, plain_n, plain_s, isNone_i, isNone_t, isNone_n, immI, immB, immN, immS, immT, immL_cons, immL_nil, told_val, getD_some, tupOf_t, given_own, given_ownd, items_l, items_t, owned_own, datum_val, asInt_i, asLst_l, slotAt, bEq_int, bNe_int, ix0, ix1, ix2, ix3, iy0, iy1, iy2, iy3, opt_some, map_c, map_n, vmap_c, vmap_n, app_c, app_n, rep_s, rep_z, get_z, get_s, set_z, set_s, leng_c, leng_n, Nat.reduceSub, Nat.reduceAdd, not_t, not_f, Int.reduceToNat, Int.reducePow]
  refine two_nd (fun hnl => ?_) fun hl => ?_
  · have hC := c_ne hD hs
    refine Pg.onward_ok F hN (by omega) hC k1 far63 fun d k g1 g2 g3 bk => ?_
    try dsimp only [dSeq, dUnpL, lstOf_l, dCut, dSet, dSetV, dUnp, dPar, dDrop, dRet, dRetOwn, dRetN, dIf, dPass, dNext, dNever, dBreak, dCont, dFrz, frz, dTry, dRaise, isx_n, isx_o, dMeth, meth_b, meth_s, fld0b, fld0s, fld1b, fld1s, gr2, ws2, iso_bb, iso_bs, iso_ba, iso_sb, iso_ss, iso_sa, mk_obj, xf0, xf1, plain_o, dApp, dAug, setAll, dC, dVar, dView, dViewT, view, dOp, dUn, dAs, dNil, dCons, dAnd, dOr, dNot, dIte, dTup, dLst, dCall, dChain, two_t, two_f, cB, oIsi, oIsN, oNotN, dYes, dEach, dNoPart, dPart, dSl, use_val, use_own, use_ownd, bool_val, view_val, view_own, view_ownd, view_un, imm_val, imm_own, add_ii, add_ll, sub_ii, mul_ii, div_ii, mod_ii, pow_ii, shl_ii, cmp_ii, neg_i, isB_bb, notB_bb, len_t, len_l, abs_i, max_ii, min_ii, int_i, int_b, divmod_ii, isInt_i, isInt_t, isInt_n, isInt_b, isBool_i, isBool_b, isTuple_t, isTuple_i, isTuple_n, isList_l, isList_t, isStr_s, plain_i, plain_t, plain_l, plain_b, plain_n, plain_s, isNone_i, isNone_t, isNone_n, immI, immB, immN, immS, immT, immL_cons, immL_nil, told_val, getD_some, tupOf_t, given_own, given_ownd, items_l, items_t, owned_own, datum_val, asInt_i, asLst_l, slotAt, bEq_int, bNe_int, ix0, ix1, ix2, ix3, iy0, iy1, iy2, iy3, opt_some, map_c, map_n, vmap_c, vmap_n, app_c, app_n, rep_s, rep_z, get_z, get_s, set_z, set_s, leng_c, leng_n, Nat.reduceSub, Nat.reduceAdd, not_t, not_f, Int.reduceToNat, Int.reducePow]
    obtain ⟨v1, v2, v3, v4⟩ := ease_step F hN hD h1 hr hC hnl g1 g2 g3
    have one : Turn (N + 1) 0 (-1) 1 k := ⟨bd_up _ bd0, bd_up _ (bd_neg bd1), bd_up _ bd1, bk, by omega⟩
    have hmul : (N + 2) * (n + 1) = (N + 2) * n + (N + 2) := Nat.mul_succ ..
    have hle : (N + 2) * n ≤ (N + 2) * (N + 2) := Nat.mul_le_mul_left _ (by omega)
    have hle2 : (N + 2) * (N + 2) ≤ 1502 * 1502 := Nat.mul_le_mul (by omega) (by omega)
    refine Pg.moved_ok F one (by omega) (by omega) ?_
    try dsimp only [dSeq, dUnpL, lstOf_l, dCut, dSet, dSetV, dUnp, dPar, dDrop, dRet, dRetOwn, dRetN, dIf, dPass, dNext, dNever, dBreak, dCont, dFrz, frz, dTry, dRaise, isx_n, isx_o, dMeth, meth_b, meth_s, fld0b, fld0s, fld1b, fld1s, gr2, ws2, iso_bb, iso_bs, iso_ba, iso_sb, iso_ss, iso_sa, mk_obj, xf0, xf1, plain_o, dApp, dAug, setAll, dC, dVar, dView, dViewT, view, dOp, dUn, dAs, dNil, dCons, dAnd, dOr, dNot, dIte, dTup, dLst, dCall, dChain, two_t, two_f, cB, oIsi, oIsN, oNotN, dYes, dEach, dNoPart, dPart, dSl, use_val, use_own, use_ownd, bool_val, view_val, view_own, view_ownd, view_un, imm_val, imm_own, add_ii, add_ll, sub_ii, mul_ii, div_ii, mod_ii, pow_ii, shl_ii, cmp_ii, neg_i, isB_bb, notB_bb, len_t, len_l, abs_i, max_ii, min_ii, int_i, int_b, divmod_ii, isInt_i, isInt_t, isInt_n, isInt_b, isBool_i, isBool_b, isTuple_t, isTuple_i, isTuple_n, isList_l, isList_t, isStr_s, plain_i, plain_t, plain_l, plain_b, plain_n, plain_s, isNone_i, isNone_t, isNone_n, immI, immB, immN, immS, immT, immL_cons, immL_nil, told_val, getD_some, tupOf_t, given_own, given_ownd, items_l, items_t, owned_own, datum_val, asInt_i, asLst_l, slotAt, bEq_int, bNe_int, ix0, ix1, ix2, ix3, iy0, iy1, iy2, iy3, opt_some, map_c, map_n, vmap_c, vmap_n, app_c, app_n, rep_s, rep_z, get_z, get_s, set_z, set_s, leng_c, leng_n, Nat.reduceSub, Nat.reduceAdd, not_t, not_f, Int.reduceToNat, Int.reducePow]
    refine Pg.then_ok (T.up (1 + (N + 2) * (n + 1))) (one.up (1 + (N + 2) * (n + 1))) (by omega) ?_
    try dsimp only [dSeq, dUnpL, lstOf_l, dCut, dSet, dSetV, dUnp, dPar, dDrop, dRet, dRetOwn, dRetN, dIf, dPass, dNext, dNever, dBreak, dCont, dFrz, frz, dTry, dRaise, isx_n, isx_o, dMeth, meth_b, meth_s, fld0b, fld0s, fld1b, fld1s, gr2, ws2, iso_bb, iso_bs, iso_ba, iso_sb, iso_ss, iso_sa, mk_obj, xf0, xf1, plain_o, dApp, dAug, setAll, dC, dVar, dView, dViewT, view, dOp, dUn, dAs, dNil, dCons, dAnd, dOr, dNot, dIte, dTup, dLst, dCall, dChain, two_t, two_f, cB, oIsi, oIsN, oNotN, dYes, dEach, dNoPart, dPart, dSl, use_val, use_own, use_ownd, bool_val, view_val, view_own, view_ownd, view_un, imm_val, imm_own, add_ii, add_ll, sub_ii, mul_ii, div_ii, mod_ii, pow_ii, shl_ii, cmp_ii, neg_i, isB_bb, notB_bb, len_t, len_l, abs_i, max_ii, min_ii, int_i, int_b, divmod_ii, isInt_i, isInt_t, isInt_n, isInt_b, isBool_i, isBool_b, isTuple_t, isTuple_i, isTuple_n, isList_l, isList_t, isStr_s, plain_i, plain_t, plain_l, plain_b, plain_n, plain_s, isNone_i, isNone_t, isNone_n, immI, immB, immN, immS, immT, immL_cons, immL_nil, told_val, getD_some, tupOf_t, given_own, given_ownd, items_l, items_t, owned_own, datum_val, asInt_i, asLst_l, slotAt, bEq_int, bNe_int, ix0, ix1, ix2, ix3, iy0, iy1, iy2, iy3, opt_some, map_c, map_n, vmap_c, vmap_n, app_c, app_n, rep_s, rep_z, get_z, get_s, set_z, set_s, leng_c, leng_n, Nat.reduceSub, Nat.reduceAdd, not_t, not_f, Int.reduceToNat, Int.reducePow]
    have T2 := T.put one (K := 1 + (N + 2) * (n + 1))
    refine ih _ _ ?_ ⟨_, _, _, _, _, _, _, _, n + 1, rfl, ?_, T2, ?_, ?_, ?_, ?_, ?_, rfl⟩
    · rw [v1, v2]; exact v4
    · rw [v1, v2]; exact v3
    · rw [eA, eB, eC, vf_moved]
    · rw [eA, eB, eC, mf_moved]
    · rw [eA, eB, eC, vf_moved]
    · rw [measure_moved A B C 0 (-1) 1 k one.det]; exact hD
    · rw [v1, v2]; omega
  · have hle : (N + 2) * n ≤ (N + 2) * (N + 2) := Nat.mul_le_mul_left _ (by omega)
    exact h far A B C p q r s hr hl F (T.up _) eA eB eC hD

theorem bNe3d {a b c a' b' c' : Int} {k : Bool → Prop} (h : k (!decide (a = a' ∧ b = b' ∧ c = c'))) : bNe (.tup [.int a, .int b, .int c]) (.tup [.int a', .int b', .int c']) k := by
  refine ⟨rfl, ?_⟩
  have e : eqL [.int a, .int b, .int c] [.int a', .int b', .int c'] = decide (a = a' ∧ b = b' ∧ c = c') := by
    show (a == a' && (b == b' && (c == c' && true))) = _
    rw [Bool.and_true, Bool.decide_and, Bool.decide_and]; rfl
  show k (!eqL _ _)
  rw [e]; exact h
theorem bEq4d {a b c d a' b' c' d' : Int} {k : Bool → Prop} (h : k (decide (a = a' ∧ b = b' ∧ c = c' ∧ d = d'))) : bEq (.tup [.int a, .int b, .int c, .int d]) (.tup [.int a', .int b', .int c', .int d']) k := by
  refine ⟨rfl, ?_⟩
  have e : eqL [.int a, .int b, .int c, .int d] [.int a', .int b', .int c', .int d'] = decide (a = a' ∧ b = b' ∧ c = c' ∧ d = d') := by
    show (a == a' && (b == b' && (c == c' && (d == d' && true)))) = _
    rw [Bool.and_true, Bool.decide_and, Bool.decide_and, Bool.decide_and]; rfl
  show k (eqL _ _)
  rw [e]; exact h
theorem loop_or {a b c a' b' c' x y z w x' y' z' w' : Int} {A E : Prop} (h : A) (hn : (a = a' ∧ b = b' ∧ c = c') → x = x' ∧ y = y' ∧ z = z' ∧ w = w') : bNe (.tup [.int a, .int b, .int c]) (.tup [.int a', .int b', .int c']) fun b => two b A (bEq (.tup [.int x, .int y, .int z, .int w]) (.tup [.int x', .int y', .int z', .int w']) fun b => two b A E) :=
  bNe3d (two_nd (fun _ => h) fun hp => by
    obtain ⟨h1, h2, h3, h4⟩ := hn hp
    exact bEq4 h1 h2 h3 h4 h)
theorem loop_orq {a b c a' b' c' x : Int} {A E : Prop} (h : A) (hn : (a = a' ∧ b = b' ∧ c = c') → x = 0) : bNe (.tup [.int a, .int b, .int c]) (.tup [.int a', .int b', .int c']) fun k => two k A (two (decide (x = 0)) A E) :=
  bNe3d (two_nd (fun _ => h) fun hp => two_p (hn hp) h)
theorem turn_next {o e e0 k p q r s : Int} (he : e = 1 ∨ e = -1) : o * p * 0 + o * (e * q) * 1 = (o * e) * q ∧ o * p * (-1) + o * (e * q) * (-(e * k)) = (o * e) * (-e * (p + k * q)) ∧ o * (e0 * r) * 0 + o * (e0 * (e * s)) * 1 = (o * e) * (e0 * s) ∧ o * (e0 * r) * (-1) + o * (e0 * (e * s)) * (-(e * k)) = (o * e) * (e0 * (-e * (r + k * s))) := by
  rcases he with rfl | rfl <;> refine ⟨by grind, by grind, by grind, by grind⟩
theorem root_far {D far : Int} (hr : IsRoot D far) (hs : ¬ Sq D) : Rn.Far D far := by
  obtain ⟨r0, r1, r2⟩ := hr
  refine ⟨r0, ?_, r2⟩
  rcases Int.lt_or_le (far * far) D with g | g
  · exact g
  · exact absurd ⟨far, by omega⟩ hs
theorem far_root {D far : Int} (R : Rn.Far D far) : IsRoot D far := ⟨R.n, by have := R.l; omega, R.u⟩
theorem far_nsq {D far : Int} (R : Rn.Far D far) : ¬ Sq D := fun ⟨r, hr⟩ => by
  have := sq_uniq R.n (by have := R.l; omega) R.u hr
  have := R.l
  omega
theorem far63_of {D far : Int} (R : Rn.Far D far) (h : D ≤ 4000) : far ≤ 63 := by
  rcases Int.lt_or_le 63 far with g | g
  · have : 64 * 64 ≤ far * far := Int.mul_le_mul (by omega) (by omega) (by decide) (by omega)
    have := R.l
    omega
  · exact g
/-- a level form is a form without signs, and a sign -/
theorem level_good {a b c far D : Int} (hr : IsRoot D far) (hs : ¬ Sq D) (hD : b * b - 4 * a * c = D) (hl : Level a b far) : ∃ (e : Int) (F : Rn.Tr), (e = 1 ∨ e = -1) ∧ a = e * F.A ∧ b = F.B ∧ c = -(e * F.C) ∧ Rn.Good D far F := by
  have R := root_far hr hs
  obtain ⟨⟨l1, l2⟩, l3, l4⟩ := hl
  have h1 := R.sq (x := b) (by have := R.n; omega) l2
  have e4 : 4 * a * c = 4 * (a * c) := Int.mul_assoc ..
  rcases Int.lt_trichotomy a 0 with ha | ha | ha
  · have hc : 0 ≤ c := by
      rcases Int.lt_or_le c 0 with g | g
      · have := Int.mul_pos_of_neg_of_neg ha g
        omega
      · exact g
    have hd : b * b + 4 * (-a) * c = D := by
      have : 4 * (-a) * c = -(4 * a * c) := by grind
      omega
    exact ⟨-1, ⟨-a, b, c⟩, .inr rfl, by show a = -1 * -a; omega, rfl, by show c = -(-1 * c); omega, R, hd, Rn.pl_of (A := -a) (B := b) (C := c) R hd (by omega) hc l1 l2 (by omega) (by omega)⟩
  · omega
  · have hc : 0 ≤ -c := by
      rcases Int.lt_or_le 0 c with g | g
      · have := Int.mul_pos ha g
        omega
      · omega
    have hd : b * b + 4 * a * (-c) = D := by
      have : 4 * a * (-c) = -(4 * a * c) := by grind
      omega
    exact ⟨1, ⟨a, b, -c⟩, .inl rfl, by show a = 1 * a; omega, rfl, by show c = -(1 * -c); omega, R, hd, Rn.pl_of (A := a) (B := b) (C := -c) R hd (by omega) hc l1 l2 (by omega) (by omega)⟩
theorem good_form {D far e : Int} {F : Rn.Tr} (g : Rn.Good D far F) (he : e = 1 ∨ e = -1) (h : D ≤ 4000) : Form 12 (e * F.A) F.B (-(e * F.C)) := by
  have l := g.lies
  have p := g.pl
  have := far63_of g.far h
  have := l.b0
  have := l.b1
  have := l.a2
  have := l.c2
  have := p.a
  have := p.c
  rcases he with rfl | rfl
  · exact ⟨⟨by omega⟩, ⟨by omega⟩, ⟨by omega⟩⟩
  · exact ⟨⟨by omega⟩, ⟨by omega⟩, ⟨by omega⟩⟩
theorem good_far {D far e : Int} {F : Rn.Tr} (g : Rn.Good D far F) (he : e = 1 ∨ e = -1) : ((-(e * F.C)).natAbs : Int) = F.C ∧ F.C ≤ far := by
  have l := g.lies
  have p := g.pl
  have := l.b1
  have := l.c2
  have := p.c
  rcases he with rfl | rfl <;> omega
theorem good_bar {D far e : Int} {F : Rn.Tr} (g : Rn.Good D far F) (he : e = 1 ∨ e = -1) : F.B * F.B - 4 * (e * F.A) * (-(e * F.C)) = D := by
  have := g.d
  rcases he with rfl | rfl
  · have e1 : 4 * (1 * F.A) * (-(1 * F.C)) = -(4 * F.A * F.C) := by grind
    omega
  · have e1 : 4 * (-1 * F.A) * (-(-1 * F.C)) = -(4 * F.A * F.C) := by grind
    omega
/-- one step along the ring, with its signs -/
theorem ring_step {D far e d k : Int} {F : Rn.Tr} (g : Rn.Good D far F) (he : e = 1 ∨ e = -1) (h1 : far - 2 * F.C < d) (h2 : d ≤ far) (hk : F.B + d = 2 * (-(e * F.C)) * k) : d = (Rn.nx far F).B ∧ k = -(e * Rn.kap far F) := by
  have c := g.pl.c
  rcases he with rfl | rfl
  · have e1 : 2 * (-(1 * F.C)) * k = 2 * F.C * -k := by grind
    have := Rn.kap_uniq (far := far) (F := F) (k := -k) c (by omega) (by omega)
    refine ⟨?_, by omega⟩
    show d = 2 * F.C * Rn.kap far F - F.B
    rw [this]; omega
  · have e1 : 2 * (-(-1 * F.C)) * k = 2 * F.C * k := by grind
    have := Rn.kap_uniq (far := far) (F := F) (k := k) c (by omega) (by omega)
    refine ⟨?_, by omega⟩
    show d = 2 * F.C * Rn.kap far F - F.B
    rw [this]; omega
theorem ring_form {far e : Int} {F : Rn.Tr} (he : e = 1 ∨ e = -1) : vf (e * F.A) F.B (-(e * F.C)) 0 1 = -e * (Rn.nx far F).A ∧ mf (e * F.A) F.B (-(e * F.C)) 0 (-1) 1 (-(e * Rn.kap far F)) = (Rn.nx far F).B ∧ vf (e * F.A) F.B (-(e * F.C)) (-1) (-(e * Rn.kap far F)) = -(-e * (Rn.nx far F).C) := by
  show vf (e * F.A) F.B (-(e * F.C)) 0 1 = -e * F.C ∧ mf (e * F.A) F.B (-(e * F.C)) 0 (-1) 1 (-(e * Rn.kap far F)) = 2 * F.C * Rn.kap far F - F.B ∧ vf (e * F.A) F.B (-(e * F.C)) (-1) (-(e * Rn.kap far F)) = -(-e * (F.A + F.B * Rn.kap far F - F.C * (Rn.kap far F * Rn.kap far F)))
  unfold vf mf
  rcases he with rfl | rfl <;> refine ⟨by grind, by grind, by grind⟩
/-- the form's place on the ring tells the sign -/
def Par (i : Nat) (e0 e : Int) : Prop := (i % 2 = 0 ∧ e = e0) ∨ (i % 2 = 1 ∧ e = -e0)
theorem Par.next {i : Nat} {e0 e : Int} (h : Par i e0 e) : Par (i + 1) e0 (-e) := by
  rcases h with ⟨h, rfl⟩ | ⟨h, rfl⟩
  · exact .inr ⟨by omega, rfl⟩
  · exact .inl ⟨by omega, by omega⟩
/-- the same signed form again: home -/
theorem home_of {D far e0 e : Int} {F : Rn.Tr} {i : Nat} (g : Rn.Good D far F) (he0 : e0 = 1 ∨ e0 = -1) (hp : Par i e0 e) (hi : 1 ≤ i) (h : e * (Rn.rg far F i).A = e0 * F.A ∧ (Rn.rg far F i).B = F.B ∧ -(e * (Rn.rg far F i).C) = -(e0 * F.C)) : Rn.Home far F i := by
  have a1 := g.pl.a
  have a2 := (g.rg i).pl.a
  obtain ⟨h1, h2, h3⟩ := h
  generalize hG : Rn.rg far F i = G at *
  cases F with | mk A B C =>
  cases G with | mk A' B' C' =>
  try dsimp only at *
  rcases hp with ⟨k, rfl⟩ | ⟨k, rfl⟩
  · refine ⟨hi, k, ?_⟩
    rw [hG]
    rcases he0 with rfl | rfl
    · congr 1 <;> omega
    · congr 1 <;> omega
  · exfalso
    rcases he0 with rfl | rfl <;> omega
theorem sq_sign {e : Int} (he : e = 1 ∨ e = -1) : e * e = 1 := by rcases he with rfl | rfl <;> rfl
theorem neg_sign {e : Int} (he : e = 1 ∨ e = -1) : -e = 1 ∨ -e = -1 := by omega
theorem mul_sign {e f : Int} (he : e = 1 ∨ e = -1) (hf : f = 1 ∨ f = -1) : e * f = 1 ∨ e * f = -1 := by
  rcases he with rfl | rfl <;> rcases hf with rfl | rfl <;> decide

/-- the turn moves the first form to the second -/
structure Mv (a b c p q r s A B C : Int) : Prop where
  det : p * s - q * r = 1
  e1 : A = vf a b c p r
  e2 : B = mf a b c p q r s
  e3 : C = vf a b c q s
theorem Mv.same (a b c : Int) : Mv a b c 1 0 0 1 a b c := ⟨by decide, by unfold vf; grind, by unfold mf; grind, by unfold vf; grind⟩
theorem Mv.of {a b c p q r s : Int} (h : p * s - q * r = 1) : Mv a b c p q r s (vf a b c p r) (mf a b c p q r s) (vf a b c q s) := ⟨h, rfl, rfl, rfl⟩
theorem Mv.put {a b c p q r s A B C t u v w A' B' C' : Int} (m : Mv a b c p q r s A B C) (k : Mv A B C t u v w A' B' C') : Mv a b c (p * t + q * v) (p * u + q * w) (r * t + s * v) (r * u + s * w) A' B' C' := by
  obtain ⟨d, rfl, rfl, rfl⟩ := m
  obtain ⟨d', rfl, rfl, rfl⟩ := k
  refine ⟨?_, vf_moved .., mf_moved .., vf_moved ..⟩
  have : (p * t + q * v) * (r * u + s * w) - (p * u + q * w) * (r * t + s * v) = (p * s - q * r) * (t * w - u * v) := by grind
  rw [this, d, d']; rfl
theorem Mv.back {a b c p q r s A B C : Int} (m : Mv a b c p q r s A B C) : Mv A B C s (-q) (-r) p a b c := by
  obtain ⟨h, rfl, rfl, rfl⟩ := m
  have h' : s * p - (-q) * (-r) = 1 := by grind
  refine ⟨h', ?_, ?_, ?_⟩
  · rw [vf_moved, show p * s + q * -r = 1 by grind, show r * s + s * -r = 0 by grind]; unfold vf; grind
  · rw [mf_moved, show p * s + q * -r = 1 by grind, show r * s + s * -r = 0 by grind, show p * -q + q * p = 0 by grind, show r * -q + s * p = 1 by grind]; unfold mf; grind
  · rw [vf_moved, show p * -q + q * p = 0 by grind, show r * -q + s * p = 1 by grind]; unfold vf; grind
theorem Mv.bar {a b c p q r s A B C : Int} (m : Mv a b c p q r s A B C) : B * B - 4 * A * C = b * b - 4 * a * c := by
  obtain ⟨h, rfl, rfl, rfl⟩ := m
  exact measure_moved a b c p q r s h
/-- moved to by two turns -/
theorem Mv.mid {a b c p q r s A B C p' q' r' s' A' B' C' : Int} (m : Mv a b c p q r s A B C) (k : Mv a b c p' q' r' s' A' B' C') : Mv A B C (s * p' + -q * r') (s * q' + -q * s') (-r * p' + p * r') (-r * q' + p * s') A' B' C' := m.back.put k
/-- some turn moves the first form to the second -/
def Joined (a b c A B C : Int) : Prop := ∃ p q r s, Mv a b c p q r s A B C
theorem Joined.symm {a b c A B C : Int} (h : Joined a b c A B C) : Joined A B C a b c := let ⟨_, _, _, _, m⟩ := h; ⟨_, _, _, _, m.back⟩
theorem Joined.trans {a b c A B C A' B' C' : Int} (h : Joined a b c A B C) (k : Joined A B C A' B' C') : Joined a b c A' B' C' := let ⟨_, _, _, _, m⟩ := h; let ⟨_, _, _, _, n⟩ := k; ⟨_, _, _, _, m.put n⟩
theorem Joined.same (a b c : Int) : Joined a b c a b c := ⟨_, _, _, _, .same a b c⟩

theorem lookD_app {x k v : D} : ∀ {ks vs : List D}, ks.length = vs.length → lookD x (ks ++ [k]) (vs ++ [v]) = (match lookD x ks vs with
    | some w => some w
    | none => if D.eq k x = true then some v else none)
  | [], [], _ => by
    show (if D.eq k x = true then some v else none) = _
    rfl
  | y :: ks, u :: vs, h => by
    show (if D.eq y x = true then some u else lookD x (ks ++ [k]) (vs ++ [v])) = match (if D.eq y x = true then some u else lookD x ks vs) with | some w => some w | none => if D.eq k x = true then some v else none
    by_cases c : D.eq y x = true
    · rw [if_pos c, if_pos c]
    · rw [if_neg c, if_neg c]
      exact lookD_app (by simpa using h)
theorem lookD_out {x : D} : ∀ {ks vs : List D}, inD x ks = false → lookD x ks vs = none
  | [], [], _ => rfl
  | [], _ :: _, _ => rfl
  | _ :: _, [], _ => rfl
  | y :: ks, u :: vs, h => by
    have h' : D.eq y x = false ∧ inD x ks = false := by
      unfold inD at h ⊢
      simpa using h
    show (if D.eq y x = true then some u else lookD x ks vs) = none
    rw [if_neg (by rw [h'.1]; exact Bool.false_ne_true)]
    exact lookD_out h'.2
/-- w is a turn that moves the form to the signed form s -/
def WayAt (a b c : Int) (w : D) (s : Rn.SF) : Prop := ∃ p q r t, w = .tup [.int p, .int q, .int r, .int t] ∧ Turn 2500000 p q r t ∧ Mv a b c p q r t (s.e * s.F.A) s.F.B (-(s.e * s.F.C))
theorem Pg.ways_ok {a b c : Int} {N : Nat} (f : Form N a b c) (hN : 12 ≤ N) (hN2 : N ≤ 1500) (h0 : 0 ≤ b * b - 4 * a * c) (h1 : b * b - 4 * a * c ≤ 4000) (hs : ¬ Sq (b * b - 4 * a * c)) {Q : DK} {X : DX}
    (h : ∀ far (s : Rn.SF) p q r t n vs, p * t - q * r = 1 → s.Ok (b * b - 4 * a * c) far → far ≤ 63 → s.e * s.F.A = vf a b c p r → s.F.B = mf a b c p q r t → -(s.e * s.F.C) = vf a b c q t → Rn.Home far s.F n → (∀ i, Rn.Home far s.F i → n ≤ i) → n ≤ 1428 → (∀ j, j < n → ∃ w, lookD (tupI (Rn.sr far s j).ns) ((Rn.rnd far s n).map tupI) vs = some w ∧ WayAt a b c w (Rn.sr far s j)) → Q (.ownd ((Rn.rnd far s n).map tupI) vs)) : Pg.w_ways_round [.tup [.int a, .int b, .int c]] Q X := by
  refine fun_mk ?_
  dsimp only [Pg.t_ways_round, dNewD, dSeq, dUnpL, lstOf_l, dCut, dSet, dSetV, dUnp, dPar, dDrop, dRet, dRetOwn, dRetN, dIf, dPass, dNext, dNever, dBreak, dCont, dFrz, frz, dTry, dRaise, isx_n, isx_o, dMeth, meth_b, meth_s, fld0b, fld0s, fld1b, fld1s, gr2, ws2, iso_bb, iso_bs, iso_ba, iso_sb, iso_ss, iso_sa, mk_obj, xf0, xf1, plain_o, dApp, dAug, setAll, dC, dVar, dView, dViewT, view, dOp, dUn, dAs, dNil, dCons, dAnd, dOr, dNot, dIte, dTup, dLst, dCall, dChain, two_t, two_f, cB, oIsi, oIsN, oNotN, dYes, dEach, dNoPart, dPart, dSl, use_val, use_own, use_ownd, bool_val, view_val, view_own, view_ownd, view_un, imm_val, imm_own, add_ii, add_ll, sub_ii, mul_ii, div_ii, mod_ii, pow_ii, shl_ii, cmp_ii, neg_i, isB_bb, notB_bb, len_t, len_l, abs_i, max_ii, min_ii, int_i, int_b, divmod_ii, isInt_i, isInt_t, isInt_n, isInt_b, isBool_i, isBool_b, isTuple_t, isTuple_i, isTuple_n, isList_l, isList_t, isStr_s, plain_i, plain_t, plain_l, plain_b, plain_n, plain_s, isNone_i, isNone_t, isNone_n, immI, immB, immN, immS, immT, immL_cons, immL_nil, told_val, getD_some, tupOf_t, given_own, given_ownd, items_l, items_t, owned_own, datum_val, asInt_i, asLst_l, slotAt, bEq_int, bNe_int, ix0, ix1, ix2, ix3, iy0, iy1, iy2, iy3, opt_some, map_c, map_n, vmap_c, vmap_n, app_c, app_n, rep_s, rep_z, get_z, get_s, set_z, set_s, leng_c, leng_n, Nat.reduceSub, Nat.reduceAdd, not_t, not_f, Int.reduceToNat, Int.reducePow]
  refine ⟨rfl, Pg.eased_ok f hN hN2 h0 h1 hs fun far A B C p q r t hr hl F T eA eB eC hD => ?_⟩
  try dsimp only [dSeq, dUnpL, lstOf_l, dCut, dSet, dSetV, dUnp, dPar, dDrop, dRet, dRetOwn, dRetN, dIf, dPass, dNext, dNever, dBreak, dCont, dFrz, frz, dTry, dRaise, isx_n, isx_o, dMeth, meth_b, meth_s, fld0b, fld0s, fld1b, fld1s, gr2, ws2, iso_bb, iso_bs, iso_ba, iso_sb, iso_ss, iso_sa, mk_obj, xf0, xf1, plain_o, dApp, dAug, setAll, dC, dVar, dView, dViewT, view, dOp, dUn, dAs, dNil, dCons, dAnd, dOr, dNot, dIte, dTup, dLst, dCall, dChain, two_t, two_f, cB, oIsi, oIsN, oNotN, dYes, dEach, dNoPart, dPart, dSl, use_val, use_own, use_ownd, bool_val, view_val, view_own, view_ownd, view_un, imm_val, imm_own, add_ii, add_ll, sub_ii, mul_ii, div_ii, mod_ii, pow_ii, shl_ii, cmp_ii, neg_i, isB_bb, notB_bb, len_t, len_l, abs_i, max_ii, min_ii, int_i, int_b, divmod_ii, isInt_i, isInt_t, isInt_n, isInt_b, isBool_i, isBool_b, isTuple_t, isTuple_i, isTuple_n, isList_l, isList_t, isStr_s, plain_i, plain_t, plain_l, plain_b, plain_n, plain_s, isNone_i, isNone_t, isNone_n, immI, immB, immN, immS, immT, immL_cons, immL_nil, told_val, getD_some, tupOf_t, given_own, given_ownd, items_l, items_t, owned_own, datum_val, asInt_i, asLst_l, slotAt, bEq_int, bNe_int, ix0, ix1, ix2, ix3, iy0, iy1, iy2, iy3, opt_some, map_c, map_n, vmap_c, vmap_n, app_c, app_n, rep_s, rep_z, get_z, get_s, set_z, set_s, leng_c, leng_n, Nat.reduceSub, Nat.reduceAdd, not_t, not_f, Int.reduceToNat, Int.reducePow]
  refine ⟨rfl, Pg.measure_ok (by omega) F.ba F.bb F.bc ?_⟩
  try dsimp only [dSeq, dUnpL, lstOf_l, dCut, dSet, dSetV, dUnp, dPar, dDrop, dRet, dRetOwn, dRetN, dIf, dPass, dNext, dNever, dBreak, dCont, dFrz, frz, dTry, dRaise, isx_n, isx_o, dMeth, meth_b, meth_s, fld0b, fld0s, fld1b, fld1s, gr2, ws2, iso_bb, iso_bs, iso_ba, iso_sb, iso_ss, iso_sa, mk_obj, xf0, xf1, plain_o, dApp, dAug, setAll, dC, dVar, dView, dViewT, view, dOp, dUn, dAs, dNil, dCons, dAnd, dOr, dNot, dIte, dTup, dLst, dCall, dChain, two_t, two_f, cB, oIsi, oIsN, oNotN, dYes, dEach, dNoPart, dPart, dSl, use_val, use_own, use_ownd, bool_val, view_val, view_own, view_ownd, view_un, imm_val, imm_own, add_ii, add_ll, sub_ii, mul_ii, div_ii, mod_ii, pow_ii, shl_ii, cmp_ii, neg_i, isB_bb, notB_bb, len_t, len_l, abs_i, max_ii, min_ii, int_i, int_b, divmod_ii, isInt_i, isInt_t, isInt_n, isInt_b, isBool_i, isBool_b, isTuple_t, isTuple_i, isTuple_n, isList_l, isList_t, isStr_s, plain_i, plain_t, plain_l, plain_b, plain_n, plain_s, isNone_i, isNone_t, isNone_n, immI, immB, immN, immS, immT, immL_cons, immL_nil, told_val, getD_some, tupOf_t, given_own, given_ownd, items_l, items_t, owned_own, datum_val, asInt_i, asLst_l, slotAt, bEq_int, bNe_int, ix0, ix1, ix2, ix3, iy0, iy1, iy2, iy3, opt_some, map_c, map_n, vmap_c, vmap_n, app_c, app_n, rep_s, rep_z, get_z, get_s, set_z, set_s, leng_c, leng_n, Nat.reduceSub, Nat.reduceAdd, not_t, not_f, Int.reduceToNat, Int.reducePow]
  rw [hD]
  have bm : Bd (b * b - 4 * a * c) 12 := ⟨by omega⟩
  refine Pg.root_ok bm (by decide) h0 fun far' k1 k2 k3 => ?_
  have e := root_one hr ⟨k1, k2, k3⟩
  subst e
  try dsimp only [dSeq, dUnpL, lstOf_l, dCut, dSet, dSetV, dUnp, dPar, dDrop, dRet, dRetOwn, dRetN, dIf, dPass, dNext, dNever, dBreak, dCont, dFrz, frz, dTry, dRaise, isx_n, isx_o, dMeth, meth_b, meth_s, fld0b, fld0s, fld1b, fld1s, gr2, ws2, iso_bb, iso_bs, iso_ba, iso_sb, iso_ss, iso_sa, mk_obj, xf0, xf1, plain_o, dApp, dAug, setAll, dC, dVar, dView, dViewT, view, dOp, dUn, dAs, dNil, dCons, dAnd, dOr, dNot, dIte, dTup, dLst, dCall, dChain, two_t, two_f, cB, oIsi, oIsN, oNotN, dYes, dEach, dNoPart, dPart, dSl, use_val, use_own, use_ownd, bool_val, view_val, view_own, view_ownd, view_un, imm_val, imm_own, add_ii, add_ll, sub_ii, mul_ii, div_ii, mod_ii, pow_ii, shl_ii, cmp_ii, neg_i, isB_bb, notB_bb, len_t, len_l, abs_i, max_ii, min_ii, int_i, int_b, divmod_ii, isInt_i, isInt_t, isInt_n, isInt_b, isBool_i, isBool_b, isTuple_t, isTuple_i, isTuple_n, isList_l, isList_t, isStr_s, plain_i, plain_t, plain_l, plain_b, plain_n, plain_s, isNone_i, isNone_t, isNone_n, immI, immB, immN, immS, immT, immL_cons, immL_nil, told_val, getD_some, tupOf_t, given_own, given_ownd, items_l, items_t, owned_own, datum_val, asInt_i, asLst_l, slotAt, bEq_int, bNe_int, ix0, ix1, ix2, ix3, iy0, iy1, iy2, iy3, opt_some, map_c, map_n, vmap_c, vmap_n, app_c, app_n, rep_s, rep_z, get_z, get_s, set_z, set_s, leng_c, leng_n, Nat.reduceSub, Nat.reduceAdd, not_t, not_f, Int.reduceToNat, Int.reducePow]
  obtain ⟨e, G, he, rfl, rfl, rfl, g⟩ := level_good hr hs hD hl
  have far63 := far63_of g.far h1
  obtain ⟨n, n1, n2, n3⟩ := Rn.home g far63
  have ok : (Rn.SF.mk e G).Ok (b * b - 4 * a * c) far := ⟨he, g⟩
  have hh := fun vs => fun hw => h far ⟨e, G⟩ p q r t n vs T.det ok far63 eA eB eC n2 n3 n1 hw
  clear h
  have hs0 := Rn.sr_home (s := ⟨e, G⟩) n2
  refine while_g (fun v m => ∃ (i : Nat) (x0 x1 x2 x3 : Int) (vs : List D) (s4 : Sl), v = [.val (.tup [.int ((Rn.sr far ⟨e, G⟩ i).e * (Rn.sr far ⟨e, G⟩ i).F.A), .int (Rn.sr far ⟨e, G⟩ i).F.B, .int (-((Rn.sr far ⟨e, G⟩ i).e * (Rn.sr far ⟨e, G⟩ i).F.C))]), .val (.tup [.int x0, .int x1, .int x2, .int x3]), .val (.int far), .ownd ((Rn.rnd far ⟨e, G⟩ i).map tupI) vs, s4] ∧ Turn (1 + (N + 2) * (N + 2) + 14 * i) x0 x1 x2 x3 ∧ i ≤ n ∧ n - i = m ∧ Mv a b c x0 x1 x2 x3 ((Rn.sr far ⟨e, G⟩ i).e * (Rn.sr far ⟨e, G⟩ i).F.A) (Rn.sr far ⟨e, G⟩ i).F.B (-((Rn.sr far ⟨e, G⟩ i).e * (Rn.sr far ⟨e, G⟩ i).F.C)) ∧ vs.length = i ∧ ∀ j, j < i → ∃ w, lookD (tupI (Rn.sr far ⟨e, G⟩ j).ns) ((Rn.rnd far ⟨e, G⟩ i).map tupI) vs = some w ∧ WayAt a b c w (Rn.sr far ⟨e, G⟩ j)) n ⟨0, p, q, r, t, [], .un, rfl, T, by omega, rfl, ⟨T.det, eA, eB, eC⟩, rfl, fun j hj => absurd hj (Nat.not_lt_zero j)⟩ ?_
  rintro v m K ⟨i, x0, x1, x2, x3, vs, s4, rfl, TT, hi, rfl, MM, hvs, hways⟩ ih
  have oki := ok.sr i
  have hin : inD (.tup [.int ((Rn.sr far ⟨e, G⟩ i).e * (Rn.sr far ⟨e, G⟩ i).F.A), .int (Rn.sr far ⟨e, G⟩ i).F.B, .int (-((Rn.sr far ⟨e, G⟩ i).e * (Rn.sr far ⟨e, G⟩ i).F.C))]) ((Rn.rnd far ⟨e, G⟩ i).map tupI) = decide (i = n) := by
    have k := Rn.inD_tup (Rn.sr far ⟨e, G⟩ i).ns (Rn.rnd far ⟨e, G⟩ i)
    have k0 : inD (tupI (Rn.sr far ⟨e, G⟩ i).ns) ((Rn.rnd far ⟨e, G⟩ i).map tupI) = decide (i = n) := by
      by_cases c : i = n
      · subst c
        rw [decide_eq_true rfl, k]
        unfold Rn.rnd
        rw [List.mem_map]
        exact ⟨0, List.mem_range.mpr n2.1, by rw [hs0]; rfl⟩
      · rw [decide_eq_false c, ← Bool.not_eq_true, k]
        unfold Rn.rnd
        rw [List.mem_map]
        rintro ⟨j, hj, e9⟩
        have hj := List.mem_range.mp hj
        exact Rn.sr_back ok n3 hj (show i < n by omega) (Rn.ns_inj (ok.sr j) oki e9)
    exact k0
  have hnext : (Rn.rnd far ⟨e, G⟩ (i + 1)) = Rn.rnd far ⟨e, G⟩ i ++ [(Rn.sr far ⟨e, G⟩ i).ns] := by
    unfold Rn.rnd
    rw [List.range_succ, List.map_append]; rfl
  have hlen : (Rn.rnd far ⟨e, G⟩ i).length = i := by
    unfold Rn.rnd
    rw [List.length_map, List.length_range]
  have hn1 : Rn.sr far ⟨e, G⟩ (i + 1) = ⟨-(Rn.sr far ⟨e, G⟩ i).e, Rn.nx far (Rn.sr far ⟨e, G⟩ i).F⟩ := rfl
  have hstep : ∀ w, inD (tupI (Rn.sr far ⟨e, G⟩ i).ns) ((Rn.rnd far ⟨e, G⟩ i).map tupI) = false → WayAt a b c w (Rn.sr far ⟨e, G⟩ i) → ∀ j, j < i + 1 → ∃ w', lookD (tupI (Rn.sr far ⟨e, G⟩ j).ns) ((Rn.rnd far ⟨e, G⟩ (i + 1)).map tupI) (vs ++ [w]) = some w' ∧ WayAt a b c w' (Rn.sr far ⟨e, G⟩ j) := fun w hno hw j hj => by
    rw [hnext, List.map_append]
    have hl2 : ((Rn.rnd far ⟨e, G⟩ i).map tupI).length = vs.length := by rw [List.length_map, hlen, hvs]
    show ∃ w', lookD _ (_ ++ [tupI _]) _ = some w' ∧ _
    rw [lookD_app hl2]
    rcases Nat.lt_or_ge j i with c | c
    · obtain ⟨w', e1, e2⟩ := hways j c
      rw [e1]; exact ⟨w', rfl, e2⟩
    · have : j = i := by omega
      subst this
      rw [lookD_out hno]
      refine ⟨w, ?_, hw⟩
      show (if D.eq (tupI _) (tupI _) = true then some w else none) = some w
      rw [if_pos ((Rn.tupI_eq _ _).mpr rfl)]
  have gg := fun x0 x1 x2 x3 w s4 => fun hlt T2 MM2 hno hw => ih _ (n - (i + 1)) (by omega) ⟨i + 1, x0, x1, x2, x3, vs ++ [w], s4, rfl, T2, hlt, rfl, MM2, by rw [List.length_append, hvs]; rfl, hstep w hno hw⟩
  rw [hn1, hnext] at gg
  try dsimp only [dSeq, dUnpL, lstOf_l, dCut, dSet, dSetV, dUnp, dPar, dDrop, dRet, dRetOwn, dRetN, dIf, dPass, dNext, dNever, dBreak, dCont, dFrz, frz, dTry, dRaise, isx_n, isx_o, dMeth, meth_b, meth_s, fld0b, fld0s, fld1b, fld1s, gr2, ws2, iso_bb, iso_bs, iso_ba, iso_sb, iso_ss, iso_sa, mk_obj, xf0, xf1, plain_o, dApp, dAug, setAll, dC, dVar, dView, dViewT, view, dOp, dUn, dAs, dNil, dCons, dAnd, dOr, dNot, dIte, dTup, dLst, dCall, dChain, two_t, two_f, cB, oIsi, oIsN, oNotN, dYes, dEach, dNoPart, dPart, dSl, use_val, use_own, use_ownd, bool_val, view_val, view_own, view_ownd, view_un, imm_val, imm_own, add_ii, add_ll, sub_ii, mul_ii, div_ii, mod_ii, pow_ii, shl_ii, cmp_ii, neg_i, isB_bb, notB_bb, len_t, len_l, abs_i, max_ii, min_ii, int_i, int_b, divmod_ii, isInt_i, isInt_t, isInt_n, isInt_b, isBool_i, isBool_b, isTuple_t, isTuple_i, isTuple_n, isList_l, isList_t, isStr_s, plain_i, plain_t, plain_l, plain_b, plain_n, plain_s, isNone_i, isNone_t, isNone_n, immI, immB, immN, immS, immT, immL_cons, immL_nil, told_val, getD_some, tupOf_t, given_own, given_ownd, items_l, items_t, owned_own, datum_val, asInt_i, asLst_l, slotAt, bEq_int, bNe_int, ix0, ix1, ix2, ix3, iy0, iy1, iy2, iy3, opt_some, map_c, map_n, vmap_c, vmap_n, app_c, app_n, rep_s, rep_z, get_z, get_s, set_z, set_s, leng_c, leng_n, Nat.reduceSub, Nat.reduceAdd, not_t, not_f, Int.reduceToNat, Int.reducePow]
  have hend : i = n → Q (.ownd ((Rn.rnd far ⟨e, G⟩ i).map tupI) vs) := fun e9 => by subst e9; exact hh vs hways
  generalize Rn.rnd far ⟨e, G⟩ i = ks at *
  generalize Rn.sr far ⟨e, G⟩ i = S at *
  refine ⟨rfl, ?_⟩
  rw [hin]
  refine two_nd (fun hne => ?_) fun heq => ?_
  · have pk : putKs (.tup [.int (S.e * S.F.A), .int S.F.B, .int (-(S.e * S.F.C))]) (ks.map tupI) = (ks ++ [S.ns]).map tupI := by
      unfold putKs
      rw [hin, decide_eq_false hne, if_neg Bool.false_ne_true, List.map_append]
      rfl
    have pv : ∀ w, putVs (.tup [.int (S.e * S.F.A), .int S.F.B, .int (-(S.e * S.F.C))]) w (ks.map tupI) vs = vs ++ [w] := fun w => by
      unfold putVs
      rw [hin, decide_eq_false hne, if_neg Bool.false_ne_true]
    have hin' : inD (tupI S.ns) (ks.map tupI) = false := hin.trans (decide_eq_false hne)
    dsimp only [dPut, Sl.ownedD, dSeq, dUnpL, lstOf_l, dCut, dSet, dSetV, dUnp, dPar, dDrop, dRet, dRetOwn, dRetN, dIf, dPass, dNext, dNever, dBreak, dCont, dFrz, frz, dTry, dRaise, isx_n, isx_o, dMeth, meth_b, meth_s, fld0b, fld0s, fld1b, fld1s, gr2, ws2, iso_bb, iso_bs, iso_ba, iso_sb, iso_ss, iso_sa, mk_obj, xf0, xf1, plain_o, dApp, dAug, setAll, dC, dVar, dView, dViewT, view, dOp, dUn, dAs, dNil, dCons, dAnd, dOr, dNot, dIte, dTup, dLst, dCall, dChain, two_t, two_f, cB, oIsi, oIsN, oNotN, dYes, dEach, dNoPart, dPart, dSl, use_val, use_own, use_ownd, bool_val, view_val, view_own, view_ownd, view_un, imm_val, imm_own, add_ii, add_ll, sub_ii, mul_ii, div_ii, mod_ii, pow_ii, shl_ii, cmp_ii, neg_i, isB_bb, notB_bb, len_t, len_l, abs_i, max_ii, min_ii, int_i, int_b, divmod_ii, isInt_i, isInt_t, isInt_n, isInt_b, isBool_i, isBool_b, isTuple_t, isTuple_i, isTuple_n, isList_l, isList_t, isStr_s, plain_i, plain_t, plain_l, plain_b, plain_n, plain_s, isNone_i, isNone_t, isNone_n, immI, immB, immN, immS, immT, immL_cons, immL_nil, told_val, getD_some, tupOf_t, given_own, given_ownd, items_l, items_t, owned_own, datum_val, asInt_i, asLst_l, slotAt, bEq_int, bNe_int, ix0, ix1, ix2, ix3, iy0, iy1, iy2, iy3, opt_some, map_c, map_n, vmap_c, vmap_n, app_c, app_n, rep_s, rep_z, get_z, get_s, set_z, set_s, leng_c, leng_n, Nat.reduceSub, Nat.reduceAdd, not_t, not_f, Int.reduceToNat, Int.reducePow]
    rw [pk, pv]
    refine ⟨⟨rfl, by rw [List.length_map]; omega⟩, ?_⟩
    obtain ⟨q1, q2⟩ := good_far oki.g oki.e
    have fi := good_form oki.g oki.e h1
    refine Pg.onward_ok fi (by decide) (by decide) (by have := oki.g.pl.c; omega) k1 far63 fun d k g1 g2 g3 bk => ?_
    rw [q1, if_neg (by omega)] at g1 g2
    obtain ⟨rfl, rfl⟩ := ring_step oki.g oki.e g1 g2 g3
    obtain ⟨v1, v2, v3⟩ := ring_form (far := far) (F := S.F) oki.e
    have one : Turn 13 0 (-1) 1 (-(S.e * Rn.kap far S.F)) := ⟨bd_up _ bd0, bd_up _ (bd_neg bd1), bd_up _ bd1, bk, by omega⟩
    try dsimp only [dSeq, dUnpL, lstOf_l, dCut, dSet, dSetV, dUnp, dPar, dDrop, dRet, dRetOwn, dRetN, dIf, dPass, dNext, dNever, dBreak, dCont, dFrz, frz, dTry, dRaise, isx_n, isx_o, dMeth, meth_b, meth_s, fld0b, fld0s, fld1b, fld1s, gr2, ws2, iso_bb, iso_bs, iso_ba, iso_sb, iso_ss, iso_sa, mk_obj, xf0, xf1, plain_o, dApp, dAug, setAll, dC, dVar, dView, dViewT, view, dOp, dUn, dAs, dNil, dCons, dAnd, dOr, dNot, dIte, dTup, dLst, dCall, dChain, two_t, two_f, cB, oIsi, oIsN, oNotN, dYes, dEach, dNoPart, dPart, dSl, use_val, use_own, use_ownd, bool_val, view_val, view_own, view_ownd, view_un, imm_val, imm_own, add_ii, add_ll, sub_ii, mul_ii, div_ii, mod_ii, pow_ii, shl_ii, cmp_ii, neg_i, isB_bb, notB_bb, len_t, len_l, abs_i, max_ii, min_ii, int_i, int_b, divmod_ii, isInt_i, isInt_t, isInt_n, isInt_b, isBool_i, isBool_b, isTuple_t, isTuple_i, isTuple_n, isList_l, isList_t, isStr_s, plain_i, plain_t, plain_l, plain_b, plain_n, plain_s, isNone_i, isNone_t, isNone_n, immI, immB, immN, immS, immT, immL_cons, immL_nil, told_val, getD_some, tupOf_t, given_own, given_ownd, items_l, items_t, owned_own, datum_val, asInt_i, asLst_l, slotAt, bEq_int, bNe_int, ix0, ix1, ix2, ix3, iy0, iy1, iy2, iy3, opt_some, map_c, map_n, vmap_c, vmap_n, app_c, app_n, rep_s, rep_z, get_z, get_s, set_z, set_s, leng_c, leng_n, Nat.reduceSub, Nat.reduceAdd, not_t, not_f, Int.reduceToNat, Int.reducePow]
    refine Pg.moved_ok fi one (by decide) (by decide) ?_
    try dsimp only [dSeq, dUnpL, lstOf_l, dCut, dSet, dSetV, dUnp, dPar, dDrop, dRet, dRetOwn, dRetN, dIf, dPass, dNext, dNever, dBreak, dCont, dFrz, frz, dTry, dRaise, isx_n, isx_o, dMeth, meth_b, meth_s, fld0b, fld0s, fld1b, fld1s, gr2, ws2, iso_bb, iso_bs, iso_ba, iso_sb, iso_ss, iso_sa, mk_obj, xf0, xf1, plain_o, dApp, dAug, setAll, dC, dVar, dView, dViewT, view, dOp, dUn, dAs, dNil, dCons, dAnd, dOr, dNot, dIte, dTup, dLst, dCall, dChain, two_t, two_f, cB, oIsi, oIsN, oNotN, dYes, dEach, dNoPart, dPart, dSl, use_val, use_own, use_ownd, bool_val, view_val, view_own, view_ownd, view_un, imm_val, imm_own, add_ii, add_ll, sub_ii, mul_ii, div_ii, mod_ii, pow_ii, shl_ii, cmp_ii, neg_i, isB_bb, notB_bb, len_t, len_l, abs_i, max_ii, min_ii, int_i, int_b, divmod_ii, isInt_i, isInt_t, isInt_n, isInt_b, isBool_i, isBool_b, isTuple_t, isTuple_i, isTuple_n, isList_l, isList_t, isStr_s, plain_i, plain_t, plain_l, plain_b, plain_n, plain_s, isNone_i, isNone_t, isNone_n, immI, immB, immN, immS, immT, immL_cons, immL_nil, told_val, getD_some, tupOf_t, given_own, given_ownd, items_l, items_t, owned_own, datum_val, asInt_i, asLst_l, slotAt, bEq_int, bNe_int, ix0, ix1, ix2, ix3, iy0, iy1, iy2, iy3, opt_some, map_c, map_n, vmap_c, vmap_n, app_c, app_n, rep_s, rep_z, get_z, get_s, set_z, set_s, leng_c, leng_n, Nat.reduceSub, Nat.reduceAdd, not_t, not_f, Int.reduceToNat, Int.reducePow]
    have hle2 : (N + 2) * (N + 2) ≤ 1502 * 1502 := Nat.mul_le_mul (by omega) (by omega)
    refine Pg.then_ok (TT.up (1 + (N + 2) * (N + 2) + 14 * (i + 1))) (one.up (1 + (N + 2) * (N + 2) + 14 * (i + 1))) (by omega) ?_
    try dsimp only [dSeq, dUnpL, lstOf_l, dCut, dSet, dSetV, dUnp, dPar, dDrop, dRet, dRetOwn, dRetN, dIf, dPass, dNext, dNever, dBreak, dCont, dFrz, frz, dTry, dRaise, isx_n, isx_o, dMeth, meth_b, meth_s, fld0b, fld0s, fld1b, fld1s, gr2, ws2, iso_bb, iso_bs, iso_ba, iso_sb, iso_ss, iso_sa, mk_obj, xf0, xf1, plain_o, dApp, dAug, setAll, dC, dVar, dView, dViewT, view, dOp, dUn, dAs, dNil, dCons, dAnd, dOr, dNot, dIte, dTup, dLst, dCall, dChain, two_t, two_f, cB, oIsi, oIsN, oNotN, dYes, dEach, dNoPart, dPart, dSl, use_val, use_own, use_ownd, bool_val, view_val, view_own, view_ownd, view_un, imm_val, imm_own, add_ii, add_ll, sub_ii, mul_ii, div_ii, mod_ii, pow_ii, shl_ii, cmp_ii, neg_i, isB_bb, notB_bb, len_t, len_l, abs_i, max_ii, min_ii, int_i, int_b, divmod_ii, isInt_i, isInt_t, isInt_n, isInt_b, isBool_i, isBool_b, isTuple_t, isTuple_i, isTuple_n, isList_l, isList_t, isStr_s, plain_i, plain_t, plain_l, plain_b, plain_n, plain_s, isNone_i, isNone_t, isNone_n, immI, immB, immN, immS, immT, immL_cons, immL_nil, told_val, getD_some, tupOf_t, given_own, given_ownd, items_l, items_t, owned_own, datum_val, asInt_i, asLst_l, slotAt, bEq_int, bNe_int, ix0, ix1, ix2, ix3, iy0, iy1, iy2, iy3, opt_some, map_c, map_n, vmap_c, vmap_n, app_c, app_n, rep_s, rep_z, get_z, get_s, set_z, set_s, leng_c, leng_n, Nat.reduceSub, Nat.reduceAdd, not_t, not_f, Int.reduceToNat, Int.reducePow]
    have T2 := TT.put one (K := 1 + (N + 2) * (N + 2) + 14 * (i + 1))
    rw [v1, v2, v3]
    have MM2 := MM.put (Mv.of one.det)
    rw [v1, v2, v3] at MM2
    exact gg _ _ _ _ _ _ (by omega) T2 MM2 hin' ⟨_, _, _, _, rfl, TT.up 2500000 (by omega), MM⟩
  · exact hend heq

theorem cut_from (l : List D) (j : Nat) (h : j ≤ l.length) : cutD l (some (j : Int)) none = l.drop j := by
  unfold cutD sIx
  dsimp only
  rw [if_neg (by omega)]
  have e1 : (j : Int).toNat = j := by omega
  rw [e1, Nat.min_eq_left h]
  exact List.take_of_length_le (by rw [List.length_drop]; omega)
theorem cut_to (l : List D) (j : Nat) (h : j ≤ l.length) : cutD l none (some (j : Int)) = l.take j := by
  unfold cutD sIx
  dsimp only
  rw [if_neg (by omega)]
  have e1 : (j : Int).toNat = j := by omega
  rw [e1, Nat.min_eq_left h]
  rfl
theorem keyed3 (a b c : Int) : (D.tup [.int a, .int b, .int c]).keyed = true := rfl
theorem Pg.round_ok {a b c : Int} {N : Nat} (f : Form N a b c) (hN : 12 ≤ N) (hN2 : N ≤ 1500) (h0 : 0 ≤ b * b - 4 * a * c) (h1 : b * b - 4 * a * c ≤ 4000) (hs : ¬ Sq (b * b - 4 * a * c)) {Q : DK} {X : DX}
    (h : ∀ far (s : Rn.SF) p q r t n at' R, p * t - q * r = 1 → s.Ok (b * b - 4 * a * c) far → far ≤ 63 → s.e * s.F.A = vf a b c p r → s.F.B = mf a b c p q r t → -(s.e * s.F.C) = vf a b c q t → Rn.IsRound far s R n at' → n ≤ 1428 → R.length = n → Q (.own (R.map tupI))) : Pg.w_round_of [.tup [.int a, .int b, .int c]] Q X := by
  refine fun_mk ?_
  dsimp only [Pg.t_round_of, dSeq, dUnpL, lstOf_l, dCut, dSet, dSetV, dUnp, dPar, dDrop, dRet, dRetOwn, dRetN, dIf, dPass, dNext, dNever, dBreak, dCont, dFrz, frz, dTry, dRaise, isx_n, isx_o, dMeth, meth_b, meth_s, fld0b, fld0s, fld1b, fld1s, gr2, ws2, iso_bb, iso_bs, iso_ba, iso_sb, iso_ss, iso_sa, mk_obj, xf0, xf1, plain_o, dApp, dAug, setAll, dC, dVar, dView, dViewT, view, dOp, dUn, dAs, dNil, dCons, dAnd, dOr, dNot, dIte, dTup, dLst, dCall, dChain, two_t, two_f, cB, oIsi, oIsN, oNotN, dYes, dEach, dNoPart, dPart, dSl, use_val, use_own, use_ownd, bool_val, view_val, view_own, view_ownd, view_un, imm_val, imm_own, add_ii, add_ll, sub_ii, mul_ii, div_ii, mod_ii, pow_ii, shl_ii, cmp_ii, neg_i, isB_bb, notB_bb, len_t, len_l, abs_i, max_ii, min_ii, int_i, int_b, divmod_ii, isInt_i, isInt_t, isInt_n, isInt_b, isBool_i, isBool_b, isTuple_t, isTuple_i, isTuple_n, isList_l, isList_t, isStr_s, plain_i, plain_t, plain_l, plain_b, plain_n, plain_s, isNone_i, isNone_t, isNone_n, immI, immB, immN, immS, immT, immL_cons, immL_nil, told_val, getD_some, tupOf_t, given_own, given_ownd, items_l, items_t, owned_own, datum_val, asInt_i, asLst_l, slotAt, bEq_int, bNe_int, ix0, ix1, ix2, ix3, iy0, iy1, iy2, iy3, opt_some, map_c, map_n, vmap_c, vmap_n, app_c, app_n, rep_s, rep_z, get_z, get_s, set_z, set_s, leng_c, leng_n, Nat.reduceSub, Nat.reduceAdd, not_t, not_f, Int.reduceToNat, Int.reducePow]
  refine ⟨rfl, Pg.ways_ok f hN hN2 h0 h1 hs fun far s p q r t n vs hdet ok far63 eA eB eC n2 n3 n1 _ => ?_⟩
  try dsimp only [dSeq, dUnpL, lstOf_l, dCut, dSet, dSetV, dUnp, dPar, dDrop, dRet, dRetOwn, dRetN, dIf, dPass, dNext, dNever, dBreak, dCont, dFrz, frz, dTry, dRaise, isx_n, isx_o, dMeth, meth_b, meth_s, fld0b, fld0s, fld1b, fld1s, gr2, ws2, iso_bb, iso_bs, iso_ba, iso_sb, iso_ss, iso_sa, mk_obj, xf0, xf1, plain_o, dApp, dAug, setAll, dC, dVar, dView, dViewT, view, dOp, dUn, dAs, dNil, dCons, dAnd, dOr, dNot, dIte, dTup, dLst, dCall, dChain, two_t, two_f, cB, oIsi, oIsN, oNotN, dYes, dEach, dNoPart, dPart, dSl, use_val, use_own, use_ownd, bool_val, view_val, view_own, view_ownd, view_un, imm_val, imm_own, add_ii, add_ll, sub_ii, mul_ii, div_ii, mod_ii, pow_ii, shl_ii, cmp_ii, neg_i, isB_bb, notB_bb, len_t, len_l, abs_i, max_ii, min_ii, int_i, int_b, divmod_ii, isInt_i, isInt_t, isInt_n, isInt_b, isBool_i, isBool_b, isTuple_t, isTuple_i, isTuple_n, isList_l, isList_t, isStr_s, plain_i, plain_t, plain_l, plain_b, plain_n, plain_s, isNone_i, isNone_t, isNone_n, immI, immB, immN, immS, immT, immL_cons, immL_nil, told_val, getD_some, tupOf_t, given_own, given_ownd, items_l, items_t, owned_own, datum_val, asInt_i, asLst_l, slotAt, bEq_int, bNe_int, ix0, ix1, ix2, ix3, iy0, iy1, iy2, iy3, opt_some, map_c, map_n, vmap_c, vmap_n, app_c, app_n, rep_s, rep_z, get_z, get_s, set_z, set_s, leng_c, leng_n, Nat.reduceSub, Nat.reduceAdd, not_t, not_f, Int.reduceToNat, Int.reducePow]
  have hs0 := Rn.sr_home n2
  have hlen : (Rn.rnd far s n).length = n := by
    unfold Rn.rnd
    rw [List.length_map, List.length_range]
  have hmem := Rn.rnd_mem n2.1 hs0
  have hturn := fun a ha => Rn.rnd_turned hs0 (a := a) ha
  have hget : ∀ a m, (Rn.rnd far s n)[a]? = some m → a < n ∧ (Rn.sr far s a).ns = m := fun a m e => by
    unfold Rn.rnd at e
    rw [List.getElem?_map] at e
    rcases Nat.lt_or_ge a n with v | v
    · rw [List.getElem?_range v] at e
      exact ⟨v, Option.some.inj e⟩
    · rw [List.getElem?_eq_none (by rw [List.length_range]; exact v)] at e
      exact absurd e (by simp)
  have hint := Rn.ints_map (Rn.rnd far s n)
  have hnum := Rn.nums_map (Rn.rnd far s n)
  have hdat : datL 29 ((Rn.rnd far s n).map tupI) = true := Rn.dat_map 28 _
  have hidx := @Rn.idx_tup
  have hfin := fun a' R => h far s p q r t n a' R hdet ok far63 eA eB eC
  clear h
  generalize hL : Rn.rnd far s n = L at *
  cases L with
  | nil =>
    rw [List.length_nil] at hlen
    have := n2.1
    omega
  | cons x l =>
    dsimp only [fListD, dIndex, fMinT, one1, List.map, ixL, dSeq, dUnpL, lstOf_l, dCut, dSet, dSetV, dUnp, dPar, dDrop, dRet, dRetOwn, dRetN, dIf, dPass, dNext, dNever, dBreak, dCont, dFrz, frz, dTry, dRaise, isx_n, isx_o, dMeth, meth_b, meth_s, fld0b, fld0s, fld1b, fld1s, gr2, ws2, iso_bb, iso_bs, iso_ba, iso_sb, iso_ss, iso_sa, mk_obj, xf0, xf1, plain_o, dApp, dAug, setAll, dC, dVar, dView, dViewT, view, dOp, dUn, dAs, dNil, dCons, dAnd, dOr, dNot, dIte, dTup, dLst, dCall, dChain, two_t, two_f, cB, oIsi, oIsN, oNotN, dYes, dEach, dNoPart, dPart, dSl, use_val, use_own, use_ownd, bool_val, view_val, view_own, view_ownd, view_un, imm_val, imm_own, add_ii, add_ll, sub_ii, mul_ii, div_ii, mod_ii, pow_ii, shl_ii, cmp_ii, neg_i, isB_bb, notB_bb, len_t, len_l, abs_i, max_ii, min_ii, int_i, int_b, divmod_ii, isInt_i, isInt_t, isInt_n, isInt_b, isBool_i, isBool_b, isTuple_t, isTuple_i, isTuple_n, isList_l, isList_t, isStr_s, plain_i, plain_t, plain_l, plain_b, plain_n, plain_s, isNone_i, isNone_t, isNone_n, immI, immB, immN, immS, immT, immL_cons, immL_nil, told_val, getD_some, tupOf_t, given_own, given_ownd, items_l, items_t, owned_own, datum_val, asInt_i, asLst_l, slotAt, bEq_int, bNe_int, ix0, ix1, ix2, ix3, iy0, iy1, iy2, iy3, opt_some, map_c, map_n, vmap_c, vmap_n, app_c, app_n, rep_s, rep_z, get_z, get_s, set_z, set_s, leng_c, leng_n, Nat.reduceSub, Nat.reduceAdd, not_t, not_f, Int.reduceToNat, Int.reducePow]
    refine ⟨hint, ?_⟩
    injection hnum with e1 e2
    rw [e1, e2]
    have hm0 := Rn.minL_mem x l
    have hmle := Rn.minL_le x l
    generalize minL x l = m at *
    obtain ⟨at', i1, i2⟩ := hidx hm0
    obtain ⟨lt, e3⟩ := hget _ _ i2
    have hd1 : D.dat 29 (tupI m) = true := datL_ints 28 m
    have i1' : idxD (tupI m) (tupI x :: l.map tupI) = some at' := i1
    have hd2 : datL 29 (tupI x :: l.map tupI) = true := hdat
    rw [i1', hd1, hd2]
    have hl : (tupI x :: l.map tupI).length = n := by rw [← hlen, List.length_cons, List.length_cons, List.length_map]
    have c1 := cut_from (tupI x :: l.map tupI) at' (by omega)
    have c2 := cut_to (tupI x :: l.map tupI) at' (by omega)
    have e4 := hturn at' (by omega)
    have e5 : (tupI x :: l.map tupI).drop at' ++ (tupI x :: l.map tupI).take at' = (Rn.canon far s at' n).map tupI := by
      rw [← e4, List.map_append, List.map_drop, List.map_take]; rfl
    refine ⟨rfl, ?_⟩
    show _ ∧ _
    rw [c1, c2, e5]
    refine ⟨by rw [List.length_drop, List.length_take]; omega, ?_⟩
    exact hfin at' _ ⟨n2, n3, rfl, fun y hy => by rw [e3]; rw [hL] at hy; exact hmle y hy⟩ n1 (by unfold Rn.canon; rw [List.length_map, List.length_range])

/-- a form that one turn leads to, from what another leads to -/
theorem form_between {a b c p q r t p1 q1 r1 t1 : Int} (h : p * t - q * r = 1) (h1 : p1 * t1 - q1 * r1 = 1) : ∃ x y z w, x * w - y * z = 1 ∧ vf (vf a b c p r) (mf a b c p q r t) (vf a b c q t) x z = vf a b c p1 r1 ∧ mf (vf a b c p r) (mf a b c p q r t) (vf a b c q t) x y z w = mf a b c p1 q1 r1 t1 ∧ vf (vf a b c p r) (mf a b c p q r t) (vf a b c q t) y w = vf a b c q1 t1 := by
  refine ⟨t * p1 - q * r1, t * q1 - q * t1, -r * p1 + p * r1, -r * q1 + p * t1, ?_, ?_⟩
  · have : (t * p1 - q * r1) * (-r * q1 + p * t1) - (t * q1 - q * t1) * (-r * p1 + p * r1) = (p * t - q * r) * (p1 * t1 - q1 * r1) := by grind
    rw [this, h, h1]; rfl
  · rw [vf_moved, mf_moved, vf_moved]
    have g1 : ∀ x y, p * (t * x - q * y) + q * (-r * x + p * y) = x := fun x y => by
      have : p * (t * x - q * y) + q * (-r * x + p * y) = (p * t - q * r) * x := by grind
      rw [this, h, Int.one_mul]
    have g2 : ∀ x y, r * (t * x - q * y) + t * (-r * x + p * y) = y := fun x y => by
      have : r * (t * x - q * y) + t * (-r * x + p * y) = (p * t - q * r) * y := by grind
      rw [this, h, Int.one_mul]
    rw [g1, g1, g2, g2]
    exact ⟨rfl, rfl, rfl⟩
/-- signed level forms that a turn joins lie on one ring -/
theorem joined_sf {D far : Int} {s t : Rn.SF} (hs : s.Ok D far) (ht : t.Ok D far) (h63 : far ≤ 63) {p q r w : Int} (hd : p * w - q * r = 1) (e1 : t.e * t.F.A = vf (s.e * s.F.A) s.F.B (-(s.e * s.F.C)) p r) (e2 : t.F.B = mf (s.e * s.F.A) s.F.B (-(s.e * s.F.C)) p q r w) (e3 : -(t.e * t.F.C) = vf (s.e * s.F.A) s.F.B (-(s.e * s.F.C)) q w) : ∃ i, Rn.sr far s i = t := by
  have h0 := hs.e
  have h1 := ht.e
  have hb : Rn.By s.F.A s.F.B s.F.C p (t.e * q) (s.e * r) (s.e * (t.e * w)) t.F.A t.F.B t.F.C (s.e * t.e) := by
    unfold vf at e1 e3
    unfold mf at e2
    generalize s.e = e at *
    generalize t.e = f at *
    rcases h0 with rfl | rfl <;> rcases h1 with rfl | rfl <;> refine ⟨by grind, by grind, by grind, by grind⟩
  obtain ⟨i, g1, g2⟩ := Rn.joined hs.g ht.g h63 (mul_sign h0 h1) hb
  refine ⟨i, ?_⟩
  have k1 := Rn.sr_F far s i
  have k2 := Rn.sr_e far s i
  rw [g1] at k1
  have k3 : (Rn.sr far s i).e = t.e := by
    rw [k2]
    by_cases c : i % 2 = 0
    · rw [if_pos c] at g2 ⊢
      rcases h0 with v | v <;> rcases h1 with u | u <;> rw [v, u] at g2 ⊢ <;> omega
    · rw [if_neg c] at g2 ⊢
      rcases h0 with v | v <;> rcases h1 with u | u <;> rw [v, u] at g2 ⊢ <;> omega
  cases h : Rn.sr far s i
  rw [h] at k1 k3
  cases t
  dsimp only at *
  subst k1 k3
  rfl
theorem eqL_rows : ∀ R : List (List Int), eqL (R.map tupI) (R.map tupI) = true
  | [] => rfl
  | x :: R => by
    show (eqL (x.map D.int) (x.map D.int) && eqL (R.map tupI) (R.map tupI)) = true
    rw [eqL_ints, eqL_rows R]; rfl
theorem bEq_rows (R : List (List Int)) {k : Bool → Prop} (h : k true) : bEq (.lst (R.map tupI)) (.lst (R.map tupI)) k := by
  refine ⟨?_, ?_⟩
  · show (datL 29 _ && datL 29 _) = true
    rw [Rn.dat_map 28]; rfl
  · show k (eqL _ _)
    rw [eqL_rows]; exact h

theorem Lw.whole_ok (i : Int) (Q : DK) (X : DX) (h : Q (.val (.bl true))) : Lw.w_law_whole [.int i] Q X := fun_mk ⟨rfl, rfl, rfl, h⟩

theorem Lw.wholes_ok (l : List Int) (n : Int) (hn : n = l.length) (hl : l.length ≤ 1000) (Q : DK) (X : DX) (h : Q (.val (.bl true))) : Lw.w_law_wholes [.tup (l.map D.int), .int n] Q X := by
  subst hn
  refine fun_mk ?_
  dsimp only [Lw.t_law_wholes, dSeq, dUnpL, lstOf_l, dCut, dSet, dSetV, dUnp, dPar, dDrop, dRet, dRetOwn, dRetN, dIf, dPass, dNext, dNever, dBreak, dCont, dFrz, frz, dTry, dRaise, isx_n, isx_o, dMeth, meth_b, meth_s, fld0b, fld0s, fld1b, fld1s, gr2, ws2, iso_bb, iso_bs, iso_ba, iso_sb, iso_ss, iso_sa, mk_obj, xf0, xf1, plain_o, dApp, dAug, setAll, dC, dVar, dView, dViewT, view, dOp, dUn, dAs, dNil, dCons, dAnd, dOr, dNot, dIte, dTup, dLst, dCall, dChain, two_t, two_f, cB, oIsi, oIsN, oNotN, dYes, dEach, dNoPart, dPart, dSl, use_val, use_own, use_ownd, bool_val, view_val, view_own, view_ownd, view_un, imm_val, imm_own, add_ii, add_ll, sub_ii, mul_ii, div_ii, mod_ii, pow_ii, shl_ii, cmp_ii, neg_i, isB_bb, notB_bb, len_t, len_l, abs_i, max_ii, min_ii, int_i, int_b, divmod_ii, isInt_i, isInt_t, isInt_n, isInt_b, isBool_i, isBool_b, isTuple_t, isTuple_i, isTuple_n, isList_l, isList_t, isStr_s, plain_i, plain_t, plain_l, plain_b, plain_n, plain_s, isNone_i, isNone_t, isNone_n, immI, immB, immN, immS, immT, immL_cons, immL_nil, told_val, getD_some, tupOf_t, given_own, given_ownd, items_l, items_t, owned_own, datum_val, asInt_i, asLst_l, slotAt, bEq_int, bNe_int, ix0, ix1, ix2, ix3, iy0, iy1, iy2, iy3, opt_some, map_c, map_n, vmap_c, vmap_n, app_c, app_n, rep_s, rep_z, get_z, get_s, set_z, set_s, leng_c, leng_n, Nat.reduceSub, Nat.reduceAdd, not_t, not_f, Int.reduceToNat, Int.reducePow, dLc, itemsL_t]
  rw [List.length_map]
  refine ⟨rfl, rfl, two_nd (fun h0 => absurd rfl h0) fun _ => ⟨by omega, each_all _ (fun d hd k hk => ?_) _ ?_⟩⟩
  · obtain ⟨i, _, rfl⟩ := List.mem_map.mp hd
    exact Lw.whole_ok i _ _ hk
  · rw [List.length_map, decide_eq_true rfl]
    exact h
theorem Lw.wholes2_ok (a b : Int) {Q : DK} {X : DX} (h : Q (.val (.bl true))) : Lw.w_law_wholes [.tup [.int a, .int b], .int 2] Q X := Lw.wholes_ok [a, b] 2 rfl (by decide : 2 ≤ 1000) Q X h
theorem Lw.wholes3 (a b c : Int) {Q : DK} {X : DX} (h : Q (.val (.bl true))) : Lw.w_law_wholes [.tup [.int a, .int b, .int c], .int 3] Q X := Lw.wholes_ok [a, b, c] 3 rfl (by decide : 3 ≤ 1000) Q X h
theorem Lw.wholes4_ok (a b c d : Int) {Q : DK} {X : DX} (h : Q (.val (.bl true))) : Lw.w_law_wholes [.tup [.int a, .int b, .int c, .int d], .int 4] Q X := Lw.wholes_ok [a, b, c, d] 4 rfl (by decide : 4 ≤ 1000) Q X h

abbrev tri (a b c : Int) : D := .tup [.int a, .int b, .int c]
theorem Lw.behind_ok {a b c top : Int} (f : Form 20 a b c) (hc : c ≠ 0) (ht : (c.natAbs : Int) ≤ top) (bt : Bd top 20) {Q : DK} {X : DX}
    (h : ∀ d k, top - 2 * (c.natAbs : Int) < d → d ≤ top → b + d = 2 * c * k → Q (.val (tri c d (vf a b c (-1) k)))) : Lw.w_law_behind [tri a b c, .int top] Q X := by
  refine fun_mk ?_
  dsimp only [Lw.t_law_behind, dSeq, dUnpL, lstOf_l, dCut, dSet, dSetV, dUnp, dPar, dDrop, dRet, dRetOwn, dRetN, dIf, dPass, dNext, dNever, dBreak, dCont, dFrz, frz, dTry, dRaise, isx_n, isx_o, dMeth, meth_b, meth_s, fld0b, fld0s, fld1b, fld1s, gr2, ws2, iso_bb, iso_bs, iso_ba, iso_sb, iso_ss, iso_sa, mk_obj, xf0, xf1, plain_o, dApp, dAug, setAll, dC, dVar, dView, dViewT, view, dOp, dUn, dAs, dNil, dCons, dAnd, dOr, dNot, dIte, dTup, dLst, dCall, dChain, two_t, two_f, cB, oIsi, oIsN, oNotN, dYes, dEach, dNoPart, dPart, dSl, use_val, use_own, use_ownd, bool_val, view_val, view_own, view_ownd, view_un, imm_val, imm_own, add_ii, add_ll, sub_ii, mul_ii, div_ii, mod_ii, pow_ii, shl_ii, cmp_ii, neg_i, isB_bb, notB_bb, len_t, len_l, abs_i, max_ii, min_ii, int_i, int_b, divmod_ii, isInt_i, isInt_t, isInt_n, isInt_b, isBool_i, isBool_b, isTuple_t, isTuple_i, isTuple_n, isList_l, isList_t, isStr_s, plain_i, plain_t, plain_l, plain_b, plain_n, plain_s, isNone_i, isNone_t, isNone_n, immI, immB, immN, immS, immT, immL_cons, immL_nil, told_val, getD_some, tupOf_t, given_own, given_ownd, items_l, items_t, owned_own, datum_val, asInt_i, asLst_l, slotAt, bEq_int, bNe_int, ix0, ix1, ix2, ix3, iy0, iy1, iy2, iy3, opt_some, map_c, map_n, vmap_c, vmap_n, app_c, app_n, rep_s, rep_z, get_z, get_s, set_z, set_s, leng_c, leng_n, Nat.reduceSub, Nat.reduceAdd, not_t, not_f, Int.reduceToNat, Int.reducePow]
  have g1 := fm (top + b) (y := 2 * (c.natAbs : Int)) (by omega)
  have g2 := Int.mul_fdiv_add_fmod (top + b) (2 * (c.natAbs : Int))
  generalize (top + b).fmod (2 * (c.natAbs : Int)) = t at *
  generalize (top + b).fdiv (2 * (c.natAbs : Int)) = q at *
  have hs : b + (top - t) = 2 * c * (if 0 ≤ c then q else -q) := by
    by_cases hc0 : 0 ≤ c
    · rw [if_pos hc0]
      have : (c.natAbs : Int) = c := by omega
      rw [this] at g2
      omega
    · rw [if_neg hc0]
      have : (c.natAbs : Int) = -c := by omega
      rw [this] at g2
      have e : 2 * -c * q = 2 * c * -q := by grind
      omega
  generalize (if 0 ≤ c then q else -q) = k at *
  have hq := h (top - t) k (by omega) (by omega) hs
  have bd : Bd (top - t) 22 := by
    have h1 := bt.h
    have h2 := f.bc.h
    exact ⟨by omega⟩
  have e3 : (top - t) * (top - t) - (b * b - 4 * a * c) = 4 * c * vf a b c (-1) k := by
    have : top - t = 2 * c * k - b := by omega
    rw [this]; unfold vf; grind
  refine ⟨rfl, rfl, szL (by decide), by omega, szB bd bd (by decide), Lw.bar_ok (f.up 300) ?_⟩
  try dsimp only [dSeq, dUnpL, lstOf_l, dCut, dSet, dSetV, dUnp, dPar, dDrop, dRet, dRetOwn, dRetN, dIf, dPass, dNext, dNever, dBreak, dCont, dFrz, frz, dTry, dRaise, isx_n, isx_o, dMeth, meth_b, meth_s, fld0b, fld0s, fld1b, fld1s, gr2, ws2, iso_bb, iso_bs, iso_ba, iso_sb, iso_ss, iso_sa, mk_obj, xf0, xf1, plain_o, dApp, dAug, setAll, dC, dVar, dView, dViewT, view, dOp, dUn, dAs, dNil, dCons, dAnd, dOr, dNot, dIte, dTup, dLst, dCall, dChain, two_t, two_f, cB, oIsi, oIsN, oNotN, dYes, dEach, dNoPart, dPart, dSl, use_val, use_own, use_ownd, bool_val, view_val, view_own, view_ownd, view_un, imm_val, imm_own, add_ii, add_ll, sub_ii, mul_ii, div_ii, mod_ii, pow_ii, shl_ii, cmp_ii, neg_i, isB_bb, notB_bb, len_t, len_l, abs_i, max_ii, min_ii, int_i, int_b, divmod_ii, isInt_i, isInt_t, isInt_n, isInt_b, isBool_i, isBool_b, isTuple_t, isTuple_i, isTuple_n, isList_l, isList_t, isStr_s, plain_i, plain_t, plain_l, plain_b, plain_n, plain_s, isNone_i, isNone_t, isNone_n, immI, immB, immN, immS, immT, immL_cons, immL_nil, told_val, getD_some, tupOf_t, given_own, given_ownd, items_l, items_t, owned_own, datum_val, asInt_i, asLst_l, slotAt, bEq_int, bNe_int, ix0, ix1, ix2, ix3, iy0, iy1, iy2, iy3, opt_some, map_c, map_n, vmap_c, vmap_n, app_c, app_n, rep_s, rep_z, get_z, get_s, set_z, set_s, leng_c, leng_n, Nat.reduceSub, Nat.reduceAdd, not_t, not_f, Int.reduceToNat, Int.reducePow]
  rw [e3, Int.mul_fdiv_cancel_left _ (by omega)]
  exact ⟨szL (by decide), @divBd _ _ _ (bd_mul bd4 f.bc) (by omega) (by decide), hq⟩
theorem Lw.step_ok {D far : Int} {s : Rn.SF} (ok : s.Ok D far) (h4 : D ≤ 4000) (h63 : far ≤ 63) {Q : DK} {X : DX} (hq : Q (.val (tupI (Rn.sr far s 1).ns))) : Lw.w_law_behind [tupI s.ns, .int far] Q X := by
  have hn1 : Rn.sr far s 1 = ⟨-s.e, Rn.nx far s.F⟩ := rfl
  rw [hn1] at hq
  have f := good_form ok.g ok.e h4
  obtain ⟨q1, q2⟩ := good_far ok.g ok.e
  have hc := ok.g.pl.c
  have hf0 := ok.g.far.n
  show Lw.w_law_behind [tri (s.e * s.F.A) s.F.B (-(s.e * s.F.C)), .int far] Q X
  refine Lw.behind_ok (f.up 20) (by omega) (by omega) ⟨by omega⟩ fun d k g1 g2 g3 => ?_
  rw [q1] at g1
  obtain ⟨rfl, rfl⟩ := ring_step ok.g ok.e g1 g2 g3
  obtain ⟨v1, v2, v3⟩ := ring_form (far := far) (F := s.F) ok.e
  have w1 : -(s.e * s.F.C) = -s.e * (Rn.nx far s.F).A := by
    rw [← v1]; unfold vf; grind
  rw [v3, w1]
  exact hq
/-- the law's way to a level form -/
theorem Lw.eased_ok {a b c far D : Int} (F : Form 20 a b c) (hD : b * b - 4 * a * c = D) (h4 : D ≤ 4000) (hs : ¬ Sq D) (hr : IsRoot D far) {Q : DK} {X : DX} (h : ∀ s : Rn.SF, s.Ok D far → Joined a b c (s.e * s.F.A) s.F.B (-(s.e * s.F.C)) → Q (.val (tupI s.ns))) : Lw.w_law_eased [tri a b c, .int far] Q X := by
  refine fun_mk ?_
  dsimp only [Lw.t_law_eased, dSeq, dUnpL, lstOf_l, dCut, dSet, dSetV, dUnp, dPar, dDrop, dRet, dRetOwn, dRetN, dIf, dPass, dNext, dNever, dBreak, dCont, dFrz, frz, dTry, dRaise, isx_n, isx_o, dMeth, meth_b, meth_s, fld0b, fld0s, fld1b, fld1s, gr2, ws2, iso_bb, iso_bs, iso_ba, iso_sb, iso_ss, iso_sa, mk_obj, xf0, xf1, plain_o, dApp, dAug, setAll, dC, dVar, dView, dViewT, view, dOp, dUn, dAs, dNil, dCons, dAnd, dOr, dNot, dIte, dTup, dLst, dCall, dChain, two_t, two_f, cB, oIsi, oIsN, oNotN, dYes, dEach, dNoPart, dPart, dSl, use_val, use_own, use_ownd, bool_val, view_val, view_own, view_ownd, view_un, imm_val, imm_own, add_ii, add_ll, sub_ii, mul_ii, div_ii, mod_ii, pow_ii, shl_ii, cmp_ii, neg_i, isB_bb, notB_bb, len_t, len_l, abs_i, max_ii, min_ii, int_i, int_b, divmod_ii, isInt_i, isInt_t, isInt_n, isInt_b, isBool_i, isBool_b, isTuple_t, isTuple_i, isTuple_n, isList_l, isList_t, isStr_s, plain_i, plain_t, plain_l, plain_b, plain_n, plain_s, isNone_i, isNone_t, isNone_n, immI, immB, immN, immS, immT, immL_cons, immL_nil, told_val, getD_some, tupOf_t, given_own, given_ownd, items_l, items_t, owned_own, datum_val, asInt_i, asLst_l, slotAt, bEq_int, bNe_int, ix0, ix1, ix2, ix3, iy0, iy1, iy2, iy3, opt_some, map_c, map_n, vmap_c, vmap_n, app_c, app_n, rep_s, rep_z, get_z, get_s, set_z, set_s, leng_c, leng_n, Nat.reduceSub, Nat.reduceAdd, not_t, not_f, Int.reduceToNat, Int.reducePow]
  refine ⟨rfl, while_g (fun e m => ∃ (A B C : Int), e = [.val (tri A B C), .val (.int far)] ∧ Form 20 A B C ∧ Joined a b c A B C ∧ B * B - 4 * A * C = D ∧ m = easeLeft A B C far) (easeLeft a b c far) ⟨a, b, c, rfl, F, .same _ _ _, hD, rfl⟩ ?_⟩
  rintro e m G ⟨A, B, C, rfl, FF, J, hD, rfl⟩ ih
  try dsimp only [dSeq, dUnpL, lstOf_l, dCut, dSet, dSetV, dUnp, dPar, dDrop, dRet, dRetOwn, dRetN, dIf, dPass, dNext, dNever, dBreak, dCont, dFrz, frz, dTry, dRaise, isx_n, isx_o, dMeth, meth_b, meth_s, fld0b, fld0s, fld1b, fld1s, gr2, ws2, iso_bb, iso_bs, iso_ba, iso_sb, iso_ss, iso_sa, mk_obj, xf0, xf1, plain_o, dApp, dAug, setAll, dC, dVar, dView, dViewT, view, dOp, dUn, dAs, dNil, dCons, dAnd, dOr, dNot, dIte, dTup, dLst, dCall, dChain, two_t, two_f, cB, oIsi, oIsN, oNotN, dYes, dEach, dNoPart, dPart, dSl, use_val, use_own, use_ownd, bool_val, view_val, view_own, view_ownd, view_un, imm_val, imm_own, add_ii, add_ll, sub_ii, mul_ii, div_ii, mod_ii, pow_ii, shl_ii, cmp_ii, neg_i, isB_bb, notB_bb, len_t, len_l, abs_i, max_ii, min_ii, int_i, int_b, divmod_ii, isInt_i, isInt_t, isInt_n, isInt_b, isBool_i, isBool_b, isTuple_t, isTuple_i, isTuple_n, isList_l, isList_t, isStr_s, plain_i, plain_t, plain_l, plain_b, plain_n, plain_s, isNone_i, isNone_t, isNone_n, immI, immB, immN, immS, immT, immL_cons, immL_nil, told_val, getD_some, tupOf_t, given_own, given_ownd, items_l, items_t, owned_own, datum_val, asInt_i, asLst_l, slotAt, bEq_int, bNe_int, ix0, ix1, ix2, ix3, iy0, iy1, iy2, iy3, opt_some, map_c, map_n, vmap_c, vmap_n, app_c, app_n, rep_s, rep_z, get_z, get_s, set_z, set_s, leng_c, leng_n, Nat.reduceSub, Nat.reduceAdd, not_t, not_f, Int.reduceToNat, Int.reducePow]
  refine Lw.level_ok ?_
  try dsimp only [dSeq, dUnpL, lstOf_l, dCut, dSet, dSetV, dUnp, dPar, dDrop, dRet, dRetOwn, dRetN, dIf, dPass, dNext, dNever, dBreak, dCont, dFrz, frz, dTry, dRaise, isx_n, isx_o, dMeth, meth_b, meth_s, fld0b, fld0s, fld1b, fld1s, gr2, ws2, iso_bb, iso_bs, iso_ba, iso_sb, iso_ss, iso_sa, mk_obj, xf0, xf1, plain_o, dApp, dAug, setAll, dC, dVar, dView, dViewT, view, dOp, dUn, dAs, dNil, dCons, dAnd, dOr, dNot, dIte, dTup, dLst, dCall, dChain, two_t, two_f, cB, oIsi, oIsN, oNotN, dYes, dEach, dNoPart, dPart, dSl, use_val, use_own, use_ownd, bool_val, view_val, view_own, view_ownd, view_un, imm_val, imm_own, add_ii, add_ll, sub_ii, mul_ii, div_ii, mod_ii, pow_ii, shl_ii, cmp_ii, neg_i, isB_bb, notB_bb, len_t, len_l, abs_i, max_ii, min_ii, int_i, int_b, divmod_ii, isInt_i, isInt_t, isInt_n, isInt_b, isBool_i, isBool_b, isTuple_t, isTuple_i, isTuple_n, isList_l, isList_t, isStr_s, plain_i, plain_t, plain_l, plain_b, plain_n, plain_s, isNone_i, isNone_t, isNone_n, immI, immB, immN, immS, immT, immL_cons, immL_nil, told_val, getD_some, tupOf_t, given_own, given_ownd, items_l, items_t, owned_own, datum_val, asInt_i, asLst_l, slotAt, bEq_int, bNe_int, ix0, ix1, ix2, ix3, iy0, iy1, iy2, iy3, opt_some, map_c, map_n, vmap_c, vmap_n, app_c, app_n, rep_s, rep_z, get_z, get_s, set_z, set_s, leng_c, leng_n, Nat.reduceSub, Nat.reduceAdd, not_t, not_f, Int.reduceToNat, Int.reducePow]
  refine two_nd (fun hnl => ?_) fun hl => ?_
  · have hC := c_ne hD hs
    have bt : Bd (if (C.natAbs : Int) > far then (C.natAbs : Int) else far) 20 := by
      have := far63_of (root_far hr hs) h4
      split
      · exact ⟨by rw [Int.natAbs_natCast]; exact FF.bc.h⟩
      · exact bd_up (n := 12) _ ⟨by have := hr.1; omega⟩
    refine Lw.behind_ok FF hC (by split <;> omega) bt fun d k g1 g2 g3 => ?_
    try dsimp only [dSeq, dUnpL, lstOf_l, dCut, dSet, dSetV, dUnp, dPar, dDrop, dRet, dRetOwn, dRetN, dIf, dPass, dNext, dNever, dBreak, dCont, dFrz, frz, dTry, dRaise, isx_n, isx_o, dMeth, meth_b, meth_s, fld0b, fld0s, fld1b, fld1s, gr2, ws2, iso_bb, iso_bs, iso_ba, iso_sb, iso_ss, iso_sa, mk_obj, xf0, xf1, plain_o, dApp, dAug, setAll, dC, dVar, dView, dViewT, view, dOp, dUn, dAs, dNil, dCons, dAnd, dOr, dNot, dIte, dTup, dLst, dCall, dChain, two_t, two_f, cB, oIsi, oIsN, oNotN, dYes, dEach, dNoPart, dPart, dSl, use_val, use_own, use_ownd, bool_val, view_val, view_own, view_ownd, view_un, imm_val, imm_own, add_ii, add_ll, sub_ii, mul_ii, div_ii, mod_ii, pow_ii, shl_ii, cmp_ii, neg_i, isB_bb, notB_bb, len_t, len_l, abs_i, max_ii, min_ii, int_i, int_b, divmod_ii, isInt_i, isInt_t, isInt_n, isInt_b, isBool_i, isBool_b, isTuple_t, isTuple_i, isTuple_n, isList_l, isList_t, isStr_s, plain_i, plain_t, plain_l, plain_b, plain_n, plain_s, isNone_i, isNone_t, isNone_n, immI, immB, immN, immS, immT, immL_cons, immL_nil, told_val, getD_some, tupOf_t, given_own, given_ownd, items_l, items_t, owned_own, datum_val, asInt_i, asLst_l, slotAt, bEq_int, bNe_int, ix0, ix1, ix2, ix3, iy0, iy1, iy2, iy3, opt_some, map_c, map_n, vmap_c, vmap_n, app_c, app_n, rep_s, rep_z, get_z, get_s, set_z, set_s, leng_c, leng_n, Nat.reduceSub, Nat.reduceAdd, not_t, not_f, Int.reduceToNat, Int.reducePow]
    obtain ⟨v1, v2, v3, v4⟩ := ease_step FF (by decide) hD h4 hr hC hnl g1 g2 g3
    refine ih _ _ v4 ⟨_, _, _, rfl, v3, J.trans ⟨0, -1, 1, k, by omega, v1.symm, v2.symm, rfl⟩, ?_, rfl⟩
    have := measure_moved A B C 0 (-1) 1 k (by omega)
    rw [v1, v2] at this
    omega
  · obtain ⟨e, T, he, rfl, rfl, rfl, g⟩ := level_good hr hs hD hl
    exact h ⟨e, T⟩ ⟨he, g⟩ J
/-- a round from its least form on -/
structure RdOk (a b c far : Int) (s : Rn.SF) (n : Nat) : Prop where
  ok : s.Ok (b * b - 4 * a * c) far
  f63 : far ≤ 63
  home : Rn.Home far s.F n
  least : ∀ i, Rn.Home far s.F i → n ≤ i
  n1 : n ≤ 1428
  J : Joined a b c (s.e * s.F.A) s.F.B (-(s.e * s.F.C))
  min : ∀ j, s.ns ≤ (Rn.sr far s j).ns
theorem canon_rnd (far : Int) (s : Rn.SF) (a n : Nat) : Rn.canon far s a n = Rn.rnd far (Rn.sr far s a) n := by
  unfold Rn.canon Rn.rnd
  exact List.map_congr_left fun j _ => by rw [Rn.sr_add]
theorem Pg.rd_ok {a b c : Int} (F : Form 20 a b c) (h0 : 0 ≤ b * b - 4 * a * c) (h1 : b * b - 4 * a * c ≤ 4000) (hs : ¬ Sq (b * b - 4 * a * c)) {Q : DK} {X : DX} (h : ∀ far s n, RdOk a b c far s n → Q (.own ((Rn.rnd far s n).map tupI))) : Pg.w_round_of [tri a b c] Q X := by
  refine Pg.round_ok F (by decide) (by decide) h0 h1 hs fun far s p q r t n at' R d0 ok far63 e1 e2 e3 hR hn hlR => ?_
  rw [hR.eq, canon_rnd]
  have hs0 := Rn.sr_home hR.home
  refine h far (Rn.sr far s at') n ⟨ok.sr at', far63, Rn.home_on hR.home, fun i hi => hR.least i (Rn.home_same ok hi), hn, ?_, fun j => ?_⟩
  · have j0 : Joined a b c (s.e * s.F.A) s.F.B (-(s.e * s.F.C)) := ⟨p, q, r, t, d0, e1, e2, e3⟩
    have hj : ∀ j, Joined a b c ((Rn.sr far s j).e * (Rn.sr far s j).F.A) (Rn.sr far s j).F.B (-((Rn.sr far s j).e * (Rn.sr far s j).F.C)) := fun j => by
      induction j with
      | zero => exact j0
      | succ j ih =>
        have oki := ok.sr j
        have hn1 : Rn.sr far s (j + 1) = ⟨-(Rn.sr far s j).e, Rn.nx far (Rn.sr far s j).F⟩ := rfl
        rw [hn1]
        generalize Rn.sr far s j = S at *
        obtain ⟨v1, v2, v3⟩ := ring_form (far := far) (F := S.F) oki.e
        exact ih.trans ⟨0, -1, 1, _, by omega, v1.symm, v2.symm, v3.symm⟩
    exact hj at'
  · refine hR.min _ ((Rn.rnd_mem hR.home.1 hs0 _).mpr ⟨at' + j, by rw [Rn.sr_add]⟩)
theorem dat_in (x : List Int) (l : List (List Int)) : ((tupI x).dat 29 && datL 29 (l.map tupI)) = true := by
  rw [Rn.dat_map 28]
  show (datL 28 (x.map D.int) && true) = true
  rw [datL_ints]; rfl
theorem rnd_nodup {a b c far : Int} {s : Rn.SF} {n : Nat} (R : RdOk a b c far s n) : (Rn.rnd far s n).Nodup := by
  unfold Rn.rnd
  refine List.pairwise_map.mpr (List.Pairwise.imp_of_mem (fun {i j} hi hj h e => ?_) List.pairwise_lt_range)
  exact Rn.sr_back R.ok R.least h (List.mem_range.mp hj) (Rn.ns_inj (R.ok.sr i) (R.ok.sr j) e)
theorem rnd_len (far : Int) (s : Rn.SF) (n : Nat) : (Rn.rnd far s n).length = n := by
  unfold Rn.rnd; rw [List.length_map, List.length_range]
theorem rnd_ix {far : Int} {s : Rn.SF} {n : Nat} {k : Nat} (hk : k < n) : ixI ((Rn.rnd far s n).map tupI) (k : Int) = some (tupI (Rn.sr far s k).ns) := by
  show ((Rn.rnd far s n).map tupI)[k]? = _
  unfold Rn.rnd
  rw [List.getElem?_map, List.getElem?_map, List.getElem?_range hk]; rfl
theorem bEq3d {a b c a' b' c' : Int} {k : Bool → Prop} (h : k (decide (a = a' ∧ b = b' ∧ c = c'))) : bEq (.tup [.int a, .int b, .int c]) (.tup [.int a', .int b', .int c']) k := by
  refine ⟨rfl, ?_⟩
  have e : eqL [.int a, .int b, .int c] [.int a', .int b', .int c'] = decide (a = a' ∧ b = b' ∧ c = c') := by
    show (a == a' && (b == b' && (c == c' && true))) = _
    rw [Bool.and_true, Bool.decide_and, Bool.decide_and]; rfl
  show k (eqL _ _)
  rw [e]; exact h
theorem Lw.good_ok {a b c far : Int} {s : Rn.SF} {n : Nat} (F : Form 20 a b c) (h0 : 0 ≤ b * b - 4 * a * c) (h1 : b * b - 4 * a * c ≤ 4000) (hs : ¬ Sq (b * b - 4 * a * c)) (R : RdOk a b c far s n) {Q : DK} {X : DX} (h : Q (.val (.bl true))) : Lw.w_law_good [tri a b c, .lst ((Rn.rnd far s n).map tupI)] Q X := by
  refine fun_mk ?_
  dsimp only [Lw.t_law_good, dFor, rng1, ixL, dSeq, dUnpL, lstOf_l, dCut, dSet, dSetV, dUnp, dPar, dDrop, dRet, dRetOwn, dRetN, dIf, dPass, dNext, dNever, dBreak, dCont, dFrz, frz, dTry, dRaise, isx_n, isx_o, dMeth, meth_b, meth_s, fld0b, fld0s, fld1b, fld1s, gr2, ws2, iso_bb, iso_bs, iso_ba, iso_sb, iso_ss, iso_sa, mk_obj, xf0, xf1, plain_o, dApp, dAug, setAll, dC, dVar, dView, dViewT, view, dOp, dUn, dAs, dNil, dCons, dAnd, dOr, dNot, dIte, dTup, dLst, dCall, dChain, two_t, two_f, cB, oIsi, oIsN, oNotN, dYes, dEach, dNoPart, dPart, dSl, use_val, use_own, use_ownd, bool_val, view_val, view_own, view_ownd, view_un, imm_val, imm_own, add_ii, add_ll, sub_ii, mul_ii, div_ii, mod_ii, pow_ii, shl_ii, cmp_ii, neg_i, isB_bb, notB_bb, len_t, len_l, abs_i, max_ii, min_ii, int_i, int_b, divmod_ii, isInt_i, isInt_t, isInt_n, isInt_b, isBool_i, isBool_b, isTuple_t, isTuple_i, isTuple_n, isList_l, isList_t, isStr_s, plain_i, plain_t, plain_l, plain_b, plain_n, plain_s, isNone_i, isNone_t, isNone_n, immI, immB, immN, immS, immT, immL_cons, immL_nil, told_val, getD_some, tupOf_t, given_own, given_ownd, items_l, items_t, owned_own, datum_val, asInt_i, asLst_l, slotAt, bEq_int, bNe_int, ix0, ix1, ix2, ix3, iy0, iy1, iy2, iy3, opt_some, map_c, map_n, vmap_c, vmap_n, app_c, app_n, rep_s, rep_z, get_z, get_s, set_z, set_s, leng_c, leng_n, Nat.reduceSub, Nat.reduceAdd, not_t, not_f, Int.reduceToNat, Int.reducePow]
  refine ⟨rfl, Lw.bar_ok (F.up 300) ?_⟩
  try dsimp only [dSeq, dUnpL, lstOf_l, dCut, dSet, dSetV, dUnp, dPar, dDrop, dRet, dRetOwn, dRetN, dIf, dPass, dNext, dNever, dBreak, dCont, dFrz, frz, dTry, dRaise, isx_n, isx_o, dMeth, meth_b, meth_s, fld0b, fld0s, fld1b, fld1s, gr2, ws2, iso_bb, iso_bs, iso_ba, iso_sb, iso_ss, iso_sa, mk_obj, xf0, xf1, plain_o, dApp, dAug, setAll, dC, dVar, dView, dViewT, view, dOp, dUn, dAs, dNil, dCons, dAnd, dOr, dNot, dIte, dTup, dLst, dCall, dChain, two_t, two_f, cB, oIsi, oIsN, oNotN, dYes, dEach, dNoPart, dPart, dSl, use_val, use_own, use_ownd, bool_val, view_val, view_own, view_ownd, view_un, imm_val, imm_own, add_ii, add_ll, sub_ii, mul_ii, div_ii, mod_ii, pow_ii, shl_ii, cmp_ii, neg_i, isB_bb, notB_bb, len_t, len_l, abs_i, max_ii, min_ii, int_i, int_b, divmod_ii, isInt_i, isInt_t, isInt_n, isInt_b, isBool_i, isBool_b, isTuple_t, isTuple_i, isTuple_n, isList_l, isList_t, isStr_s, plain_i, plain_t, plain_l, plain_b, plain_n, plain_s, isNone_i, isNone_t, isNone_n, immI, immB, immN, immS, immT, immL_cons, immL_nil, told_val, getD_some, tupOf_t, given_own, given_ownd, items_l, items_t, owned_own, datum_val, asInt_i, asLst_l, slotAt, bEq_int, bNe_int, ix0, ix1, ix2, ix3, iy0, iy1, iy2, iy3, opt_some, map_c, map_n, vmap_c, vmap_n, app_c, app_n, rep_s, rep_z, get_z, get_s, set_z, set_s, leng_c, leng_n, Nat.reduceSub, Nat.reduceAdd, not_t, not_f, Int.reduceToNat, Int.reducePow]
  refine Lw.root_ok h0 h1 fun far' hr => ?_
  have ef := root_one hr (far_root R.ok.g.far)
  subst ef
  try dsimp only [dSeq, dUnpL, lstOf_l, dCut, dSet, dSetV, dUnp, dPar, dDrop, dRet, dRetOwn, dRetN, dIf, dPass, dNext, dNever, dBreak, dCont, dFrz, frz, dTry, dRaise, isx_n, isx_o, dMeth, meth_b, meth_s, fld0b, fld0s, fld1b, fld1s, gr2, ws2, iso_bb, iso_bs, iso_ba, iso_sb, iso_ss, iso_sa, mk_obj, xf0, xf1, plain_o, dApp, dAug, setAll, dC, dVar, dView, dViewT, view, dOp, dUn, dAs, dNil, dCons, dAnd, dOr, dNot, dIte, dTup, dLst, dCall, dChain, two_t, two_f, cB, oIsi, oIsN, oNotN, dYes, dEach, dNoPart, dPart, dSl, use_val, use_own, use_ownd, bool_val, view_val, view_own, view_ownd, view_un, imm_val, imm_own, add_ii, add_ll, sub_ii, mul_ii, div_ii, mod_ii, pow_ii, shl_ii, cmp_ii, neg_i, isB_bb, notB_bb, len_t, len_l, abs_i, max_ii, min_ii, int_i, int_b, divmod_ii, isInt_i, isInt_t, isInt_n, isInt_b, isBool_i, isBool_b, isTuple_t, isTuple_i, isTuple_n, isList_l, isList_t, isStr_s, plain_i, plain_t, plain_l, plain_b, plain_n, plain_s, isNone_i, isNone_t, isNone_n, immI, immB, immN, immS, immT, immL_cons, immL_nil, told_val, getD_some, tupOf_t, given_own, given_ownd, items_l, items_t, owned_own, datum_val, asInt_i, asLst_l, slotAt, bEq_int, bNe_int, ix0, ix1, ix2, ix3, iy0, iy1, iy2, iy3, opt_some, map_c, map_n, vmap_c, vmap_n, app_c, app_n, rep_s, rep_z, get_z, get_s, set_z, set_s, leng_c, leng_n, Nat.reduceSub, Nat.reduceAdd, not_t, not_f, Int.reduceToNat, Int.reducePow]
  have hs0 := Rn.sr_home R.home
  have n1 := R.home.1
  have hlen : (((Rn.rnd far' s n).map tupI).length : Int) = n := by rw [List.length_map, rnd_len]
  rw [hlen]
  refine ⟨rfl, two_q (by omega) (Lw.eased_ok F rfl h1 hs hr fun S oks J => ?_)⟩
  try dsimp only [dSeq, dUnpL, lstOf_l, dCut, dSet, dSetV, dUnp, dPar, dDrop, dRet, dRetOwn, dRetN, dIf, dPass, dNext, dNever, dBreak, dCont, dFrz, frz, dTry, dRaise, isx_n, isx_o, dMeth, meth_b, meth_s, fld0b, fld0s, fld1b, fld1s, gr2, ws2, iso_bb, iso_bs, iso_ba, iso_sb, iso_ss, iso_sa, mk_obj, xf0, xf1, plain_o, dApp, dAug, setAll, dC, dVar, dView, dViewT, view, dOp, dUn, dAs, dNil, dCons, dAnd, dOr, dNot, dIte, dTup, dLst, dCall, dChain, two_t, two_f, cB, oIsi, oIsN, oNotN, dYes, dEach, dNoPart, dPart, dSl, use_val, use_own, use_ownd, bool_val, view_val, view_own, view_ownd, view_un, imm_val, imm_own, add_ii, add_ll, sub_ii, mul_ii, div_ii, mod_ii, pow_ii, shl_ii, cmp_ii, neg_i, isB_bb, notB_bb, len_t, len_l, abs_i, max_ii, min_ii, int_i, int_b, divmod_ii, isInt_i, isInt_t, isInt_n, isInt_b, isBool_i, isBool_b, isTuple_t, isTuple_i, isTuple_n, isList_l, isList_t, isStr_s, plain_i, plain_t, plain_l, plain_b, plain_n, plain_s, isNone_i, isNone_t, isNone_n, immI, immB, immN, immS, immT, immL_cons, immL_nil, told_val, getD_some, tupOf_t, given_own, given_ownd, items_l, items_t, owned_own, datum_val, asInt_i, asLst_l, slotAt, bEq_int, bNe_int, ix0, ix1, ix2, ix3, iy0, iy1, iy2, iy3, opt_some, map_c, map_n, vmap_c, vmap_n, app_c, app_n, rep_s, rep_z, get_z, get_s, set_z, set_s, leng_c, leng_n, Nat.reduceSub, Nat.reduceAdd, not_t, not_f, Int.reduceToNat, Int.reducePow]
  refine ⟨dat_in _ _, ?_⟩
  have hin : inD (tupI S.ns) ((Rn.rnd far' s n).map tupI) = true := by
    rw [Rn.inD_tup, Rn.rnd_mem n1 hs0]
    obtain ⟨_, _, _, _, k⟩ := R.J.symm.trans J
    obtain ⟨j, hj⟩ := joined_sf (t := S) R.ok oks R.f63 k.det k.e1 k.e2 k.e3
    exact ⟨j, by rw [hj]⟩
  rw [hin]
  try dsimp only [dSeq, dUnpL, lstOf_l, dCut, dSet, dSetV, dUnp, dPar, dDrop, dRet, dRetOwn, dRetN, dIf, dPass, dNext, dNever, dBreak, dCont, dFrz, frz, dTry, dRaise, isx_n, isx_o, dMeth, meth_b, meth_s, fld0b, fld0s, fld1b, fld1s, gr2, ws2, iso_bb, iso_bs, iso_ba, iso_sb, iso_ss, iso_sa, mk_obj, xf0, xf1, plain_o, dApp, dAug, setAll, dC, dVar, dView, dViewT, view, dOp, dUn, dAs, dNil, dCons, dAnd, dOr, dNot, dIte, dTup, dLst, dCall, dChain, two_t, two_f, cB, oIsi, oIsN, oNotN, dYes, dEach, dNoPart, dPart, dSl, use_val, use_own, use_ownd, bool_val, view_val, view_own, view_ownd, view_un, imm_val, imm_own, add_ii, add_ll, sub_ii, mul_ii, div_ii, mod_ii, pow_ii, shl_ii, cmp_ii, neg_i, isB_bb, notB_bb, len_t, len_l, abs_i, max_ii, min_ii, int_i, int_b, divmod_ii, isInt_i, isInt_t, isInt_n, isInt_b, isBool_i, isBool_b, isTuple_t, isTuple_i, isTuple_n, isList_l, isList_t, isStr_s, plain_i, plain_t, plain_l, plain_b, plain_n, plain_s, isNone_i, isNone_t, isNone_n, immI, immB, immN, immS, immT, immL_cons, immL_nil, told_val, getD_some, tupOf_t, given_own, given_ownd, items_l, items_t, owned_own, datum_val, asInt_i, asLst_l, slotAt, bEq_int, bNe_int, ix0, ix1, ix2, ix3, iy0, iy1, iy2, iy3, opt_some, map_c, map_n, vmap_c, vmap_n, app_c, app_n, rep_s, rep_z, get_z, get_s, set_z, set_s, leng_c, leng_n, Nat.reduceSub, Nat.reduceAdd, not_t, not_f, Int.reduceToNat, Int.reducePow]
  have hn1 := R.n1
  refine ⟨by omega, ?_⟩
  have gk : ∀ (m : Nat), rangeD (m : Int) (n : Int) = if m < n then .int (m : Int) :: rangeD ((m + 1 : Nat) : Int) (n : Int) else [] := fun m => by
    unfold rangeD
    by_cases hm : m < n
    · rw [if_pos hm, show ((n : Int) - (m : Int)).toNat = ((n : Int) - ((m + 1 : Nat) : Int)).toNat + 1 by omega, List.range_succ_eq_map, List.map_cons, List.map_map]
      congr 1
      refine List.map_congr_left fun i _ => ?_
      show D.int ((m : Int) + ((i + 1 : Nat) : Int)) = D.int (((m + 1 : Nat) : Int) + (i : Int))
      congr 1; omega
    · rw [if_neg hm, show ((n : Int) - (m : Int)).toNat = 0 by omega]; rfl
  refine every_g (fun ds e => ∃ (m : Nat) (s3 : Sl), ds = rangeD (m : Int) (n : Int) ∧ e = [.val (tri a b c), .val (.lst ((Rn.rnd far' s n).map tupI)), .val (.int far'), s3]) ?_ ?_ _ _ ⟨0, _, rfl, rfl⟩
  · rintro e ⟨m, s3, _, rfl⟩
    dsimp only [fLenSetT, dSeq, dUnpL, lstOf_l, dCut, dSet, dSetV, dUnp, dPar, dDrop, dRet, dRetOwn, dRetN, dIf, dPass, dNext, dNever, dBreak, dCont, dFrz, frz, dTry, dRaise, isx_n, isx_o, dMeth, meth_b, meth_s, fld0b, fld0s, fld1b, fld1s, gr2, ws2, iso_bb, iso_bs, iso_ba, iso_sb, iso_ss, iso_sa, mk_obj, xf0, xf1, plain_o, dApp, dAug, setAll, dC, dVar, dView, dViewT, view, dOp, dUn, dAs, dNil, dCons, dAnd, dOr, dNot, dIte, dTup, dLst, dCall, dChain, two_t, two_f, cB, oIsi, oIsN, oNotN, dYes, dEach, dNoPart, dPart, dSl, use_val, use_own, use_ownd, bool_val, view_val, view_own, view_ownd, view_un, imm_val, imm_own, add_ii, add_ll, sub_ii, mul_ii, div_ii, mod_ii, pow_ii, shl_ii, cmp_ii, neg_i, isB_bb, notB_bb, len_t, len_l, abs_i, max_ii, min_ii, int_i, int_b, divmod_ii, isInt_i, isInt_t, isInt_n, isInt_b, isBool_i, isBool_b, isTuple_t, isTuple_i, isTuple_n, isList_l, isList_t, isStr_s, plain_i, plain_t, plain_l, plain_b, plain_n, plain_s, isNone_i, isNone_t, isNone_n, immI, immB, immN, immS, immT, immL_cons, immL_nil, told_val, getD_some, tupOf_t, given_own, given_ownd, items_l, items_t, owned_own, datum_val, asInt_i, asLst_l, slotAt, bEq_int, bNe_int, ix0, ix1, ix2, ix3, iy0, iy1, iy2, iy3, opt_some, map_c, map_n, vmap_c, vmap_n, app_c, app_n, rep_s, rep_z, get_z, get_s, set_z, set_s, leng_c, leng_n, Nat.reduceSub, Nat.reduceAdd, not_t, not_f, Int.reduceToNat, Int.reducePow]
    refine ⟨Rn.ints_map _, by rw [List.length_map, rnd_len]; omega, ?_⟩
    rw [Rn.nums_map, ddL_self (rnd_nodup R), rnd_len, hlen, decide_eq_true rfl]
    exact h
  · rintro d ds e G ⟨m, s3, e1, rfl⟩ ih
    rw [gk m] at e1
    by_cases hm : m < n
    case neg => rw [if_neg hm] at e1; cases e1
    rw [if_pos hm] at e1
    injection e1 with e1 e2
    subst e1 e2
    have nxt := ih [.val (tri a b c), .val (.lst ((Rn.rnd far' s n).map tupI)), .val (.int far'), .val (.int (m : Int))] ⟨m + 1, _, rfl, rfl⟩
    dsimp only [ixL, dSeq, dUnpL, lstOf_l, dCut, dSet, dSetV, dUnp, dPar, dDrop, dRet, dRetOwn, dRetN, dIf, dPass, dNext, dNever, dBreak, dCont, dFrz, frz, dTry, dRaise, isx_n, isx_o, dMeth, meth_b, meth_s, fld0b, fld0s, fld1b, fld1s, gr2, ws2, iso_bb, iso_bs, iso_ba, iso_sb, iso_ss, iso_sa, mk_obj, xf0, xf1, plain_o, dApp, dAug, setAll, dC, dVar, dView, dViewT, view, dOp, dUn, dAs, dNil, dCons, dAnd, dOr, dNot, dIte, dTup, dLst, dCall, dChain, two_t, two_f, cB, oIsi, oIsN, oNotN, dYes, dEach, dNoPart, dPart, dSl, use_val, use_own, use_ownd, bool_val, view_val, view_own, view_ownd, view_un, imm_val, imm_own, add_ii, add_ll, sub_ii, mul_ii, div_ii, mod_ii, pow_ii, shl_ii, cmp_ii, neg_i, isB_bb, notB_bb, len_t, len_l, abs_i, max_ii, min_ii, int_i, int_b, divmod_ii, isInt_i, isInt_t, isInt_n, isInt_b, isBool_i, isBool_b, isTuple_t, isTuple_i, isTuple_n, isList_l, isList_t, isStr_s, plain_i, plain_t, plain_l, plain_b, plain_n, plain_s, isNone_i, isNone_t, isNone_n, immI, immB, immN, immS, immT, immL_cons, immL_nil, told_val, getD_some, tupOf_t, given_own, given_ownd, items_l, items_t, owned_own, datum_val, asInt_i, asLst_l, slotAt, bEq_int, bNe_int, ix0, ix1, ix2, ix3, iy0, iy1, iy2, iy3, opt_some, map_c, map_n, vmap_c, vmap_n, app_c, app_n, rep_s, rep_z, get_z, get_s, set_z, set_s, leng_c, leng_n, Nat.reduceSub, Nat.reduceAdd, not_t, not_f, Int.reduceToNat, Int.reducePow]
    rw [hlen]
    have im := rnd_ix (far := far') (s := s) hm
    have i0 : ixI ((Rn.rnd far' s n).map tupI) 0 = some (tupI s.ns) := rnd_ix (far := far') (s := s) (k := 0) (by omega)
    have tail : ((n : Int) ≠ 0 ∧ optD (ixI ((Rn.rnd far' s n).map tupI) (((m : Int) + 1).fmod (n : Int))) fun d => optD (ixI ((Rn.rnd far' s n).map tupI) (m : Int)) fun d_3 => Lw.w_law_behind [d_3, .int far'] (fun s' => s'.use fun y => bNe d y fun z4 => two z4 (Q (.val (.bl false))) (G [.val (tri a b c), .val (.lst ((Rn.rnd far' s n).map tupI)), .val (.int far'), .val (.int (m : Int))])) fun e => X e) := by
      refine ⟨by omega, ?_⟩
      have e1 : ((m : Int) + 1).fmod (n : Int) = (((m + 1) % n : Nat) : Int) := by
        rw [Int.fmod_eq_emod_of_nonneg _ (by omega)]; push_cast; rfl
      rw [e1]
      refine opt_at (rnd_ix (Nat.mod_lt _ n1)) (opt_at im ?_)
      refine Lw.step_ok (R.ok.sr m) h1 R.f63 ?_
      have e2 : Rn.sr far' s ((m + 1) % n) = Rn.sr far' (Rn.sr far' s m) 1 := by rw [← Rn.sr_mod hs0 (m + 1), Rn.sr_add]
      rw [e2]
      try dsimp only [dSeq, dUnpL, lstOf_l, dCut, dSet, dSetV, dUnp, dPar, dDrop, dRet, dRetOwn, dRetN, dIf, dPass, dNext, dNever, dBreak, dCont, dFrz, frz, dTry, dRaise, isx_n, isx_o, dMeth, meth_b, meth_s, fld0b, fld0s, fld1b, fld1s, gr2, ws2, iso_bb, iso_bs, iso_ba, iso_sb, iso_ss, iso_sa, mk_obj, xf0, xf1, plain_o, dApp, dAug, setAll, dC, dVar, dView, dViewT, view, dOp, dUn, dAs, dNil, dCons, dAnd, dOr, dNot, dIte, dTup, dLst, dCall, dChain, two_t, two_f, cB, oIsi, oIsN, oNotN, dYes, dEach, dNoPart, dPart, dSl, use_val, use_own, use_ownd, bool_val, view_val, view_own, view_ownd, view_un, imm_val, imm_own, add_ii, add_ll, sub_ii, mul_ii, div_ii, mod_ii, pow_ii, shl_ii, cmp_ii, neg_i, isB_bb, notB_bb, len_t, len_l, abs_i, max_ii, min_ii, int_i, int_b, divmod_ii, isInt_i, isInt_t, isInt_n, isInt_b, isBool_i, isBool_b, isTuple_t, isTuple_i, isTuple_n, isList_l, isList_t, isStr_s, plain_i, plain_t, plain_l, plain_b, plain_n, plain_s, isNone_i, isNone_t, isNone_n, immI, immB, immN, immS, immT, immL_cons, immL_nil, told_val, getD_some, tupOf_t, given_own, given_ownd, items_l, items_t, owned_own, datum_val, asInt_i, asLst_l, slotAt, bEq_int, bNe_int, ix0, ix1, ix2, ix3, iy0, iy1, iy2, iy3, opt_some, map_c, map_n, vmap_c, vmap_n, app_c, app_n, rep_s, rep_z, get_z, get_s, set_z, set_s, leng_c, leng_n, Nat.reduceSub, Nat.reduceAdd, not_t, not_f, Int.reduceToNat, Int.reducePow]
      exact bNe3 rfl rfl rfl nxt
    refine opt_at im ?_
    refine Lw.wholes3 _ _ _ ?_
    try dsimp only [dSeq, dUnpL, lstOf_l, dCut, dSet, dSetV, dUnp, dPar, dDrop, dRet, dRetOwn, dRetN, dIf, dPass, dNext, dNever, dBreak, dCont, dFrz, frz, dTry, dRaise, isx_n, isx_o, dMeth, meth_b, meth_s, fld0b, fld0s, fld1b, fld1s, gr2, ws2, iso_bb, iso_bs, iso_ba, iso_sb, iso_ss, iso_sa, mk_obj, xf0, xf1, plain_o, dApp, dAug, setAll, dC, dVar, dView, dViewT, view, dOp, dUn, dAs, dNil, dCons, dAnd, dOr, dNot, dIte, dTup, dLst, dCall, dChain, two_t, two_f, cB, oIsi, oIsN, oNotN, dYes, dEach, dNoPart, dPart, dSl, use_val, use_own, use_ownd, bool_val, view_val, view_own, view_ownd, view_un, imm_val, imm_own, add_ii, add_ll, sub_ii, mul_ii, div_ii, mod_ii, pow_ii, shl_ii, cmp_ii, neg_i, isB_bb, notB_bb, len_t, len_l, abs_i, max_ii, min_ii, int_i, int_b, divmod_ii, isInt_i, isInt_t, isInt_n, isInt_b, isBool_i, isBool_b, isTuple_t, isTuple_i, isTuple_n, isList_l, isList_t, isStr_s, plain_i, plain_t, plain_l, plain_b, plain_n, plain_s, isNone_i, isNone_t, isNone_n, immI, immB, immN, immS, immT, immL_cons, immL_nil, told_val, getD_some, tupOf_t, given_own, given_ownd, items_l, items_t, owned_own, datum_val, asInt_i, asLst_l, slotAt, bEq_int, bNe_int, ix0, ix1, ix2, ix3, iy0, iy1, iy2, iy3, opt_some, map_c, map_n, vmap_c, vmap_n, app_c, app_n, rep_s, rep_z, get_z, get_s, set_z, set_s, leng_c, leng_n, Nat.reduceSub, Nat.reduceAdd, not_t, not_f, Int.reduceToNat, Int.reducePow]
    refine opt_at im (opt_at i0 ?_)
    refine ⟨?_, ?_⟩
    · have := Rn.ints_map [(Rn.sr far' s m).ns, s.ns]
      have z := Bool.and_eq_true_iff.mp this
      have z2 := Bool.and_eq_true_iff.mp z.2
      exact Bool.and_eq_true_iff.mpr ⟨z.1, z2.1⟩
    · have hn := Rn.nums_map [(Rn.sr far' s m).ns, s.ns]
      rw [List.map_cons, List.map_cons, List.map_cons, List.map_cons] at hn
      injection hn with q1 hn
      injection hn with q2 hn
      show two (decide ((tupI (Rn.sr far' s m).ns).nums < (tupI s.ns).nums)) _ _
      rw [q1, q2]
      refine two_q (List.not_lt.mpr (R.min m)) ?_
      refine two_d (fun hp => opt_at im (opt_at i0 ?_)) fun _ => tail
      refine bEq3d ?_
      rw [decide_eq_false]
      · exact tail
      · rintro ⟨k1, k2, k3⟩
        have e1 : (Rn.sr far' s m).ns = s.ns := by unfold Rn.SF.ns; rw [k1, k2, k3]
        have e2 := Rn.ns_inj (R.ok.sr m) R.ok e1
        exact Rn.sr_back R.ok R.least (i := 0) (j := m) (by omega) hm e2.symm
theorem imm_tups : ∀ l : List (List Int), immL (l.map tupI) = true
  | [] => rfl
  | x :: l => by
    have e : ∀ y : List Int, immL (y.map D.int) = true := fun y => by
      induction y with
      | nil => rfl
      | cons z y ih => show ((D.int z).imm && immL (y.map D.int)) = true; rw [ih]; rfl
    show ((tupI x).imm && immL (l.map tupI)) = true
    rw [imm_tups l, Bool.and_true]
    exact e x
theorem rows_bNe (R : List (List Int)) {k : Bool → Prop} (h : k false) : bNe (.lst (R.map tupI)) (.lst (R.map tupI)) k := by
  refine ⟨?_, ?_⟩
  · show (datL 29 _ && datL 29 _) = true
    rw [Rn.dat_map 28]; rfl
  · show k (!eqL _ _)
    rw [eqL_rows]; exact h
theorem nsq_at {n r : Int} (h0 : 0 ≤ r) (h1 : r * r < n) (h2 : n < (r + 1) * (r + 1)) : ¬ Sq n := fun ⟨x, hx⟩ => by
  have := sq_uniq h0 (by omega) h2 hx
  omega
theorem Lw.law_fin {ns : D} {a b c d e f : Int} (F : Form 20 a b c) (G : Form 20 d e f) (h0 : 0 ≤ b * b - 4 * a * c) (h1 : b * b - 4 * a * c ≤ 4000) (hs : ¬ Sq (b * b - 4 * a * c)) (g0 : 0 ≤ e * e - 4 * d * f) (g1 : e * e - 4 * d * f ≤ 4000) (gs : ¬ Sq (e * e - 4 * d * f)) {s3 s4 s5 : Sl} {N : Env → Prop} {Q : DK} {B C : Env → Prop} {X : Exn → Env → Prop} (h : Q (.val (.bl true))) :
    Lw.t_law_7 N Q B C X [.val ns, .val (tri a b c), .val (tri d e f), s3, s4, s5] := by
  refine ⟨?_⟩
  dsimp only [dSeq, dUnpL, lstOf_l, dCut, dSet, dSetV, dUnp, dPar, dDrop, dRet, dRetOwn, dRetN, dIf, dPass, dNext, dNever, dBreak, dCont, dFrz, frz, dTry, dRaise, isx_n, isx_o, dMeth, meth_b, meth_s, fld0b, fld0s, fld1b, fld1s, gr2, ws2, iso_bb, iso_bs, iso_ba, iso_sb, iso_ss, iso_sa, mk_obj, xf0, xf1, plain_o, dApp, dAug, setAll, dC, dVar, dView, dViewT, view, dOp, dUn, dAs, dNil, dCons, dAnd, dOr, dNot, dIte, dTup, dLst, dCall, dChain, two_t, two_f, cB, oIsi, oIsN, oNotN, dYes, dEach, dNoPart, dPart, dSl, use_val, use_own, use_ownd, bool_val, view_val, view_own, view_ownd, view_un, imm_val, imm_own, add_ii, add_ll, sub_ii, mul_ii, div_ii, mod_ii, pow_ii, shl_ii, cmp_ii, neg_i, isB_bb, notB_bb, len_t, len_l, abs_i, max_ii, min_ii, int_i, int_b, divmod_ii, isInt_i, isInt_t, isInt_n, isInt_b, isBool_i, isBool_b, isTuple_t, isTuple_i, isTuple_n, isList_l, isList_t, isStr_s, plain_i, plain_t, plain_l, plain_b, plain_n, plain_s, isNone_i, isNone_t, isNone_n, immI, immB, immN, immS, immT, immL_cons, immL_nil, told_val, getD_some, tupOf_t, given_own, given_ownd, items_l, items_t, owned_own, datum_val, asInt_i, asLst_l, slotAt, bEq_int, bNe_int, ix0, ix1, ix2, ix3, iy0, iy1, iy2, iy3, opt_some, map_c, map_n, vmap_c, vmap_n, app_c, app_n, rep_s, rep_z, get_z, get_s, set_z, set_s, leng_c, leng_n, Nat.reduceSub, Nat.reduceAdd, not_t, not_f, Int.reduceToNat, Int.reducePow]
  obtain ⟨sl, ⟨far, s, n, rfl, R⟩, again⟩ := tells (f := Pg.w_round_of) (ds := [tri a b c]) (P := fun sl => ∃ far s n, sl = .own ((Rn.rnd far s n).map tupI) ∧ RdOk a b c far s n) (Pg.rd_ok F h0 h1 hs fun far s n R => ⟨far, s, n, rfl, R⟩)
  refine again ?_
  try dsimp only [dSeq, dUnpL, lstOf_l, dCut, dSet, dSetV, dUnp, dPar, dDrop, dRet, dRetOwn, dRetN, dIf, dPass, dNext, dNever, dBreak, dCont, dFrz, frz, dTry, dRaise, isx_n, isx_o, dMeth, meth_b, meth_s, fld0b, fld0s, fld1b, fld1s, gr2, ws2, iso_bb, iso_bs, iso_ba, iso_sb, iso_ss, iso_sa, mk_obj, xf0, xf1, plain_o, dApp, dAug, setAll, dC, dVar, dView, dViewT, view, dOp, dUn, dAs, dNil, dCons, dAnd, dOr, dNot, dIte, dTup, dLst, dCall, dChain, two_t, two_f, cB, oIsi, oIsN, oNotN, dYes, dEach, dNoPart, dPart, dSl, use_val, use_own, use_ownd, bool_val, view_val, view_own, view_ownd, view_un, imm_val, imm_own, add_ii, add_ll, sub_ii, mul_ii, div_ii, mod_ii, pow_ii, shl_ii, cmp_ii, neg_i, isB_bb, notB_bb, len_t, len_l, abs_i, max_ii, min_ii, int_i, int_b, divmod_ii, isInt_i, isInt_t, isInt_n, isInt_b, isBool_i, isBool_b, isTuple_t, isTuple_i, isTuple_n, isList_l, isList_t, isStr_s, plain_i, plain_t, plain_l, plain_b, plain_n, plain_s, isNone_i, isNone_t, isNone_n, immI, immB, immN, immS, immT, immL_cons, immL_nil, told_val, getD_some, tupOf_t, given_own, given_ownd, items_l, items_t, owned_own, datum_val, asInt_i, asLst_l, slotAt, bEq_int, bNe_int, ix0, ix1, ix2, ix3, iy0, iy1, iy2, iy3, opt_some, map_c, map_n, vmap_c, vmap_n, app_c, app_n, rep_s, rep_z, get_z, get_s, set_z, set_s, leng_c, leng_n, Nat.reduceSub, Nat.reduceAdd, not_t, not_f, Int.reduceToNat, Int.reducePow]
  refine Lw.good_ok F h0 h1 hs R ?_
  try dsimp only [dSeq, dUnpL, lstOf_l, dCut, dSet, dSetV, dUnp, dPar, dDrop, dRet, dRetOwn, dRetN, dIf, dPass, dNext, dNever, dBreak, dCont, dFrz, frz, dTry, dRaise, isx_n, isx_o, dMeth, meth_b, meth_s, fld0b, fld0s, fld1b, fld1s, gr2, ws2, iso_bb, iso_bs, iso_ba, iso_sb, iso_ss, iso_sa, mk_obj, xf0, xf1, plain_o, dApp, dAug, setAll, dC, dVar, dView, dViewT, view, dOp, dUn, dAs, dNil, dCons, dAnd, dOr, dNot, dIte, dTup, dLst, dCall, dChain, two_t, two_f, cB, oIsi, oIsN, oNotN, dYes, dEach, dNoPart, dPart, dSl, use_val, use_own, use_ownd, bool_val, view_val, view_own, view_ownd, view_un, imm_val, imm_own, add_ii, add_ll, sub_ii, mul_ii, div_ii, mod_ii, pow_ii, shl_ii, cmp_ii, neg_i, isB_bb, notB_bb, len_t, len_l, abs_i, max_ii, min_ii, int_i, int_b, divmod_ii, isInt_i, isInt_t, isInt_n, isInt_b, isBool_i, isBool_b, isTuple_t, isTuple_i, isTuple_n, isList_l, isList_t, isStr_s, plain_i, plain_t, plain_l, plain_b, plain_n, plain_s, isNone_i, isNone_t, isNone_n, immI, immB, immN, immS, immT, immL_cons, immL_nil, told_val, getD_some, tupOf_t, given_own, given_ownd, items_l, items_t, owned_own, datum_val, asInt_i, asLst_l, slotAt, bEq_int, bNe_int, ix0, ix1, ix2, ix3, iy0, iy1, iy2, iy3, opt_some, map_c, map_n, vmap_c, vmap_n, app_c, app_n, rep_s, rep_z, get_z, get_s, set_z, set_s, leng_c, leng_n, Nat.reduceSub, Nat.reduceAdd, not_t, not_f, Int.reduceToNat, Int.reducePow]
  dsimp only [fList, dSeq, dUnpL, lstOf_l, dCut, dSet, dSetV, dUnp, dPar, dDrop, dRet, dRetOwn, dRetN, dIf, dPass, dNext, dNever, dBreak, dCont, dFrz, frz, dTry, dRaise, isx_n, isx_o, dMeth, meth_b, meth_s, fld0b, fld0s, fld1b, fld1s, gr2, ws2, iso_bb, iso_bs, iso_ba, iso_sb, iso_ss, iso_sa, mk_obj, xf0, xf1, plain_o, dApp, dAug, setAll, dC, dVar, dView, dViewT, view, dOp, dUn, dAs, dNil, dCons, dAnd, dOr, dNot, dIte, dTup, dLst, dCall, dChain, two_t, two_f, cB, oIsi, oIsN, oNotN, dYes, dEach, dNoPart, dPart, dSl, use_val, use_own, use_ownd, bool_val, view_val, view_own, view_ownd, view_un, imm_val, imm_own, add_ii, add_ll, sub_ii, mul_ii, div_ii, mod_ii, pow_ii, shl_ii, cmp_ii, neg_i, isB_bb, notB_bb, len_t, len_l, abs_i, max_ii, min_ii, int_i, int_b, divmod_ii, isInt_i, isInt_t, isInt_n, isInt_b, isBool_i, isBool_b, isTuple_t, isTuple_i, isTuple_n, isList_l, isList_t, isStr_s, plain_i, plain_t, plain_l, plain_b, plain_n, plain_s, isNone_i, isNone_t, isNone_n, immI, immB, immN, immS, immT, immL_cons, immL_nil, told_val, getD_some, tupOf_t, given_own, given_ownd, items_l, items_t, owned_own, datum_val, asInt_i, asLst_l, slotAt, bEq_int, bNe_int, ix0, ix1, ix2, ix3, iy0, iy1, iy2, iy3, opt_some, map_c, map_n, vmap_c, vmap_n, app_c, app_n, rep_s, rep_z, get_z, get_s, set_z, set_s, leng_c, leng_n, Nat.reduceSub, Nat.reduceAdd, not_t, not_f, Int.reduceToNat, Int.reducePow]
  refine ⟨imm_tups _, ?_⟩
  refine Pg.rd_ok G g0 g1 gs fun far' s' n' R' => ?_
  try dsimp only [dSeq, dUnpL, lstOf_l, dCut, dSet, dSetV, dUnp, dPar, dDrop, dRet, dRetOwn, dRetN, dIf, dPass, dNext, dNever, dBreak, dCont, dFrz, frz, dTry, dRaise, isx_n, isx_o, dMeth, meth_b, meth_s, fld0b, fld0s, fld1b, fld1s, gr2, ws2, iso_bb, iso_bs, iso_ba, iso_sb, iso_ss, iso_sa, mk_obj, xf0, xf1, plain_o, dApp, dAug, setAll, dC, dVar, dView, dViewT, view, dOp, dUn, dAs, dNil, dCons, dAnd, dOr, dNot, dIte, dTup, dLst, dCall, dChain, two_t, two_f, cB, oIsi, oIsN, oNotN, dYes, dEach, dNoPart, dPart, dSl, use_val, use_own, use_ownd, bool_val, view_val, view_own, view_ownd, view_un, imm_val, imm_own, add_ii, add_ll, sub_ii, mul_ii, div_ii, mod_ii, pow_ii, shl_ii, cmp_ii, neg_i, isB_bb, notB_bb, len_t, len_l, abs_i, max_ii, min_ii, int_i, int_b, divmod_ii, isInt_i, isInt_t, isInt_n, isInt_b, isBool_i, isBool_b, isTuple_t, isTuple_i, isTuple_n, isList_l, isList_t, isStr_s, plain_i, plain_t, plain_l, plain_b, plain_n, plain_s, isNone_i, isNone_t, isNone_n, immI, immB, immN, immS, immT, immL_cons, immL_nil, told_val, getD_some, tupOf_t, given_own, given_ownd, items_l, items_t, owned_own, datum_val, asInt_i, asLst_l, slotAt, bEq_int, bNe_int, ix0, ix1, ix2, ix3, iy0, iy1, iy2, iy3, opt_some, map_c, map_n, vmap_c, vmap_n, app_c, app_n, rep_s, rep_z, get_z, get_s, set_z, set_s, leng_c, leng_n, Nat.reduceSub, Nat.reduceAdd, not_t, not_f, Int.reduceToNat, Int.reducePow]
  refine Lw.good_ok G g0 g1 gs R' ?_
  try dsimp only [dSeq, dUnpL, lstOf_l, dCut, dSet, dSetV, dUnp, dPar, dDrop, dRet, dRetOwn, dRetN, dIf, dPass, dNext, dNever, dBreak, dCont, dFrz, frz, dTry, dRaise, isx_n, isx_o, dMeth, meth_b, meth_s, fld0b, fld0s, fld1b, fld1s, gr2, ws2, iso_bb, iso_bs, iso_ba, iso_sb, iso_ss, iso_sa, mk_obj, xf0, xf1, plain_o, dApp, dAug, setAll, dC, dVar, dView, dViewT, view, dOp, dUn, dAs, dNil, dCons, dAnd, dOr, dNot, dIte, dTup, dLst, dCall, dChain, two_t, two_f, cB, oIsi, oIsN, oNotN, dYes, dEach, dNoPart, dPart, dSl, use_val, use_own, use_ownd, bool_val, view_val, view_own, view_ownd, view_un, imm_val, imm_own, add_ii, add_ll, sub_ii, mul_ii, div_ii, mod_ii, pow_ii, shl_ii, cmp_ii, neg_i, isB_bb, notB_bb, len_t, len_l, abs_i, max_ii, min_ii, int_i, int_b, divmod_ii, isInt_i, isInt_t, isInt_n, isInt_b, isBool_i, isBool_b, isTuple_t, isTuple_i, isTuple_n, isList_l, isList_t, isStr_s, plain_i, plain_t, plain_l, plain_b, plain_n, plain_s, isNone_i, isNone_t, isNone_n, immI, immB, immN, immS, immT, immL_cons, immL_nil, told_val, getD_some, tupOf_t, given_own, given_ownd, items_l, items_t, owned_own, datum_val, asInt_i, asLst_l, slotAt, bEq_int, bNe_int, ix0, ix1, ix2, ix3, iy0, iy1, iy2, iy3, opt_some, map_c, map_n, vmap_c, vmap_n, app_c, app_n, rep_s, rep_z, get_z, get_s, set_z, set_s, leng_c, leng_n, Nat.reduceSub, Nat.reduceAdd, not_t, not_f, Int.reduceToNat, Int.reducePow]
  refine rows_bNe _ ?_
  try dsimp only [dSeq, dUnpL, lstOf_l, dCut, dSet, dSetV, dUnp, dPar, dDrop, dRet, dRetOwn, dRetN, dIf, dPass, dNext, dNever, dBreak, dCont, dFrz, frz, dTry, dRaise, isx_n, isx_o, dMeth, meth_b, meth_s, fld0b, fld0s, fld1b, fld1s, gr2, ws2, iso_bb, iso_bs, iso_ba, iso_sb, iso_ss, iso_sa, mk_obj, xf0, xf1, plain_o, dApp, dAug, setAll, dC, dVar, dView, dViewT, view, dOp, dUn, dAs, dNil, dCons, dAnd, dOr, dNot, dIte, dTup, dLst, dCall, dChain, two_t, two_f, cB, oIsi, oIsN, oNotN, dYes, dEach, dNoPart, dPart, dSl, use_val, use_own, use_ownd, bool_val, view_val, view_own, view_ownd, view_un, imm_val, imm_own, add_ii, add_ll, sub_ii, mul_ii, div_ii, mod_ii, pow_ii, shl_ii, cmp_ii, neg_i, isB_bb, notB_bb, len_t, len_l, abs_i, max_ii, min_ii, int_i, int_b, divmod_ii, isInt_i, isInt_t, isInt_n, isInt_b, isBool_i, isBool_b, isTuple_t, isTuple_i, isTuple_n, isList_l, isList_t, isStr_s, plain_i, plain_t, plain_l, plain_b, plain_n, plain_s, isNone_i, isNone_t, isNone_n, immI, immB, immN, immS, immT, immL_cons, immL_nil, told_val, getD_some, tupOf_t, given_own, given_ownd, items_l, items_t, owned_own, datum_val, asInt_i, asLst_l, slotAt, bEq_int, bNe_int, ix0, ix1, ix2, ix3, iy0, iy1, iy2, iy3, opt_some, map_c, map_n, vmap_c, vmap_n, app_c, app_n, rep_s, rep_z, get_z, get_s, set_z, set_s, leng_c, leng_n, Nat.reduceSub, Nat.reduceAdd, not_t, not_f, Int.reduceToNat, Int.reducePow]
  refine ⟨?_, again ?_⟩
  · have := R.n1
    rw [List.length_map, rnd_len]; omega
  try dsimp only [dSeq, dUnpL, lstOf_l, dCut, dSet, dSetV, dUnp, dPar, dDrop, dRet, dRetOwn, dRetN, dIf, dPass, dNext, dNever, dBreak, dCont, dFrz, frz, dTry, dRaise, isx_n, isx_o, dMeth, meth_b, meth_s, fld0b, fld0s, fld1b, fld1s, gr2, ws2, iso_bb, iso_bs, iso_ba, iso_sb, iso_ss, iso_sa, mk_obj, xf0, xf1, plain_o, dApp, dAug, setAll, dC, dVar, dView, dViewT, view, dOp, dUn, dAs, dNil, dCons, dAnd, dOr, dNot, dIte, dTup, dLst, dCall, dChain, two_t, two_f, cB, oIsi, oIsN, oNotN, dYes, dEach, dNoPart, dPart, dSl, use_val, use_own, use_ownd, bool_val, view_val, view_own, view_ownd, view_un, imm_val, imm_own, add_ii, add_ll, sub_ii, mul_ii, div_ii, mod_ii, pow_ii, shl_ii, cmp_ii, neg_i, isB_bb, notB_bb, len_t, len_l, abs_i, max_ii, min_ii, int_i, int_b, divmod_ii, isInt_i, isInt_t, isInt_n, isInt_b, isBool_i, isBool_b, isTuple_t, isTuple_i, isTuple_n, isList_l, isList_t, isStr_s, plain_i, plain_t, plain_l, plain_b, plain_n, plain_s, isNone_i, isNone_t, isNone_n, immI, immB, immN, immS, immT, immL_cons, immL_nil, told_val, getD_some, tupOf_t, given_own, given_ownd, items_l, items_t, owned_own, datum_val, asInt_i, asLst_l, slotAt, bEq_int, bNe_int, ix0, ix1, ix2, ix3, iy0, iy1, iy2, iy3, opt_some, map_c, map_n, vmap_c, vmap_n, app_c, app_n, rep_s, rep_z, get_z, get_s, set_z, set_s, leng_c, leng_n, Nat.reduceSub, Nat.reduceAdd, not_t, not_f, Int.reduceToNat, Int.reducePow]
  refine bEq_rows _ ?_
  try dsimp only [dSeq, dUnpL, lstOf_l, dCut, dSet, dSetV, dUnp, dPar, dDrop, dRet, dRetOwn, dRetN, dIf, dPass, dNext, dNever, dBreak, dCont, dFrz, frz, dTry, dRaise, isx_n, isx_o, dMeth, meth_b, meth_s, fld0b, fld0s, fld1b, fld1s, gr2, ws2, iso_bb, iso_bs, iso_ba, iso_sb, iso_ss, iso_sa, mk_obj, xf0, xf1, plain_o, dApp, dAug, setAll, dC, dVar, dView, dViewT, view, dOp, dUn, dAs, dNil, dCons, dAnd, dOr, dNot, dIte, dTup, dLst, dCall, dChain, two_t, two_f, cB, oIsi, oIsN, oNotN, dYes, dEach, dNoPart, dPart, dSl, use_val, use_own, use_ownd, bool_val, view_val, view_own, view_ownd, view_un, imm_val, imm_own, add_ii, add_ll, sub_ii, mul_ii, div_ii, mod_ii, pow_ii, shl_ii, cmp_ii, neg_i, isB_bb, notB_bb, len_t, len_l, abs_i, max_ii, min_ii, int_i, int_b, divmod_ii, isInt_i, isInt_t, isInt_n, isInt_b, isBool_i, isBool_b, isTuple_t, isTuple_i, isTuple_n, isList_l, isList_t, isStr_s, plain_i, plain_t, plain_l, plain_b, plain_n, plain_s, isNone_i, isNone_t, isNone_n, immI, immB, immN, immS, immT, immL_cons, immL_nil, told_val, getD_some, tupOf_t, given_own, given_ownd, items_l, items_t, owned_own, datum_val, asInt_i, asLst_l, slotAt, bEq_int, bNe_int, ix0, ix1, ix2, ix3, iy0, iy1, iy2, iy3, opt_some, map_c, map_n, vmap_c, vmap_n, app_c, app_n, rep_s, rep_z, get_z, get_s, set_z, set_s, leng_c, leng_n, Nat.reduceSub, Nat.reduceAdd, not_t, not_f, Int.reduceToNat, Int.reducePow]
  exact Lw.good_ok G g0 g1 gs R' h
theorem Lw.law_true (ns : List Int) (h : ns.length ≤ 63) : Lw.w_law [.lst (ns.map D.int)] (fun s => s = .val (.bl true)) fun _ => False := by
  refine fun_mk ?_
  dsimp only [Lw.t_law, dSeq, dUnpL, lstOf_l, dCut, dSet, dSetV, dUnp, dPar, dDrop, dRet, dRetOwn, dRetN, dIf, dPass, dNext, dNever, dBreak, dCont, dFrz, frz, dTry, dRaise, isx_n, isx_o, dMeth, meth_b, meth_s, fld0b, fld0s, fld1b, fld1s, gr2, ws2, iso_bb, iso_bs, iso_ba, iso_sb, iso_ss, iso_sa, mk_obj, xf0, xf1, plain_o, dApp, dAug, setAll, dC, dVar, dView, dViewT, view, dOp, dUn, dAs, dNil, dCons, dAnd, dOr, dNot, dIte, dTup, dLst, dCall, dChain, two_t, two_f, cB, oIsi, oIsN, oNotN, dYes, dEach, dNoPart, dPart, dSl, use_val, use_own, use_ownd, bool_val, view_val, view_own, view_ownd, view_un, imm_val, imm_own, add_ii, add_ll, sub_ii, mul_ii, div_ii, mod_ii, pow_ii, shl_ii, cmp_ii, neg_i, isB_bb, notB_bb, len_t, len_l, abs_i, max_ii, min_ii, int_i, int_b, divmod_ii, isInt_i, isInt_t, isInt_n, isInt_b, isBool_i, isBool_b, isTuple_t, isTuple_i, isTuple_n, isList_l, isList_t, isStr_s, plain_i, plain_t, plain_l, plain_b, plain_n, plain_s, isNone_i, isNone_t, isNone_n, immI, immB, immN, immS, immT, immL_cons, immL_nil, told_val, getD_some, tupOf_t, given_own, given_ownd, items_l, items_t, owned_own, datum_val, asInt_i, asLst_l, slotAt, bEq_int, bNe_int, ix0, ix1, ix2, ix3, iy0, iy1, iy2, iy3, opt_some, map_c, map_n, vmap_c, vmap_n, app_c, app_n, rep_s, rep_z, get_z, get_s, set_z, set_s, leng_c, leng_n, Nat.reduceSub, Nat.reduceAdd, not_t, not_f, Int.reduceToNat, Int.reducePow]
  refine ⟨rfl, Lw.cell_ok ns 0 (by decide) _ _ ?_⟩
  try dsimp only [dSeq, dUnpL, lstOf_l, dCut, dSet, dSetV, dUnp, dPar, dDrop, dRet, dRetOwn, dRetN, dIf, dPass, dNext, dNever, dBreak, dCont, dFrz, frz, dTry, dRaise, isx_n, isx_o, dMeth, meth_b, meth_s, fld0b, fld0s, fld1b, fld1s, gr2, ws2, iso_bb, iso_bs, iso_ba, iso_sb, iso_ss, iso_sa, mk_obj, xf0, xf1, plain_o, dApp, dAug, setAll, dC, dVar, dView, dViewT, view, dOp, dUn, dAs, dNil, dCons, dAnd, dOr, dNot, dIte, dTup, dLst, dCall, dChain, two_t, two_f, cB, oIsi, oIsN, oNotN, dYes, dEach, dNoPart, dPart, dSl, use_val, use_own, use_ownd, bool_val, view_val, view_own, view_ownd, view_un, imm_val, imm_own, add_ii, add_ll, sub_ii, mul_ii, div_ii, mod_ii, pow_ii, shl_ii, cmp_ii, neg_i, isB_bb, notB_bb, len_t, len_l, abs_i, max_ii, min_ii, int_i, int_b, divmod_ii, isInt_i, isInt_t, isInt_n, isInt_b, isBool_i, isBool_b, isTuple_t, isTuple_i, isTuple_n, isList_l, isList_t, isStr_s, plain_i, plain_t, plain_l, plain_b, plain_n, plain_s, isNone_i, isNone_t, isNone_n, immI, immB, immN, immS, immT, immL_cons, immL_nil, told_val, getD_some, tupOf_t, given_own, given_ownd, items_l, items_t, owned_own, datum_val, asInt_i, asLst_l, slotAt, bEq_int, bNe_int, ix0, ix1, ix2, ix3, iy0, iy1, iy2, iy3, opt_some, map_c, map_n, vmap_c, vmap_n, app_c, app_n, rep_s, rep_z, get_z, get_s, set_z, set_s, leng_c, leng_n, Nat.reduceSub, Nat.reduceAdd, not_t, not_f, Int.reduceToNat, Int.reducePow]
  refine Lw.cell_ok ns 1 (by decide) _ _ ?_
  try dsimp only [dSeq, dUnpL, lstOf_l, dCut, dSet, dSetV, dUnp, dPar, dDrop, dRet, dRetOwn, dRetN, dIf, dPass, dNext, dNever, dBreak, dCont, dFrz, frz, dTry, dRaise, isx_n, isx_o, dMeth, meth_b, meth_s, fld0b, fld0s, fld1b, fld1s, gr2, ws2, iso_bb, iso_bs, iso_ba, iso_sb, iso_ss, iso_sa, mk_obj, xf0, xf1, plain_o, dApp, dAug, setAll, dC, dVar, dView, dViewT, view, dOp, dUn, dAs, dNil, dCons, dAnd, dOr, dNot, dIte, dTup, dLst, dCall, dChain, two_t, two_f, cB, oIsi, oIsN, oNotN, dYes, dEach, dNoPart, dPart, dSl, use_val, use_own, use_ownd, bool_val, view_val, view_own, view_ownd, view_un, imm_val, imm_own, add_ii, add_ll, sub_ii, mul_ii, div_ii, mod_ii, pow_ii, shl_ii, cmp_ii, neg_i, isB_bb, notB_bb, len_t, len_l, abs_i, max_ii, min_ii, int_i, int_b, divmod_ii, isInt_i, isInt_t, isInt_n, isInt_b, isBool_i, isBool_b, isTuple_t, isTuple_i, isTuple_n, isList_l, isList_t, isStr_s, plain_i, plain_t, plain_l, plain_b, plain_n, plain_s, isNone_i, isNone_t, isNone_n, immI, immB, immN, immS, immT, immL_cons, immL_nil, told_val, getD_some, tupOf_t, given_own, given_ownd, items_l, items_t, owned_own, datum_val, asInt_i, asLst_l, slotAt, bEq_int, bNe_int, ix0, ix1, ix2, ix3, iy0, iy1, iy2, iy3, opt_some, map_c, map_n, vmap_c, vmap_n, app_c, app_n, rep_s, rep_z, get_z, get_s, set_z, set_s, leng_c, leng_n, Nat.reduceSub, Nat.reduceAdd, not_t, not_f, Int.reduceToNat, Int.reducePow]
  refine Lw.cell_ok ns 2 (by decide) _ _ ?_
  try dsimp only [dSeq, dUnpL, lstOf_l, dCut, dSet, dSetV, dUnp, dPar, dDrop, dRet, dRetOwn, dRetN, dIf, dPass, dNext, dNever, dBreak, dCont, dFrz, frz, dTry, dRaise, isx_n, isx_o, dMeth, meth_b, meth_s, fld0b, fld0s, fld1b, fld1s, gr2, ws2, iso_bb, iso_bs, iso_ba, iso_sb, iso_ss, iso_sa, mk_obj, xf0, xf1, plain_o, dApp, dAug, setAll, dC, dVar, dView, dViewT, view, dOp, dUn, dAs, dNil, dCons, dAnd, dOr, dNot, dIte, dTup, dLst, dCall, dChain, two_t, two_f, cB, oIsi, oIsN, oNotN, dYes, dEach, dNoPart, dPart, dSl, use_val, use_own, use_ownd, bool_val, view_val, view_own, view_ownd, view_un, imm_val, imm_own, add_ii, add_ll, sub_ii, mul_ii, div_ii, mod_ii, pow_ii, shl_ii, cmp_ii, neg_i, isB_bb, notB_bb, len_t, len_l, abs_i, max_ii, min_ii, int_i, int_b, divmod_ii, isInt_i, isInt_t, isInt_n, isInt_b, isBool_i, isBool_b, isTuple_t, isTuple_i, isTuple_n, isList_l, isList_t, isStr_s, plain_i, plain_t, plain_l, plain_b, plain_n, plain_s, isNone_i, isNone_t, isNone_n, immI, immB, immN, immS, immT, immL_cons, immL_nil, told_val, getD_some, tupOf_t, given_own, given_ownd, items_l, items_t, owned_own, datum_val, asInt_i, asLst_l, slotAt, bEq_int, bNe_int, ix0, ix1, ix2, ix3, iy0, iy1, iy2, iy3, opt_some, map_c, map_n, vmap_c, vmap_n, app_c, app_n, rep_s, rep_z, get_z, get_s, set_z, set_s, leng_c, leng_n, Nat.reduceSub, Nat.reduceAdd, not_t, not_f, Int.reduceToNat, Int.reducePow]
  refine Lw.saddle_ok _ _ _ fun a b c ba bb bc ha h0 h1 => ?_
  try dsimp only [dSeq, dUnpL, lstOf_l, dCut, dSet, dSetV, dUnp, dPar, dDrop, dRet, dRetOwn, dRetN, dIf, dPass, dNext, dNever, dBreak, dCont, dFrz, frz, dTry, dRaise, isx_n, isx_o, dMeth, meth_b, meth_s, fld0b, fld0s, fld1b, fld1s, gr2, ws2, iso_bb, iso_bs, iso_ba, iso_sb, iso_ss, iso_sa, mk_obj, xf0, xf1, plain_o, dApp, dAug, setAll, dC, dVar, dView, dViewT, view, dOp, dUn, dAs, dNil, dCons, dAnd, dOr, dNot, dIte, dTup, dLst, dCall, dChain, two_t, two_f, cB, oIsi, oIsN, oNotN, dYes, dEach, dNoPart, dPart, dSl, use_val, use_own, use_ownd, bool_val, view_val, view_own, view_ownd, view_un, imm_val, imm_own, add_ii, add_ll, sub_ii, mul_ii, div_ii, mod_ii, pow_ii, shl_ii, cmp_ii, neg_i, isB_bb, notB_bb, len_t, len_l, abs_i, max_ii, min_ii, int_i, int_b, divmod_ii, isInt_i, isInt_t, isInt_n, isInt_b, isBool_i, isBool_b, isTuple_t, isTuple_i, isTuple_n, isList_l, isList_t, isStr_s, plain_i, plain_t, plain_l, plain_b, plain_n, plain_s, isNone_i, isNone_t, isNone_n, immI, immB, immN, immS, immT, immL_cons, immL_nil, told_val, getD_some, tupOf_t, given_own, given_ownd, items_l, items_t, owned_own, datum_val, asInt_i, asLst_l, slotAt, bEq_int, bNe_int, ix0, ix1, ix2, ix3, iy0, iy1, iy2, iy3, opt_some, map_c, map_n, vmap_c, vmap_n, app_c, app_n, rep_s, rep_z, get_z, get_s, set_z, set_s, leng_c, leng_n, Nat.reduceSub, Nat.reduceAdd, not_t, not_f, Int.reduceToNat, Int.reducePow]
  refine Lw.cell_ok ns 3 (by decide) _ _ ?_
  try dsimp only [dSeq, dUnpL, lstOf_l, dCut, dSet, dSetV, dUnp, dPar, dDrop, dRet, dRetOwn, dRetN, dIf, dPass, dNext, dNever, dBreak, dCont, dFrz, frz, dTry, dRaise, isx_n, isx_o, dMeth, meth_b, meth_s, fld0b, fld0s, fld1b, fld1s, gr2, ws2, iso_bb, iso_bs, iso_ba, iso_sb, iso_ss, iso_sa, mk_obj, xf0, xf1, plain_o, dApp, dAug, setAll, dC, dVar, dView, dViewT, view, dOp, dUn, dAs, dNil, dCons, dAnd, dOr, dNot, dIte, dTup, dLst, dCall, dChain, two_t, two_f, cB, oIsi, oIsN, oNotN, dYes, dEach, dNoPart, dPart, dSl, use_val, use_own, use_ownd, bool_val, view_val, view_own, view_ownd, view_un, imm_val, imm_own, add_ii, add_ll, sub_ii, mul_ii, div_ii, mod_ii, pow_ii, shl_ii, cmp_ii, neg_i, isB_bb, notB_bb, len_t, len_l, abs_i, max_ii, min_ii, int_i, int_b, divmod_ii, isInt_i, isInt_t, isInt_n, isInt_b, isBool_i, isBool_b, isTuple_t, isTuple_i, isTuple_n, isList_l, isList_t, isStr_s, plain_i, plain_t, plain_l, plain_b, plain_n, plain_s, isNone_i, isNone_t, isNone_n, immI, immB, immN, immS, immT, immL_cons, immL_nil, told_val, getD_some, tupOf_t, given_own, given_ownd, items_l, items_t, owned_own, datum_val, asInt_i, asLst_l, slotAt, bEq_int, bNe_int, ix0, ix1, ix2, ix3, iy0, iy1, iy2, iy3, opt_some, map_c, map_n, vmap_c, vmap_n, app_c, app_n, rep_s, rep_z, get_z, get_s, set_z, set_s, leng_c, leng_n, Nat.reduceSub, Nat.reduceAdd, not_t, not_f, Int.reduceToNat, Int.reducePow]
  refine Lw.cell_ok ns 4 (by decide) _ _ ?_
  try dsimp only [dSeq, dUnpL, lstOf_l, dCut, dSet, dSetV, dUnp, dPar, dDrop, dRet, dRetOwn, dRetN, dIf, dPass, dNext, dNever, dBreak, dCont, dFrz, frz, dTry, dRaise, isx_n, isx_o, dMeth, meth_b, meth_s, fld0b, fld0s, fld1b, fld1s, gr2, ws2, iso_bb, iso_bs, iso_ba, iso_sb, iso_ss, iso_sa, mk_obj, xf0, xf1, plain_o, dApp, dAug, setAll, dC, dVar, dView, dViewT, view, dOp, dUn, dAs, dNil, dCons, dAnd, dOr, dNot, dIte, dTup, dLst, dCall, dChain, two_t, two_f, cB, oIsi, oIsN, oNotN, dYes, dEach, dNoPart, dPart, dSl, use_val, use_own, use_ownd, bool_val, view_val, view_own, view_ownd, view_un, imm_val, imm_own, add_ii, add_ll, sub_ii, mul_ii, div_ii, mod_ii, pow_ii, shl_ii, cmp_ii, neg_i, isB_bb, notB_bb, len_t, len_l, abs_i, max_ii, min_ii, int_i, int_b, divmod_ii, isInt_i, isInt_t, isInt_n, isInt_b, isBool_i, isBool_b, isTuple_t, isTuple_i, isTuple_n, isList_l, isList_t, isStr_s, plain_i, plain_t, plain_l, plain_b, plain_n, plain_s, isNone_i, isNone_t, isNone_n, immI, immB, immN, immS, immT, immL_cons, immL_nil, told_val, getD_some, tupOf_t, given_own, given_ownd, items_l, items_t, owned_own, datum_val, asInt_i, asLst_l, slotAt, bEq_int, bNe_int, ix0, ix1, ix2, ix3, iy0, iy1, iy2, iy3, opt_some, map_c, map_n, vmap_c, vmap_n, app_c, app_n, rep_s, rep_z, get_z, get_s, set_z, set_s, leng_c, leng_n, Nat.reduceSub, Nat.reduceAdd, not_t, not_f, Int.reduceToNat, Int.reducePow]
  refine Lw.cell_ok ns 5 (by decide) _ _ ?_
  try dsimp only [dSeq, dUnpL, lstOf_l, dCut, dSet, dSetV, dUnp, dPar, dDrop, dRet, dRetOwn, dRetN, dIf, dPass, dNext, dNever, dBreak, dCont, dFrz, frz, dTry, dRaise, isx_n, isx_o, dMeth, meth_b, meth_s, fld0b, fld0s, fld1b, fld1s, gr2, ws2, iso_bb, iso_bs, iso_ba, iso_sb, iso_ss, iso_sa, mk_obj, xf0, xf1, plain_o, dApp, dAug, setAll, dC, dVar, dView, dViewT, view, dOp, dUn, dAs, dNil, dCons, dAnd, dOr, dNot, dIte, dTup, dLst, dCall, dChain, two_t, two_f, cB, oIsi, oIsN, oNotN, dYes, dEach, dNoPart, dPart, dSl, use_val, use_own, use_ownd, bool_val, view_val, view_own, view_ownd, view_un, imm_val, imm_own, add_ii, add_ll, sub_ii, mul_ii, div_ii, mod_ii, pow_ii, shl_ii, cmp_ii, neg_i, isB_bb, notB_bb, len_t, len_l, abs_i, max_ii, min_ii, int_i, int_b, divmod_ii, isInt_i, isInt_t, isInt_n, isInt_b, isBool_i, isBool_b, isTuple_t, isTuple_i, isTuple_n, isList_l, isList_t, isStr_s, plain_i, plain_t, plain_l, plain_b, plain_n, plain_s, isNone_i, isNone_t, isNone_n, immI, immB, immN, immS, immT, immL_cons, immL_nil, told_val, getD_some, tupOf_t, given_own, given_ownd, items_l, items_t, owned_own, datum_val, asInt_i, asLst_l, slotAt, bEq_int, bNe_int, ix0, ix1, ix2, ix3, iy0, iy1, iy2, iy3, opt_some, map_c, map_n, vmap_c, vmap_n, app_c, app_n, rep_s, rep_z, get_z, get_s, set_z, set_s, leng_c, leng_n, Nat.reduceSub, Nat.reduceAdd, not_t, not_f, Int.reduceToNat, Int.reducePow]
  refine Lw.saddle_ok _ _ _ fun d e f bd be bf hd g0 g1 => ?_
  try dsimp only [dSeq, dUnpL, lstOf_l, dCut, dSet, dSetV, dUnp, dPar, dDrop, dRet, dRetOwn, dRetN, dIf, dPass, dNext, dNever, dBreak, dCont, dFrz, frz, dTry, dRaise, isx_n, isx_o, dMeth, meth_b, meth_s, fld0b, fld0s, fld1b, fld1s, gr2, ws2, iso_bb, iso_bs, iso_ba, iso_sb, iso_ss, iso_sa, mk_obj, xf0, xf1, plain_o, dApp, dAug, setAll, dC, dVar, dView, dViewT, view, dOp, dUn, dAs, dNil, dCons, dAnd, dOr, dNot, dIte, dTup, dLst, dCall, dChain, two_t, two_f, cB, oIsi, oIsN, oNotN, dYes, dEach, dNoPart, dPart, dSl, use_val, use_own, use_ownd, bool_val, view_val, view_own, view_ownd, view_un, imm_val, imm_own, add_ii, add_ll, sub_ii, mul_ii, div_ii, mod_ii, pow_ii, shl_ii, cmp_ii, neg_i, isB_bb, notB_bb, len_t, len_l, abs_i, max_ii, min_ii, int_i, int_b, divmod_ii, isInt_i, isInt_t, isInt_n, isInt_b, isBool_i, isBool_b, isTuple_t, isTuple_i, isTuple_n, isList_l, isList_t, isStr_s, plain_i, plain_t, plain_l, plain_b, plain_n, plain_s, isNone_i, isNone_t, isNone_n, immI, immB, immN, immS, immT, immL_cons, immL_nil, told_val, getD_some, tupOf_t, given_own, given_ownd, items_l, items_t, owned_own, datum_val, asInt_i, asLst_l, slotAt, bEq_int, bNe_int, ix0, ix1, ix2, ix3, iy0, iy1, iy2, iy3, opt_some, map_c, map_n, vmap_c, vmap_n, app_c, app_n, rep_s, rep_z, get_z, get_s, set_z, set_s, leng_c, leng_n, Nat.reduceSub, Nat.reduceAdd, not_t, not_f, Int.reduceToNat, Int.reducePow]
  have F : Form 20 a b c := ⟨ba, bb, bc⟩
  have G : Form 20 d e f := ⟨bd, be, bf⟩
  have F0 : Form 20 1 1 (-1) := ⟨bd_up _ bd1, bd_up _ bd1, bd_up _ (bd_neg bd1)⟩
  have G0 : Form 20 1 0 (-2) := ⟨bd_up _ bd1, bd_up _ bd0, bd_up _ (bd_neg bd2)⟩
  have s5 : ¬ Sq (1 * 1 - 4 * 1 * (-1)) := nsq_at (r := 2) (by decide) (by decide) (by decide)
  have s8 : ¬ Sq (0 * 0 - 4 * 1 * (-2)) := nsq_at (r := 2) (by decide) (by decide) (by decide)
  refine Lw.flat_ok (F.up 300) h0 h1 ?_ fun hs => ?_
  all_goals try dsimp only [dSeq, dUnpL, lstOf_l, dCut, dSet, dSetV, dUnp, dPar, dDrop, dRet, dRetOwn, dRetN, dIf, dPass, dNext, dNever, dBreak, dCont, dFrz, frz, dTry, dRaise, isx_n, isx_o, dMeth, meth_b, meth_s, fld0b, fld0s, fld1b, fld1s, gr2, ws2, iso_bb, iso_bs, iso_ba, iso_sb, iso_ss, iso_sa, mk_obj, xf0, xf1, plain_o, dApp, dAug, setAll, dC, dVar, dView, dViewT, view, dOp, dUn, dAs, dNil, dCons, dAnd, dOr, dNot, dIte, dTup, dLst, dCall, dChain, two_t, two_f, cB, oIsi, oIsN, oNotN, dYes, dEach, dNoPart, dPart, dSl, use_val, use_own, use_ownd, bool_val, view_val, view_own, view_ownd, view_un, imm_val, imm_own, add_ii, add_ll, sub_ii, mul_ii, div_ii, mod_ii, pow_ii, shl_ii, cmp_ii, neg_i, isB_bb, notB_bb, len_t, len_l, abs_i, max_ii, min_ii, int_i, int_b, divmod_ii, isInt_i, isInt_t, isInt_n, isInt_b, isBool_i, isBool_b, isTuple_t, isTuple_i, isTuple_n, isList_l, isList_t, isStr_s, plain_i, plain_t, plain_l, plain_b, plain_n, plain_s, isNone_i, isNone_t, isNone_n, immI, immB, immN, immS, immT, immL_cons, immL_nil, told_val, getD_some, tupOf_t, given_own, given_ownd, items_l, items_t, owned_own, datum_val, asInt_i, asLst_l, slotAt, bEq_int, bNe_int, ix0, ix1, ix2, ix3, iy0, iy1, iy2, iy3, opt_some, map_c, map_n, vmap_c, vmap_n, app_c, app_n, rep_s, rep_z, get_z, get_s, set_z, set_s, leng_c, leng_n, Nat.reduceSub, Nat.reduceAdd, not_t, not_f, Int.reduceToNat, Int.reducePow]
  all_goals refine Lw.flat_ok (G.up 300) g0 g1 ?_ fun gs => ?_
  all_goals try dsimp only [dSeq, dUnpL, lstOf_l, dCut, dSet, dSetV, dUnp, dPar, dDrop, dRet, dRetOwn, dRetN, dIf, dPass, dNext, dNever, dBreak, dCont, dFrz, frz, dTry, dRaise, isx_n, isx_o, dMeth, meth_b, meth_s, fld0b, fld0s, fld1b, fld1s, gr2, ws2, iso_bb, iso_bs, iso_ba, iso_sb, iso_ss, iso_sa, mk_obj, xf0, xf1, plain_o, dApp, dAug, setAll, dC, dVar, dView, dViewT, view, dOp, dUn, dAs, dNil, dCons, dAnd, dOr, dNot, dIte, dTup, dLst, dCall, dChain, two_t, two_f, cB, oIsi, oIsN, oNotN, dYes, dEach, dNoPart, dPart, dSl, use_val, use_own, use_ownd, bool_val, view_val, view_own, view_ownd, view_un, imm_val, imm_own, add_ii, add_ll, sub_ii, mul_ii, div_ii, mod_ii, pow_ii, shl_ii, cmp_ii, neg_i, isB_bb, notB_bb, len_t, len_l, abs_i, max_ii, min_ii, int_i, int_b, divmod_ii, isInt_i, isInt_t, isInt_n, isInt_b, isBool_i, isBool_b, isTuple_t, isTuple_i, isTuple_n, isList_l, isList_t, isStr_s, plain_i, plain_t, plain_l, plain_b, plain_n, plain_s, isNone_i, isNone_t, isNone_n, immI, immB, immN, immS, immT, immL_cons, immL_nil, told_val, getD_some, tupOf_t, given_own, given_ownd, items_l, items_t, owned_own, datum_val, asInt_i, asLst_l, slotAt, bEq_int, bNe_int, ix0, ix1, ix2, ix3, iy0, iy1, iy2, iy3, opt_some, map_c, map_n, vmap_c, vmap_n, app_c, app_n, rep_s, rep_z, get_z, get_s, set_z, set_s, leng_c, leng_n, Nat.reduceSub, Nat.reduceAdd, not_t, not_f, Int.reduceToNat, Int.reducePow]
  · exact Lw.law_fin F0 G0 (by decide) (by decide) s5 (by decide) (by decide) s8 rfl
  · exact Lw.law_fin F0 G (by decide) (by decide) s5 g0 g1 gs rfl
  · exact Lw.law_fin F G0 h0 h1 hs (by decide) (by decide) s8 rfl
  · exact Lw.law_fin F G h0 h1 hs g0 g1 gs rfl
end DL

/- W_k24 -/
namespace Wk
open PySem PySem.Spec PyProof.Rows L2 DL
/-- what the walk asks of the module's names -/
structure Mg (G : Gx) (mg : Str → Option Value) : Prop where
  b_abs : mg "abs" = none
  b_bool : mg "bool" = none
  b_int : mg "int" = none
  b_isinstance : mg "isinstance" = none
  b_len : mg "len" = none
  b_list : mg "list" = none
  b_max : mg "max" = none
  b_min : mg "min" = none
  b_range : mg "range" = none
  b_set : mg "set" = none
  b_tuple : mg "tuple" = none
  c_MOST : ∃ t, mg "MOST" = some (.int 4000 t)
  c_SAME : ∃ a, mg "SAME" = some (.ref a) ∧ ∀ H, SqT G.K H a (([1, 0, 0, 1] : List Int).map V.int)
abbrev n_root : List Str := ["number", "near", "better"]
theorem sc_root : FnScope n_root ["number"] (defScope s_root) := ⟨rfl, rfl, rfl, by decide +kernel, rfl, by decide +kernel, by decide +kernel⟩
theorem ok_root {P : Program} {w : World} {G : Gx} {mg : Str → Option Value} {base : Heap} (M : Mg G mg) (A : DefAt G mg "root" s_root) : Fn1 P w G mg base 1 "root" DL.Pg.w_root :=
  fn1_mk (k := 0) A sc_root rfl rfl (by decide) (fun _ _ _ _ _ _ us hl => match us, hl with | [_], _ => rfl) (fun f cdv A outer s H E hr => by
  have C := cxt_def (P := P) (w := w) (G := G) (mg := mg) (base := base) (N := n_root) (x := "root") (sc := defScope s_root) (f := f) (cdv := cdv) (A := A) (outer := outer) (s := s) (H := H) (E := E) sc_root.nd hr
  unfold DL.Pg.t_root
  exact js_cons (s_if (jt_lt (j_v) (j_i))
        (js_one (s_never))
        (js_nil))
      (js_cons (s_if (jt_eq C (j_v) (j_i))
        (js_one (s_ret (j_i)))
        (js_nil))
      (js_cons (s_setV C (j_shl (j_i) (j_div (j_add C (j_bits (j_v)) (j_i)) (j_i))))
      (js_one (s_while C (jt_any (j_b))
        (js_cons (s_setV C (j_div (j_add C (j_v) (j_div (j_v) (j_v))) (j_i)))
      (js_cons (s_if (jt_ge (j_v) (j_v))
        (js_one (s_ret (j_v)))
        (js_nil))
      (js_one (s_setV C (j_v))))))))))
abbrev n_is_square : List Str := ["number", "side"]
theorem sc_is_square : FnScope n_is_square ["number"] (defScope s_is_square) := ⟨rfl, rfl, rfl, by decide +kernel, rfl, by decide +kernel, by decide +kernel⟩
theorem ok_is_square {P : Program} {w : World} {G : Gx} {mg : Str → Option Value} {base : Heap} (M : Mg G mg) (f_root : Fn1 P w G mg base 1 "root" DL.Pg.w_root) (A : DefAt G mg "is_square" s_is_square) : Fn1 P w G mg base 2 "is_square" DL.Pg.w_is_square :=
  fn1_mk (k := 1) A sc_is_square rfl rfl (by decide) (fun _ _ _ _ _ _ us hl => match us, hl with | [_], _ => rfl) (fun f cdv A outer s H E hr => by
  have C := cxt_def (P := P) (w := w) (G := G) (mg := mg) (base := base) (N := n_is_square) (x := "is_square") (sc := defScope s_is_square) (f := f) (cdv := cdv) (A := A) (outer := outer) (s := s) (H := H) (E := E) sc_is_square.nd hr
  unfold DL.Pg.t_is_square
  exact js_cons (s_if (jt_lt (j_v) (j_i))
        (js_one (s_ret (j_b)))
        (js_nil))
      (js_cons (s_setV C (j_call C f_root (ja_cons (j_v) (ja_nil))))
      (js_one (s_ret (j_eq C (j_mul (j_v) (j_v)) (j_v))))))
abbrev n_is_turn : List Str := ["turn"]
theorem sc_is_turn : FnScope n_is_turn ["turn"] (defScope s_is_turn) := ⟨rfl, rfl, rfl, by decide +kernel, rfl, by decide +kernel, by decide +kernel⟩
theorem ok_is_turn {P : Program} {w : World} {G : Gx} {mg : Str → Option Value} {base : Heap} (M : Mg G mg) (A : DefAt G mg "is_turn" s_is_turn) : Fn1 P w G mg base 1 "is_turn" DL.Pg.w_is_turn :=
  fn1_mk (k := 0) A sc_is_turn rfl rfl (by decide) (fun _ _ _ _ _ _ us hl => match us, hl with | [_], _ => rfl) (fun f cdv A outer s H E hr => by
  have C := cxt_def (P := P) (w := w) (G := G) (mg := mg) (base := base) (N := n_is_turn) (x := "is_turn") (sc := defScope s_is_turn) (f := f) (cdv := cdv) (A := A) (outer := outer) (s := s) (H := H) (E := E) sc_is_turn.nd hr
  unfold DL.Pg.t_is_turn
  exact js_one (s_ret (j_eq C (j_sub (j_mul (j_ix C (j_v) (j_i)) (j_ix C (j_v) (j_i))) (j_mul (j_ix C (j_v) (j_i)) (j_ix C (j_v) (j_i)))) (j_i))))
abbrev n_must_turn : List Str := ["turn"]
theorem sc_must_turn : FnScope n_must_turn ["turn"] (defScope s_must_turn) := ⟨rfl, rfl, rfl, by decide +kernel, rfl, by decide +kernel, by decide +kernel⟩
theorem ok_must_turn {P : Program} {w : World} {G : Gx} {mg : Str → Option Value} {base : Heap} (M : Mg G mg) (f_is_turn : Fn1 P w G mg base 1 "is_turn" DL.Pg.w_is_turn) (A : DefAt G mg "must_turn" s_must_turn) : Fn1 P w G mg base 2 "must_turn" DL.Pg.w_must_turn :=
  fn1_mk (k := 1) A sc_must_turn rfl rfl (by decide) (fun _ _ _ _ _ _ us hl => match us, hl with | [_], _ => rfl) (fun f cdv A outer s H E hr => by
  have C := cxt_def (P := P) (w := w) (G := G) (mg := mg) (base := base) (N := n_must_turn) (x := "must_turn") (sc := defScope s_must_turn) (f := f) (cdv := cdv) (A := A) (outer := outer) (s := s) (H := H) (E := E) sc_must_turn.nd hr
  unfold DL.Pg.t_must_turn
  exact js_one (s_if (jt_not (jt_any (j_call C f_is_turn (ja_cons (j_v) (ja_nil)))))
        (js_one (s_never))
        (js_nil)))
abbrev n_put : List Str := ["one", "other", "p", "q", "r", "s", "t", "u", "v", "w"]
theorem sc_put : FnScope n_put ["one", "other"] (defScope s_put) := ⟨rfl, rfl, rfl, by decide +kernel, rfl, by decide +kernel, by decide +kernel⟩
theorem ok_put {P : Program} {w : World} {G : Gx} {mg : Str → Option Value} {base : Heap} (M : Mg G mg) (A : DefAt G mg "put" s_put) : Fn1 P w G mg base 1 "put" DL.Pg.w_put :=
  fn1_mk (k := 0) A sc_put rfl rfl (by decide) (fun _ _ _ _ _ _ us hl => match us, hl with | [_, _], _ => rfl) (fun f cdv A outer s H E hr => by
  have C := cxt_def (P := P) (w := w) (G := G) (mg := mg) (base := base) (N := n_put) (x := "put") (sc := defScope s_put) (f := f) (cdv := cdv) (A := A) (outer := outer) (s := s) (H := H) (E := E) sc_put.nd hr
  unfold DL.Pg.t_put
  exact js_cons (s_unp C (j_v) (jg_cons C (jg_cons C (jg_cons C (jg_cons C (jg_nil))))))
      (js_cons (s_unp C (j_v) (jg_cons C (jg_cons C (jg_cons C (jg_cons C (jg_nil))))))
      (js_one (s_ret (j_tup (ja_cons (j_add C (j_mul (j_v) (j_v)) (j_mul (j_v) (j_v))) (ja_cons (j_add C (j_mul (j_v) (j_v)) (j_mul (j_v) (j_v))) (ja_cons (j_add C (j_mul (j_v) (j_v)) (j_mul (j_v) (j_v))) (ja_cons (j_add C (j_mul (j_v) (j_v)) (j_mul (j_v) (j_v))) (ja_nil))))))))))
abbrev n_then : List Str := ["one", "other"]
theorem sc_then : FnScope n_then ["one", "other"] (defScope s_then) := ⟨rfl, rfl, rfl, by decide +kernel, rfl, by decide +kernel, by decide +kernel⟩
theorem ok_then {P : Program} {w : World} {G : Gx} {mg : Str → Option Value} {base : Heap} (M : Mg G mg) (f_must_turn : Fn1 P w G mg base 2 "must_turn" DL.Pg.w_must_turn) (f_put : Fn1 P w G mg base 1 "put" DL.Pg.w_put) (A : DefAt G mg "then" s_then) : Fn1 P w G mg base 3 "then" DL.Pg.w_then :=
  fn1_mk (k := 2) A sc_then rfl rfl (by decide) (fun _ _ _ _ _ _ us hl => match us, hl with | [_, _], _ => rfl) (fun f cdv A outer s H E hr => by
  have C := cxt_def (P := P) (w := w) (G := G) (mg := mg) (base := base) (N := n_then) (x := "then") (sc := defScope s_then) (f := f) (cdv := cdv) (A := A) (outer := outer) (s := s) (H := H) (E := E) sc_then.nd hr
  unfold DL.Pg.t_then
  exact js_cons (s_drop (j_call C f_must_turn (ja_cons (j_v) (ja_nil))))
      (js_cons (s_drop (j_call C f_must_turn (ja_cons (j_v) (ja_nil))))
      (js_one (s_ret (j_call C f_put (ja_cons (j_v) (ja_cons (j_v) (ja_nil))))))))
abbrev n_measure : List Str := ["form", "a", "b", "c"]
theorem sc_measure : FnScope n_measure ["form"] (defScope s_measure) := ⟨rfl, rfl, rfl, by decide +kernel, rfl, by decide +kernel, by decide +kernel⟩
theorem ok_measure {P : Program} {w : World} {G : Gx} {mg : Str → Option Value} {base : Heap} (M : Mg G mg) (A : DefAt G mg "measure" s_measure) : Fn1 P w G mg base 1 "measure" DL.Pg.w_measure :=
  fn1_mk (k := 0) A sc_measure rfl rfl (by decide) (fun _ _ _ _ _ _ us hl => match us, hl with | [_], _ => rfl) (fun f cdv A outer s H E hr => by
  have C := cxt_def (P := P) (w := w) (G := G) (mg := mg) (base := base) (N := n_measure) (x := "measure") (sc := defScope s_measure) (f := f) (cdv := cdv) (A := A) (outer := outer) (s := s) (H := H) (E := E) sc_measure.nd hr
  unfold DL.Pg.t_measure
  exact js_cons (s_unp C (j_v) (jg_cons C (jg_cons C (jg_cons C (jg_nil)))))
      (js_one (s_ret (j_sub (j_mul (j_v) (j_v)) (j_mul (j_mul (j_i) (j_v)) (j_v))))))
abbrev n_value : List Str := ["form", "point", "a", "b", "c", "x", "y"]
theorem sc_value : FnScope n_value ["form", "point"] (defScope s_value) := ⟨rfl, rfl, rfl, by decide +kernel, rfl, by decide +kernel, by decide +kernel⟩
theorem ok_value {P : Program} {w : World} {G : Gx} {mg : Str → Option Value} {base : Heap} (M : Mg G mg) (A : DefAt G mg "value" s_value) : Fn1 P w G mg base 1 "value" DL.Pg.w_value :=
  fn1_mk (k := 0) A sc_value rfl rfl (by decide) (fun _ _ _ _ _ _ us hl => match us, hl with | [_, _], _ => rfl) (fun f cdv A outer s H E hr => by
  have C := cxt_def (P := P) (w := w) (G := G) (mg := mg) (base := base) (N := n_value) (x := "value") (sc := defScope s_value) (f := f) (cdv := cdv) (A := A) (outer := outer) (s := s) (H := H) (E := E) sc_value.nd hr
  unfold DL.Pg.t_value
  exact js_cons (s_unp C (j_v) (jg_cons C (jg_cons C (jg_cons C (jg_nil)))))
      (js_cons (s_unp C (j_v) (jg_cons C (jg_cons C (jg_nil))))
      (js_one (s_ret (j_add C (j_add C (j_mul (j_mul (j_v) (j_v)) (j_v)) (j_mul (j_mul (j_v) (j_v)) (j_v))) (j_mul (j_mul (j_v) (j_v)) (j_v)))))))
abbrev n_moved : List Str := ["form", "turn", "a", "b", "c", "p", "q", "r", "s", "middle"]
theorem sc_moved : FnScope n_moved ["form", "turn"] (defScope s_moved) := ⟨rfl, rfl, rfl, by decide +kernel, rfl, by decide +kernel, by decide +kernel⟩
theorem ok_moved {P : Program} {w : World} {G : Gx} {mg : Str → Option Value} {base : Heap} (M : Mg G mg) (f_must_turn : Fn1 P w G mg base 2 "must_turn" DL.Pg.w_must_turn) (f_value : Fn1 P w G mg base 1 "value" DL.Pg.w_value) (A : DefAt G mg "moved" s_moved) : Fn1 P w G mg base 3 "moved" DL.Pg.w_moved :=
  fn1_mk (k := 2) A sc_moved rfl rfl (by decide) (fun _ _ _ _ _ _ us hl => match us, hl with | [_, _], _ => rfl) (fun f cdv A outer s H E hr => by
  have C := cxt_def (P := P) (w := w) (G := G) (mg := mg) (base := base) (N := n_moved) (x := "moved") (sc := defScope s_moved) (f := f) (cdv := cdv) (A := A) (outer := outer) (s := s) (H := H) (E := E) sc_moved.nd hr
  unfold DL.Pg.t_moved
  exact js_cons (s_drop (j_call C f_must_turn (ja_cons (j_v) (ja_nil))))
      (js_cons (s_unp C (j_v) (jg_cons C (jg_cons C (jg_cons C (jg_nil)))))
      (js_cons (s_unp C (j_v) (jg_cons C (jg_cons C (jg_cons C (jg_cons C (jg_nil))))))
      (js_cons (s_setV C (j_add C (j_add C (j_mul (j_mul (j_mul (j_i) (j_v)) (j_v)) (j_v)) (j_mul (j_v) (j_add C (j_mul (j_v) (j_v)) (j_mul (j_v) (j_v))))) (j_mul (j_mul (j_mul (j_i) (j_v)) (j_v)) (j_v))))
      (js_one (s_ret (j_tup (ja_cons (j_call C f_value (ja_cons (j_v) (ja_cons (j_tup (ja_cons (j_v) (ja_cons (j_v) (ja_nil)))) (ja_nil)))) (ja_cons (j_v) (ja_cons (j_call C f_value (ja_cons (j_v) (ja_cons (j_tup (ja_cons (j_v) (ja_cons (j_v) (ja_nil)))) (ja_nil)))) (ja_nil)))))))))))
abbrev n_shape : List Str := ["form", "bar"]
theorem sc_shape : FnScope n_shape ["form"] (defScope s_shape) := ⟨rfl, rfl, rfl, by decide +kernel, rfl, by decide +kernel, by decide +kernel⟩
theorem ok_shape {P : Program} {w : World} {G : Gx} {mg : Str → Option Value} {base : Heap} (M : Mg G mg) (f_measure : Fn1 P w G mg base 1 "measure" DL.Pg.w_measure) (f_is_square : Fn1 P w G mg base 2 "is_square" DL.Pg.w_is_square) (A : DefAt G mg "shape" s_shape) : Fn1 P w G mg base 3 "shape" DL.Pg.w_shape :=
  fn1_mk (k := 2) A sc_shape rfl rfl (by decide) (fun _ _ _ _ _ _ us hl => match us, hl with | [_], _ => rfl) (fun f cdv A outer s H E hr => by
  have C := cxt_def (P := P) (w := w) (G := G) (mg := mg) (base := base) (N := n_shape) (x := "shape") (sc := defScope s_shape) (f := f) (cdv := cdv) (A := A) (outer := outer) (s := s) (H := H) (E := E) sc_shape.nd hr
  unfold DL.Pg.t_shape
  exact js_cons (s_setV C (j_call C f_measure (ja_cons (j_v) (ja_nil))))
      (js_cons (s_if (jt_w (jw_and (jt_lt (j_v) (j_i)) (jw_and1 (jt_gt (j_ix C (j_v) (j_i)) (j_i)))))
        (js_one (s_ret (j_s)))
        (js_nil))
      (js_cons (s_if (jt_lt (j_v) (j_i))
        (js_one (s_ret (j_s)))
        (js_nil))
      (js_cons (s_if (jt_any (j_call C f_is_square (ja_cons (j_v) (ja_nil))))
        (js_one (s_ret (j_s)))
        (js_nil))
      (js_one (s_ret (j_s)))))))
abbrev n_must_saddle : List Str := ["form"]
theorem sc_must_saddle : FnScope n_must_saddle ["form"] (defScope s_must_saddle) := ⟨rfl, rfl, rfl, by decide +kernel, rfl, by decide +kernel, by decide +kernel⟩
theorem ok_must_saddle {P : Program} {w : World} {G : Gx} {mg : Str → Option Value} {base : Heap} (M : Mg G mg) (f_shape : Fn1 P w G mg base 3 "shape" DL.Pg.w_shape) (f_measure : Fn1 P w G mg base 1 "measure" DL.Pg.w_measure) (A : DefAt G mg "must_saddle" s_must_saddle) : Fn1 P w G mg base 4 "must_saddle" DL.Pg.w_must_saddle :=
  fn1_mk (k := 3) A sc_must_saddle rfl rfl (by decide) (fun _ _ _ _ _ _ us hl => match us, hl with | [_], _ => rfl) (fun f cdv A outer s H E hr => by
  have C := cxt_def (P := P) (w := w) (G := G) (mg := mg) (base := base) (N := n_must_saddle) (x := "must_saddle") (sc := defScope s_must_saddle) (f := f) (cdv := cdv) (A := A) (outer := outer) (s := s) (H := H) (E := E) sc_must_saddle.nd hr
  unfold DL.Pg.t_must_saddle
  exact js_cons (s_if (jt_ne C (j_call C f_shape (ja_cons (j_v) (ja_nil))) (j_s))
        (js_one (s_never))
        (js_nil))
      (js_one (s_if (jt_gt (j_call C f_measure (ja_cons (j_v) (ja_nil))) (j_gint M.c_MOST))
        (js_one (s_never))
        (js_nil))))
abbrev n_lies_level : List Str := ["form", "far", "a", "b", "c"]
theorem sc_lies_level : FnScope n_lies_level ["form", "far"] (defScope s_lies_level) := ⟨rfl, rfl, rfl, by decide +kernel, rfl, by decide +kernel, by decide +kernel⟩
theorem ok_lies_level {P : Program} {w : World} {G : Gx} {mg : Str → Option Value} {base : Heap} (M : Mg G mg) (A : DefAt G mg "lies_level" s_lies_level) : Fn1 P w G mg base 1 "lies_level" DL.Pg.w_lies_level :=
  fn1_mk (k := 0) A sc_lies_level rfl rfl (by decide) (fun _ _ _ _ _ _ us hl => match us, hl with | [_, _], _ => rfl) (fun f cdv A outer s H E hr => by
  have C := cxt_def (P := P) (w := w) (G := G) (mg := mg) (base := base) (N := n_lies_level) (x := "lies_level") (sc := defScope s_lies_level) (f := f) (cdv := cdv) (A := A) (outer := outer) (s := s) (H := H) (E := E) sc_lies_level.nd hr
  unfold DL.Pg.t_lies_level
  exact js_cons (s_unp C (j_v) (jg_cons C (jg_cons C (jg_cons C (jg_nil)))))
      (js_one (s_ret (j_and (j_chain (o_lt C) (o_le C) (j_i) (j_v) (j_v)) (j_one (j_chain (o_lt C) (o_le C) (j_sub (j_v) (j_v)) (j_mul (j_i) (j_abs M.b_abs (ja_cons (j_v) (ja_nil)))) (j_add C (j_v) (j_v))))))))
abbrev n_onward : List Str := ["form", "far", "a", "b", "c", "top", "d"]
theorem sc_onward : FnScope n_onward ["form", "far"] (defScope s_onward) := ⟨rfl, rfl, rfl, by decide +kernel, rfl, by decide +kernel, by decide +kernel⟩
theorem ok_onward {P : Program} {w : World} {G : Gx} {mg : Str → Option Value} {base : Heap} (M : Mg G mg) (A : DefAt G mg "onward" s_onward) : Fn1 P w G mg base 1 "onward" DL.Pg.w_onward :=
  fn1_mk (k := 0) A sc_onward rfl rfl (by decide) (fun _ _ _ _ _ _ us hl => match us, hl with | [_, _], _ => rfl) (fun f cdv A outer s H E hr => by
  have C := cxt_def (P := P) (w := w) (G := G) (mg := mg) (base := base) (N := n_onward) (x := "onward") (sc := defScope s_onward) (f := f) (cdv := cdv) (A := A) (outer := outer) (s := s) (H := H) (E := E) sc_onward.nd hr
  unfold DL.Pg.t_onward
  exact js_cons (s_unp C (j_v) (jg_cons C (jg_cons C (jg_cons C (jg_nil)))))
      (js_cons (s_setV C (j_max C M.b_max (ja_cons (j_v) (ja_cons (j_abs M.b_abs (ja_cons (j_v) (ja_nil))) (ja_nil)))))
      (js_cons (s_setV C (j_sub (j_v) (j_mod (j_add C (j_v) (j_v)) (j_mul (j_i) (j_abs M.b_abs (ja_cons (j_v) (ja_nil)))))))
      (js_one (s_ret (j_tup (ja_cons (j_i) (ja_cons (j_neg (j_i)) (ja_cons (j_i) (ja_cons (j_div (j_add C (j_v) (j_v)) (j_mul (j_i) (j_v))) (ja_nil)))))))))))
abbrev n_eased : List Str := ["form", "far", "turn", "one"]
theorem sc_eased : FnScope n_eased ["form"] (defScope s_eased) := ⟨rfl, rfl, rfl, by decide +kernel, rfl, by decide +kernel, by decide +kernel⟩
theorem ok_eased {P : Program} {w : World} {G : Gx} {mg : Str → Option Value} {base : Heap} (M : Mg G mg) (f_must_saddle : Fn1 P w G mg base 4 "must_saddle" DL.Pg.w_must_saddle) (f_root : Fn1 P w G mg base 1 "root" DL.Pg.w_root) (f_measure : Fn1 P w G mg base 1 "measure" DL.Pg.w_measure) (f_lies_level : Fn1 P w G mg base 1 "lies_level" DL.Pg.w_lies_level) (f_onward : Fn1 P w G mg base 1 "onward" DL.Pg.w_onward) (f_moved : Fn1 P w G mg base 3 "moved" DL.Pg.w_moved) (f_then : Fn1 P w G mg base 3 "then" DL.Pg.w_then) (A : DefAt G mg "eased" s_eased) : Fn1 P w G mg base 5 "eased" DL.Pg.w_eased :=
  fn1_mk (k := 4) A sc_eased rfl rfl (by decide) (fun _ _ _ _ _ _ us hl => match us, hl with | [_], _ => rfl) (fun f cdv A outer s H E hr => by
  have C := cxt_def (P := P) (w := w) (G := G) (mg := mg) (base := base) (N := n_eased) (x := "eased") (sc := defScope s_eased) (f := f) (cdv := cdv) (A := A) (outer := outer) (s := s) (H := H) (E := E) sc_eased.nd hr
  unfold DL.Pg.t_eased
  exact js_cons (s_drop (j_call C f_must_saddle (ja_cons (j_v) (ja_nil))))
      (js_cons (s_setV C (j_call C f_root (ja_cons (j_call C f_measure (ja_cons (j_v) (ja_nil))) (ja_nil))))
      (js_cons (s_setV C (j_gtup (ns := [1, 0, 0, 1]) M.c_SAME))
      (js_cons (s_while C (jt_not (jt_any (j_call C f_lies_level (ja_cons (j_v) (ja_cons (j_v) (ja_nil))))))
        (js_cons (s_setV C (j_call C f_onward (ja_cons (j_v) (ja_cons (j_v) (ja_nil)))))
      (js_cons (s_setV C (j_call C f_moved (ja_cons (j_v) (ja_cons (j_v) (ja_nil)))))
      (js_one (s_setV C (j_call C f_then (ja_cons (j_v) (ja_cons (j_v) (ja_nil)))))))))
      (js_one (s_ret (j_tup (ja_cons (j_v) (ja_cons (j_v) (ja_nil))))))))))
abbrev n_ways_round : List Str := ["form", "turn", "far", "ways", "one"]
theorem sc_ways_round : FnScope n_ways_round ["form"] (defScope s_ways_round) := ⟨rfl, rfl, rfl, by decide +kernel, rfl, by decide +kernel, by decide +kernel⟩
theorem ok_ways_round {P : Program} {w : World} {G : Gx} {mg : Str → Option Value} {base : Heap} (M : Mg G mg) (f_eased : Fn1 P w G mg base 5 "eased" DL.Pg.w_eased) (f_root : Fn1 P w G mg base 1 "root" DL.Pg.w_root) (f_measure : Fn1 P w G mg base 1 "measure" DL.Pg.w_measure) (f_onward : Fn1 P w G mg base 1 "onward" DL.Pg.w_onward) (f_moved : Fn1 P w G mg base 3 "moved" DL.Pg.w_moved) (f_then : Fn1 P w G mg base 3 "then" DL.Pg.w_then) (A : DefAt G mg "ways_round" s_ways_round) : Fn1 P w G mg base 6 "ways_round" DL.Pg.w_ways_round :=
  fn1_mk (k := 5) A sc_ways_round rfl rfl (by decide) (fun _ _ _ _ _ _ us hl => match us, hl with | [_], _ => rfl) (fun f cdv A outer s H E hr => by
  have C := cxt_def (P := P) (w := w) (G := G) (mg := mg) (base := base) (N := n_ways_round) (x := "ways_round") (sc := defScope s_ways_round) (f := f) (cdv := cdv) (A := A) (outer := outer) (s := s) (H := H) (E := E) sc_ways_round.nd hr
  unfold DL.Pg.t_ways_round
  exact js_cons (s_unp C (j_call C f_eased (ja_cons (j_v) (ja_nil))) (jg_cons C (jg_cons C (jg_nil))))
      (js_cons (s_setV C (j_call C f_root (ja_cons (j_call C f_measure (ja_cons (j_v) (ja_nil))) (ja_nil))))
      (js_cons (s_set C (j_newD))
      (js_cons (s_while C (jt_view (jt_dnotin C (j_v) (j_v)))
        (js_cons (s_dput C (j_v) (j_v))
      (js_cons (s_setV C (j_call C f_onward (ja_cons (j_v) (ja_cons (j_v) (ja_nil)))))
      (js_cons (s_setV C (j_call C f_moved (ja_cons (j_v) (ja_cons (j_v) (ja_nil)))))
      (js_one (s_setV C (j_call C f_then (ja_cons (j_v) (ja_cons (j_v) (ja_nil))))))))))
      (js_one (s_retOwn))))))
abbrev n_round_of : List Str := ["form", "row", "at"]
theorem sc_round_of : FnScope n_round_of ["form"] (defScope s_round_of) := ⟨rfl, rfl, rfl, by decide +kernel, rfl, by decide +kernel, by decide +kernel⟩
theorem ok_round_of {P : Program} {w : World} {G : Gx} {mg : Str → Option Value} {base : Heap} (M : Mg G mg) (f_ways_round : Fn1 P w G mg base 6 "ways_round" DL.Pg.w_ways_round) (A : DefAt G mg "round_of" s_round_of) : Fn1 P w G mg base 7 "round_of" DL.Pg.w_round_of :=
  fn1_mk (k := 6) A sc_round_of rfl rfl (by decide) (fun _ _ _ _ _ _ us hl => match us, hl with | [_], _ => rfl) (fun f cdv A outer s H E hr => by
  have C := cxt_def (P := P) (w := w) (G := G) (mg := mg) (base := base) (N := n_round_of) (x := "round_of") (sc := defScope s_round_of) (f := f) (cdv := cdv) (A := A) (outer := outer) (s := s) (H := H) (E := E) sc_round_of.nd hr
  unfold DL.Pg.t_round_of
  exact js_cons (s_setV C (j_listD C M.b_list (ja_cons (j_call C f_ways_round (ja_cons (j_v) (ja_nil))) (ja_nil))))
      (js_cons (s_setV C (j_index C (j_v) (ja_cons (j_minT C M.b_min (ja_cons (j_v) (ja_nil))) (ja_nil))))
      (js_one (s_ret (j_add C (j_sl C (j_v) (jo_some (j_v)) (jo_none)) (j_sl C (j_v) (jo_none) (jo_some (j_v))))))))
abbrev n__law_cell : List Str := ["_law_script", "_law_k"]
theorem sc__law_cell : FnScope n__law_cell ["_law_script", "_law_k"] (defScope s__law_cell) := ⟨rfl, rfl, rfl, by decide +kernel, rfl, by decide +kernel, by decide +kernel⟩
theorem ok__law_cell {P : Program} {w : World} {G : Gx} {mg : Str → Option Value} {base : Heap} (M : Mg G mg) (A : DefAt G mg "_law_cell" s__law_cell) : Fn1 P w G mg base 1 "_law_cell" DL.Lw.w_law_cell :=
  fn1_mk (k := 0) A sc__law_cell rfl rfl (by decide) (fun _ _ _ _ _ _ us hl => match us, hl with | [_, _], _ => rfl) (fun f cdv A outer s H E hr => by
  have C := cxt_def (P := P) (w := w) (G := G) (mg := mg) (base := base) (N := n__law_cell) (x := "_law_cell") (sc := defScope s__law_cell) (f := f) (cdv := cdv) (A := A) (outer := outer) (s := s) (H := H) (E := E) sc__law_cell.nd hr
  unfold DL.Lw.t_law_cell
  exact js_cons (s_if (jt_lt (j_v) (j_len C M.b_len (ja_cons (j_v) (ja_nil))))
        (js_one (s_ret (j_ix C (j_v) (j_v))))
        (js_nil))
      (js_one (s_ret (j_i))))
abbrev n__law_whole : List Str := ["_law_found"]
theorem sc__law_whole : FnScope n__law_whole ["_law_found"] (defScope s__law_whole) := ⟨rfl, rfl, rfl, by decide +kernel, rfl, by decide +kernel, by decide +kernel⟩
theorem ok__law_whole {P : Program} {w : World} {G : Gx} {mg : Str → Option Value} {base : Heap} (M : Mg G mg) (A : DefAt G mg "_law_whole" s__law_whole) : Fn1 P w G mg base 1 "_law_whole" DL.Lw.w_law_whole :=
  fn1_mk (k := 0) A sc__law_whole rfl rfl (by decide) (fun _ _ _ _ _ _ us hl => match us, hl with | [_], _ => rfl) (fun f cdv A outer s H E hr => by
  have C := cxt_def (P := P) (w := w) (G := G) (mg := mg) (base := base) (N := n__law_whole) (x := "_law_whole") (sc := defScope s__law_whole) (f := f) (cdv := cdv) (A := A) (outer := outer) (s := s) (H := H) (E := E) sc__law_whole.nd hr
  unfold DL.Lw.t_law_whole
  exact js_one (s_ret (j_and (j_isi C isi_int M.b_isinstance M.b_int bt_int (j_v)) (j_one (j_not (j_isi C isi_bool M.b_isinstance M.b_bool bt_bool (j_v)))))))
abbrev n__law_wholes : List Str := ["_law_found", "_law_many", "_law_one"]
theorem sc__law_wholes : FnScope n__law_wholes ["_law_found", "_law_many"] (defScope s__law_wholes) := ⟨rfl, rfl, rfl, by decide +kernel, rfl, by decide +kernel, by decide +kernel⟩
theorem ok__law_wholes {P : Program} {w : World} {G : Gx} {mg : Str → Option Value} {base : Heap} (M : Mg G mg) (f__law_whole : Fn1 P w G mg base 1 "_law_whole" DL.Lw.w_law_whole) (A : DefAt G mg "_law_wholes" s__law_wholes) : Fn1 P w G mg base 2 "_law_wholes" DL.Lw.w_law_wholes :=
  fn1_mk (k := 1) A sc__law_wholes rfl rfl (by decide) (fun _ _ _ _ _ _ us hl => match us, hl with | [_, _], _ => rfl) (fun f cdv A outer s H E hr => by
  have C := cxt_def (P := P) (w := w) (G := G) (mg := mg) (base := base) (N := n__law_wholes) (x := "_law_wholes") (sc := defScope s__law_wholes) (f := f) (cdv := cdv) (A := A) (outer := outer) (s := s) (H := H) (E := E) sc__law_wholes.nd hr
  unfold DL.Lw.t_law_wholes
  exact js_cons (s_if (jt_w (jw_or (jt_not (jt_any (j_isi C isi_tuple M.b_isinstance M.b_tuple bt_tuple (j_v)))) (jw_or1 (jt_ne C (j_len C M.b_len (ja_cons (j_v) (ja_nil))) (j_v)))))
        (js_one (s_ret (j_b)))
        (js_nil))
      (js_one (s_ret (j_eq C (j_len C M.b_len (ja_cons (j_lc C (j_v) (blkOk_by (N := n__law_wholes) (sc := defScope s__law_wholes) (own := [("_law_one", 2)]) (by decide +kernel)) (fun q => ji_one (jt_any (j_call (C.blkq _ q) f__law_whole (ja_cons (j_v) (ja_nil))))) (fun q => j_v)) (ja_nil))) (j_v)))))
abbrev n__law_bar : List Str := ["_law_form"]
theorem sc__law_bar : FnScope n__law_bar ["_law_form"] (defScope s__law_bar) := ⟨rfl, rfl, rfl, by decide +kernel, rfl, by decide +kernel, by decide +kernel⟩
theorem ok__law_bar {P : Program} {w : World} {G : Gx} {mg : Str → Option Value} {base : Heap} (M : Mg G mg) (A : DefAt G mg "_law_bar" s__law_bar) : Fn1 P w G mg base 1 "_law_bar" DL.Lw.w_law_bar :=
  fn1_mk (k := 0) A sc__law_bar rfl rfl (by decide) (fun _ _ _ _ _ _ us hl => match us, hl with | [_], _ => rfl) (fun f cdv A outer s H E hr => by
  have C := cxt_def (P := P) (w := w) (G := G) (mg := mg) (base := base) (N := n__law_bar) (x := "_law_bar") (sc := defScope s__law_bar) (f := f) (cdv := cdv) (A := A) (outer := outer) (s := s) (H := H) (E := E) sc__law_bar.nd hr
  unfold DL.Lw.t_law_bar
  exact js_one (s_ret (j_sub (j_mul (j_ix C (j_v) (j_i)) (j_ix C (j_v) (j_i))) (j_mul (j_mul (j_i) (j_ix C (j_v) (j_i))) (j_ix C (j_v) (j_i))))))
abbrev n__law_root : List Str := ["_law_number", "_law_near"]
theorem sc__law_root : FnScope n__law_root ["_law_number"] (defScope s__law_root) := ⟨rfl, rfl, rfl, by decide +kernel, rfl, by decide +kernel, by decide +kernel⟩
theorem ok__law_root {P : Program} {w : World} {G : Gx} {mg : Str → Option Value} {base : Heap} (M : Mg G mg) (A : DefAt G mg "_law_root" s__law_root) : Fn1 P w G mg base 1 "_law_root" DL.Lw.w_law_root :=
  fn1_mk (k := 0) A sc__law_root rfl rfl (by decide) (fun _ _ _ _ _ _ us hl => match us, hl with | [_], _ => rfl) (fun f cdv A outer s H E hr => by
  have C := cxt_def (P := P) (w := w) (G := G) (mg := mg) (base := base) (N := n__law_root) (x := "_law_root") (sc := defScope s__law_root) (f := f) (cdv := cdv) (A := A) (outer := outer) (s := s) (H := H) (E := E) sc__law_root.nd hr
  unfold DL.Lw.t_law_root
  exact js_cons (s_setV C (j_shl (j_i) (j_div (j_add C (j_bits (j_v)) (j_i)) (j_i))))
      (js_cons (s_while C (jt_gt (j_mul (j_v) (j_v)) (j_v))
        (js_one (s_setV C (j_div (j_add C (j_v) (j_div (j_v) (j_v))) (j_i)))))
      (js_one (s_ret (j_v)))))
abbrev n__law_flat : List Str := ["_law_form", "_law_bar_here", "_law_far"]
theorem sc__law_flat : FnScope n__law_flat ["_law_form"] (defScope s__law_flat) := ⟨rfl, rfl, rfl, by decide +kernel, rfl, by decide +kernel, by decide +kernel⟩
theorem ok__law_flat {P : Program} {w : World} {G : Gx} {mg : Str → Option Value} {base : Heap} (M : Mg G mg) (f__law_bar : Fn1 P w G mg base 1 "_law_bar" DL.Lw.w_law_bar) (f__law_root : Fn1 P w G mg base 1 "_law_root" DL.Lw.w_law_root) (A : DefAt G mg "_law_flat" s__law_flat) : Fn1 P w G mg base 2 "_law_flat" DL.Lw.w_law_flat :=
  fn1_mk (k := 1) A sc__law_flat rfl rfl (by decide) (fun _ _ _ _ _ _ us hl => match us, hl with | [_], _ => rfl) (fun f cdv A outer s H E hr => by
  have C := cxt_def (P := P) (w := w) (G := G) (mg := mg) (base := base) (N := n__law_flat) (x := "_law_flat") (sc := defScope s__law_flat) (f := f) (cdv := cdv) (A := A) (outer := outer) (s := s) (H := H) (E := E) sc__law_flat.nd hr
  unfold DL.Lw.t_law_flat
  exact js_cons (s_setV C (j_call C f__law_bar (ja_cons (j_v) (ja_nil))))
      (js_cons (s_setV C (j_call C f__law_root (ja_cons (j_v) (ja_nil))))
      (js_one (s_ret (j_eq C (j_mul (j_v) (j_v)) (j_v))))))
abbrev n__law_level : List Str := ["_law_form", "_law_far"]
theorem sc__law_level : FnScope n__law_level ["_law_form", "_law_far"] (defScope s__law_level) := ⟨rfl, rfl, rfl, by decide +kernel, rfl, by decide +kernel, by decide +kernel⟩
theorem ok__law_level {P : Program} {w : World} {G : Gx} {mg : Str → Option Value} {base : Heap} (M : Mg G mg) (A : DefAt G mg "_law_level" s__law_level) : Fn1 P w G mg base 1 "_law_level" DL.Lw.w_law_level :=
  fn1_mk (k := 0) A sc__law_level rfl rfl (by decide) (fun _ _ _ _ _ _ us hl => match us, hl with | [_, _], _ => rfl) (fun f cdv A outer s H E hr => by
  have C := cxt_def (P := P) (w := w) (G := G) (mg := mg) (base := base) (N := n__law_level) (x := "_law_level") (sc := defScope s__law_level) (f := f) (cdv := cdv) (A := A) (outer := outer) (s := s) (H := H) (E := E) sc__law_level.nd hr
  unfold DL.Lw.t_law_level
  exact js_one (s_ret (j_and (j_chain (o_lt C) (o_le C) (j_i) (j_ix C (j_v) (j_i)) (j_v)) (j_one (j_chain (o_lt C) (o_le C) (j_sub (j_v) (j_ix C (j_v) (j_i))) (j_mul (j_i) (j_abs M.b_abs (ja_cons (j_ix C (j_v) (j_i)) (ja_nil)))) (j_add C (j_v) (j_ix C (j_v) (j_i))))))))
abbrev n__law_behind : List Str := ["_law_form", "_law_top", "_law_a", "_law_b", "_law_c", "_law_d"]
theorem sc__law_behind : FnScope n__law_behind ["_law_form", "_law_top"] (defScope s__law_behind) := ⟨rfl, rfl, rfl, by decide +kernel, rfl, by decide +kernel, by decide +kernel⟩
theorem ok__law_behind {P : Program} {w : World} {G : Gx} {mg : Str → Option Value} {base : Heap} (M : Mg G mg) (f__law_bar : Fn1 P w G mg base 1 "_law_bar" DL.Lw.w_law_bar) (A : DefAt G mg "_law_behind" s__law_behind) : Fn1 P w G mg base 2 "_law_behind" DL.Lw.w_law_behind :=
  fn1_mk (k := 1) A sc__law_behind rfl rfl (by decide) (fun _ _ _ _ _ _ us hl => match us, hl with | [_, _], _ => rfl) (fun f cdv A outer s H E hr => by
  have C := cxt_def (P := P) (w := w) (G := G) (mg := mg) (base := base) (N := n__law_behind) (x := "_law_behind") (sc := defScope s__law_behind) (f := f) (cdv := cdv) (A := A) (outer := outer) (s := s) (H := H) (E := E) sc__law_behind.nd hr
  unfold DL.Lw.t_law_behind
  exact js_cons (s_unp C (j_v) (jg_cons C (jg_cons C (jg_cons C (jg_nil)))))
      (js_cons (s_setV C (j_sub (j_v) (j_mod (j_add C (j_v) (j_v)) (j_mul (j_i) (j_abs M.b_abs (ja_cons (j_v) (ja_nil)))))))
      (js_one (s_ret (j_tup (ja_cons (j_v) (ja_cons (j_v) (ja_cons (j_div (j_sub (j_mul (j_v) (j_v)) (j_call C f__law_bar (ja_cons (j_v) (ja_nil)))) (j_mul (j_i) (j_v))) (ja_nil)))))))))
abbrev n__law_saddle : List Str := ["_law_one", "_law_two", "_law_three", "_law_often", "_law_size", "_law_m", "_law_b", "_law_rest", "_law_most", "_law_bar_here", "_law_sign"]
theorem sc__law_saddle : FnScope n__law_saddle ["_law_one", "_law_two", "_law_three"] (defScope s__law_saddle) := ⟨rfl, rfl, rfl, by decide +kernel, rfl, by decide +kernel, by decide +kernel⟩
theorem ok__law_saddle {P : Program} {w : World} {G : Gx} {mg : Str → Option Value} {base : Heap} (M : Mg G mg) (A : DefAt G mg "_law_saddle" s__law_saddle) : Fn1 P w G mg base 1 "_law_saddle" DL.Lw.w_law_saddle :=
  fn1_mk (k := 0) A sc__law_saddle rfl rfl (by decide) (fun _ _ _ _ _ _ us hl => match us, hl with | [_, _, _], _ => rfl) (fun f cdv A outer s H E hr => by
  have C := cxt_def (P := P) (w := w) (G := G) (mg := mg) (base := base) (N := n__law_saddle) (x := "_law_saddle") (sc := defScope s__law_saddle) (f := f) (cdv := cdv) (A := A) (outer := outer) (s := s) (H := H) (E := E) sc__law_saddle.nd hr
  unfold DL.Lw.t_law_saddle
  exact js_cons (s_setV C (j_ix C (j_lst (ja_cons (j_i) (ja_cons (j_i) (ja_cons (j_i) (ja_cons (j_add C (j_i) (j_mod (j_div (j_v) (j_i)) (j_i))) (ja_nil)))))) (j_mod (j_div (j_v) (j_i)) (j_i))))
      (js_cons (s_setV C (j_ix C (j_lst (ja_cons (j_i) (ja_cons (j_i) (ja_nil)))) (j_int M.b_int (ja_cons (j_or (j_gt (j_v) (j_i)) (j_one (j_eq C (j_mod (j_div (j_v) (j_i)) (j_i)) (j_i)))) (ja_nil)))))
      (js_cons (s_setV C (j_add C (j_i) (j_mod (j_div (j_v) (j_i)) (j_v))))
      (js_cons (s_setV C (j_mod (j_v) (j_mul (j_i) (j_v))))
      (js_cons (s_setV C (j_mod (j_mul (j_v) (j_v)) (j_mul (j_i) (j_v))))
      (js_cons (s_setV C (j_div (j_i) (j_mul (j_v) (j_v))))
      (js_cons (s_setV C (j_add C (j_v) (j_mul (j_mul (j_i) (j_v)) (j_mod (j_v) (j_add C (j_i) (j_div (j_sub (j_v) (j_v)) (j_mul (j_i) (j_v))))))))
      (js_cons (s_setV C (j_mul (j_v) (j_sub (j_i) (j_mul (j_i) (j_mod (j_v) (j_i))))))
      (js_one (s_ret (j_tup (ja_cons (j_mul (j_v) (j_v)) (ja_cons (j_mul (j_v) (j_v)) (ja_cons (j_mul (j_v) (j_div (j_sub (j_mul (j_v) (j_v)) (j_v)) (j_mul (j_i) (j_v)))) (ja_nil)))))))))))))))
abbrev n__law_eased : List Str := ["_law_form", "_law_far"]
theorem sc__law_eased : FnScope n__law_eased ["_law_form", "_law_far"] (defScope s__law_eased) := ⟨rfl, rfl, rfl, by decide +kernel, rfl, by decide +kernel, by decide +kernel⟩
theorem ok__law_eased {P : Program} {w : World} {G : Gx} {mg : Str → Option Value} {base : Heap} (M : Mg G mg) (f__law_level : Fn1 P w G mg base 1 "_law_level" DL.Lw.w_law_level) (f__law_behind : Fn1 P w G mg base 2 "_law_behind" DL.Lw.w_law_behind) (A : DefAt G mg "_law_eased" s__law_eased) : Fn1 P w G mg base 3 "_law_eased" DL.Lw.w_law_eased :=
  fn1_mk (k := 2) A sc__law_eased rfl rfl (by decide) (fun _ _ _ _ _ _ us hl => match us, hl with | [_, _], _ => rfl) (fun f cdv A outer s H E hr => by
  have C := cxt_def (P := P) (w := w) (G := G) (mg := mg) (base := base) (N := n__law_eased) (x := "_law_eased") (sc := defScope s__law_eased) (f := f) (cdv := cdv) (A := A) (outer := outer) (s := s) (H := H) (E := E) sc__law_eased.nd hr
  unfold DL.Lw.t_law_eased
  exact js_cons (s_while C (jt_not (jt_any (j_call C f__law_level (ja_cons (j_v) (ja_cons (j_v) (ja_nil))))))
        (js_one (s_setV C (j_call C f__law_behind (ja_cons (j_v) (ja_cons (j_max C M.b_max (ja_cons (j_v) (ja_cons (j_abs M.b_abs (ja_cons (j_ix C (j_v) (j_i)) (ja_nil))) (ja_nil)))) (ja_nil)))))))
      (js_one (s_ret (j_v))))
abbrev n__law_good : List Str := ["_law_form", "_law_found", "_law_far", "_law_k"]
theorem sc__law_good : FnScope n__law_good ["_law_form", "_law_found"] (defScope s__law_good) := ⟨rfl, rfl, rfl, by decide +kernel, rfl, by decide +kernel, by decide +kernel⟩
theorem ok__law_good {P : Program} {w : World} {G : Gx} {mg : Str → Option Value} {base : Heap} (M : Mg G mg) (f__law_root : Fn1 P w G mg base 1 "_law_root" DL.Lw.w_law_root) (f__law_bar : Fn1 P w G mg base 1 "_law_bar" DL.Lw.w_law_bar) (f__law_eased : Fn1 P w G mg base 3 "_law_eased" DL.Lw.w_law_eased) (f__law_wholes : Fn1 P w G mg base 2 "_law_wholes" DL.Lw.w_law_wholes) (f__law_behind : Fn1 P w G mg base 2 "_law_behind" DL.Lw.w_law_behind) (A : DefAt G mg "_law_good" s__law_good) : Fn1 P w G mg base 4 "_law_good" DL.Lw.w_law_good :=
  fn1_mk (k := 3) A sc__law_good rfl rfl (by decide) (fun _ _ _ _ _ _ us hl => match us, hl with | [_, _], _ => rfl) (fun f cdv A outer s H E hr => by
  have C := cxt_def (P := P) (w := w) (G := G) (mg := mg) (base := base) (N := n__law_good) (x := "_law_good") (sc := defScope s__law_good) (f := f) (cdv := cdv) (A := A) (outer := outer) (s := s) (H := H) (E := E) sc__law_good.nd hr
  unfold DL.Lw.t_law_good
  exact js_cons (s_setV C (j_call C f__law_root (ja_cons (j_call C f__law_bar (ja_cons (j_v) (ja_nil))) (ja_nil))))
      (js_cons (s_if (jt_w (jw_or (jt_not (jt_any (j_isi C isi_list M.b_isinstance M.b_list bt_list (j_v)))) (jw_or (jt_eq C (j_len C M.b_len (ja_cons (j_v) (ja_nil))) (j_i)) (jw_or1 (jt_notin C (j_call C f__law_eased (ja_cons (j_v) (ja_cons (j_v) (ja_nil)))) (j_v))))))
        (js_one (s_ret (j_b)))
        (js_nil))
      (js_cons (s_forR C (jr_1 M.b_range (ja_cons (j_len C M.b_len (ja_cons (j_v) (ja_nil))) (ja_nil)))
        (js_cons (s_if (jt_w (jw_or (jt_not (jt_any (j_call C f__law_wholes (ja_cons (j_ix C (j_v) (j_v)) (ja_cons (j_i) (ja_nil)))))) (jw_or (jt_ltT C (j_ix C (j_v) (j_v)) (j_ix C (j_v) (j_i))) (jw_or1 (jt_w (jw_and (jt_gt (j_v) (j_i)) (jw_and1 (jt_eq C (j_ix C (j_v) (j_v)) (j_ix C (j_v) (j_i))))))))))
        (js_one (s_ret (j_b)))
        (js_nil))
      (js_one (s_if (jt_ne C (j_ix C (j_v) (j_mod (j_add C (j_v) (j_i)) (j_len C M.b_len (ja_cons (j_v) (ja_nil))))) (j_call C f__law_behind (ja_cons (j_ix C (j_v) (j_v)) (ja_cons (j_v) (ja_nil)))))
        (js_one (s_ret (j_b)))
        (js_nil)))))
      (js_one (s_ret (j_eq C (j_lenSetT C M.b_len M.b_set (ja_cons (j_v) (ja_nil))) (j_len C M.b_len (ja_cons (j_v) (ja_nil)))))))))
abbrev n_law : List Str := ["_law_script", "_law_one", "_law_other", "_law_found", "_law_kept", "_law_beside"]
theorem sc_law : FnScope n_law ["_law_script"] (defScope s_law) := ⟨rfl, rfl, rfl, by decide +kernel, rfl, by decide +kernel, by decide +kernel⟩
theorem ok_law {P : Program} {w : World} {G : Gx} {mg : Str → Option Value} {base : Heap} (M : Mg G mg) (f__law_saddle : Fn1 P w G mg base 1 "_law_saddle" DL.Lw.w_law_saddle) (f__law_cell : Fn1 P w G mg base 1 "_law_cell" DL.Lw.w_law_cell) (f__law_flat : Fn1 P w G mg base 2 "_law_flat" DL.Lw.w_law_flat) (f_round_of : Fn1 P w G mg base 7 "round_of" DL.Pg.w_round_of) (f__law_good : Fn1 P w G mg base 4 "_law_good" DL.Lw.w_law_good) {a : Addr} {fd : FuncData} (F : FunD G.K "law" "law" (defArgs s_law) (defBody s_law) (defScope s_law) [] [] a fd) : FnOk P w G.K mg base (L2.CX P w) 8 a fd ["_law_script"] (spD G DL.Lw.w_law) :=
  fnOk_mk (k := 7) F sc_law rfl rfl (by decide) (fun f cdv A outer s H E hr => by
  have C := cxt_def (P := P) (w := w) (G := G) (mg := mg) (base := base) (N := n_law) (x := "law") (sc := defScope s_law) (f := f) (cdv := cdv) (A := A) (outer := outer) (s := s) (H := H) (E := E) sc_law.nd hr
  unfold DL.Lw.t_law
  exact js_cons (s_setV C (j_call C f__law_saddle (ja_cons (j_call C f__law_cell (ja_cons (j_v) (ja_cons (j_i) (ja_nil)))) (ja_cons (j_call C f__law_cell (ja_cons (j_v) (ja_cons (j_i) (ja_nil)))) (ja_cons (j_call C f__law_cell (ja_cons (j_v) (ja_cons (j_i) (ja_nil)))) (ja_nil))))))
      (js_cons (s_setV C (j_call C f__law_saddle (ja_cons (j_call C f__law_cell (ja_cons (j_v) (ja_cons (j_i) (ja_nil)))) (ja_cons (j_call C f__law_cell (ja_cons (j_v) (ja_cons (j_i) (ja_nil)))) (ja_cons (j_call C f__law_cell (ja_cons (j_v) (ja_cons (j_i) (ja_nil)))) (ja_nil))))))
      (js_cons (s_if (jt_any (j_call C f__law_flat (ja_cons (j_v) (ja_nil))))
        (js_one (s_setV C (j_tup (ja_cons (j_i) (ja_cons (j_i) (ja_cons (j_neg (j_i)) (ja_nil)))))))
        (js_nil))
      (js_cons (s_if (jt_any (j_call C f__law_flat (ja_cons (j_v) (ja_nil))))
        (js_one (s_setV C (j_tup (ja_cons (j_i) (ja_cons (j_i) (ja_cons (j_neg (j_i)) (ja_nil)))))))
        (js_nil))
      (js_weak (fun _ _ _ _ _ _ h => h.go) (js_cons (s_set C (j_call C f_round_of (ja_cons (j_v) (ja_nil))))
      (js_cons (s_if (jt_view (jt_not (jt_any (j_call C f__law_good (ja_cons (j_v) (ja_cons (j_v) (ja_nil)))))))
        (js_one (s_ret (j_b)))
        (js_nil))
      (js_cons (s_setV C (j_view (j_list C M.b_list (ja_cons (j_v) (ja_nil)))))
      (js_cons (s_setV C (j_call C f_round_of (ja_cons (j_v) (ja_nil))))
      (js_cons (s_if (jt_view (jt_w (jw_or (jt_not (jt_any (j_call C f__law_good (ja_cons (j_v) (ja_cons (j_v) (ja_nil)))))) (jw_or1 (jt_ne C (j_v) (j_v))))))
        (js_one (s_ret (j_b)))
        (js_nil))
      (js_cons (s_app C (j_tup (ja_cons (j_i) (ja_cons (j_i) (ja_cons (j_i) (ja_nil))))))
      (js_one (s_ret (j_and (j_eq C (j_call C f_round_of (ja_cons (j_v) (ja_nil))) (j_v)) (j_one (j_call C f__law_good (ja_cons (j_v) (ja_cons (j_v) (ja_nil)))))))))))))))))))
theorem facts {P : Program} {w : World} {K : PySem.W.Frag} {h : Heap} {mg : Str → Option Value} {f : Addr} (X : K.In h) (N : h.Ns mainGlobals mg) (hfa : mg ("law" : Str) = some (.ref f)) (c : He.SaysD fas fns K) (ck : chk K = true) :
    ∃ (fd : FuncData) (G : Gx), G.K = K ∧ (∀ (s : Shared) (v : Value), BindsTo s fd ⟨[v], []⟩ [("_law_script", v)]) ∧ ∀ base : Heap, K.In base → base.Ns mainGlobals mg → FnOk P w K mg base (L2.CX P w) 8 f fd ["_law_script"] (spD G DL.Lw.w_law) := by
  let G : Gx := ⟨K, fun _ => 0, fun _ => []⟩
  obtain ⟨fd, F⟩ := c.def_ 27 rfl
  have e := hfa.symm.trans (He.glo_ok X N (c.fact 27 (f := .glo "law") rfl))
  cases e
  have b := FunD.bindsA (ps := ["_law_script"]) F fun _ _ _ _ _ _ us hl => match us, hl with | [_], _ => rfl
  have ck2 : ((decide (PySem.W.nsIn K mainGlobals "SAME" = some (some (.ref (He.ga K "SAME")))) && He.tupB K "SAME" [.int 1, .int 0, .int 0, .int 1])) = true := ck
  simp only [Bool.and_eq_true, decide_eq_true_eq] at ck2
  obtain ⟨g0, v0⟩ := ck2
  have M : Mg G mg := ⟨He.free_ok X N (c.fact 28 (f := .free "abs") rfl), He.free_ok X N (c.fact 29 (f := .free "bool") rfl), He.free_ok X N (c.fact 30 (f := .free "int") rfl), He.free_ok X N (c.fact 31 (f := .free "isinstance") rfl), He.free_ok X N (c.fact 32 (f := .free "len") rfl), He.free_ok X N (c.fact 33 (f := .free "list") rfl), He.free_ok X N (c.fact 34 (f := .free "max") rfl), He.free_ok X N (c.fact 35 (f := .free "min") rfl), He.free_ok X N (c.fact 36 (f := .free "range") rfl), He.free_ok X N (c.fact 37 (f := .free "set") rfl), He.free_ok X N (c.fact 38 (f := .free "tuple") rfl), He.int_ok X N (c.fact 39 (f := .int "MOST" 4000) rfl), ⟨_, PySem.W.mg_of X N g0, fun H => He.tupB_ok v0 H⟩⟩
  refine ⟨fd, G, rfl, fun s v => b s [v] rfl, fun base _ _ => ?_⟩
  have f_root : Fn1 P w G mg base 1 "root" DL.Pg.w_root := ok_root M  (defAt X N c 0 0 rfl rfl)
  have f_is_square : Fn1 P w G mg base 2 "is_square" DL.Pg.w_is_square := ok_is_square M f_root (defAt X N c 1 1 rfl rfl)
  have f_is_turn : Fn1 P w G mg base 1 "is_turn" DL.Pg.w_is_turn := ok_is_turn M  (defAt X N c 2 2 rfl rfl)
  have f_must_turn : Fn1 P w G mg base 2 "must_turn" DL.Pg.w_must_turn := ok_must_turn M f_is_turn (defAt X N c 3 3 rfl rfl)
  have f_put : Fn1 P w G mg base 1 "put" DL.Pg.w_put := ok_put M  (defAt X N c 4 4 rfl rfl)
  have f_then : Fn1 P w G mg base 3 "then" DL.Pg.w_then := ok_then M f_must_turn f_put (defAt X N c 5 5 rfl rfl)
  have f_measure : Fn1 P w G mg base 1 "measure" DL.Pg.w_measure := ok_measure M  (defAt X N c 6 6 rfl rfl)
  have f_value : Fn1 P w G mg base 1 "value" DL.Pg.w_value := ok_value M  (defAt X N c 7 7 rfl rfl)
  have f_moved : Fn1 P w G mg base 3 "moved" DL.Pg.w_moved := ok_moved M f_must_turn f_value (defAt X N c 8 8 rfl rfl)
  have f_shape : Fn1 P w G mg base 3 "shape" DL.Pg.w_shape := ok_shape M f_measure f_is_square (defAt X N c 9 9 rfl rfl)
  have f_must_saddle : Fn1 P w G mg base 4 "must_saddle" DL.Pg.w_must_saddle := ok_must_saddle M f_shape f_measure (defAt X N c 10 10 rfl rfl)
  have f_lies_level : Fn1 P w G mg base 1 "lies_level" DL.Pg.w_lies_level := ok_lies_level M  (defAt X N c 11 11 rfl rfl)
  have f_onward : Fn1 P w G mg base 1 "onward" DL.Pg.w_onward := ok_onward M  (defAt X N c 12 12 rfl rfl)
  have f_eased : Fn1 P w G mg base 5 "eased" DL.Pg.w_eased := ok_eased M f_must_saddle f_root f_measure f_lies_level f_onward f_moved f_then (defAt X N c 13 13 rfl rfl)
  have f_ways_round : Fn1 P w G mg base 6 "ways_round" DL.Pg.w_ways_round := ok_ways_round M f_eased f_root f_measure f_onward f_moved f_then (defAt X N c 14 14 rfl rfl)
  have f_round_of : Fn1 P w G mg base 7 "round_of" DL.Pg.w_round_of := ok_round_of M f_ways_round (defAt X N c 15 15 rfl rfl)
  have f__law_cell : Fn1 P w G mg base 1 "_law_cell" DL.Lw.w_law_cell := ok__law_cell M  (defAt X N c 16 16 rfl rfl)
  have f__law_whole : Fn1 P w G mg base 1 "_law_whole" DL.Lw.w_law_whole := ok__law_whole M  (defAt X N c 17 17 rfl rfl)
  have f__law_wholes : Fn1 P w G mg base 2 "_law_wholes" DL.Lw.w_law_wholes := ok__law_wholes M f__law_whole (defAt X N c 18 18 rfl rfl)
  have f__law_bar : Fn1 P w G mg base 1 "_law_bar" DL.Lw.w_law_bar := ok__law_bar M  (defAt X N c 19 19 rfl rfl)
  have f__law_root : Fn1 P w G mg base 1 "_law_root" DL.Lw.w_law_root := ok__law_root M  (defAt X N c 20 20 rfl rfl)
  have f__law_flat : Fn1 P w G mg base 2 "_law_flat" DL.Lw.w_law_flat := ok__law_flat M f__law_bar f__law_root (defAt X N c 21 21 rfl rfl)
  have f__law_level : Fn1 P w G mg base 1 "_law_level" DL.Lw.w_law_level := ok__law_level M  (defAt X N c 22 22 rfl rfl)
  have f__law_behind : Fn1 P w G mg base 2 "_law_behind" DL.Lw.w_law_behind := ok__law_behind M f__law_bar (defAt X N c 23 23 rfl rfl)
  have f__law_saddle : Fn1 P w G mg base 1 "_law_saddle" DL.Lw.w_law_saddle := ok__law_saddle M  (defAt X N c 24 24 rfl rfl)
  have f__law_eased : Fn1 P w G mg base 3 "_law_eased" DL.Lw.w_law_eased := ok__law_eased M f__law_level f__law_behind (defAt X N c 25 25 rfl rfl)
  have f__law_good : Fn1 P w G mg base 4 "_law_good" DL.Lw.w_law_good := ok__law_good M f__law_root f__law_bar f__law_eased f__law_wholes f__law_behind (defAt X N c 26 26 rfl rfl)
  exact ok_law M f__law_saddle f__law_cell f__law_flat f_round_of f__law_good F
end Wk
open PySem PySem.W PySem.Calls PyProof.Rows
set_option maxRecDepth 100000 in
set_option maxHeartbeats 0 in
theorem PySem.Challenge.cw_formcycle_k24_rings_holds : PySem.Challenge.rw_formcycle_k24_rings.Holds := by
  w_on; o_law
  refine HandSHeadRun.head_any (r := OpenLaw.row PySem.Challenge.rw_formcycle_k24_rings) (q := view (OpenLaw.row PySem.Challenge.rw_formcycle_k24_rings).prog [40]) (H := Wk.hk) (ob := Wk.ob) (M := 4000) (loose := Wk.loose) (d := HandSHeadRun.topDef (OpenLaw.row PySem.Challenge.rw_formcycle_k24_rings).prog 40) (kwd := []) Wk.ob_eq
    (by kernel_rfl) (fun s => by kernel_rfl) Wk.run (by kernel_rfl) (by kernel_rfl) (by kernel_rfl) (by rfl) (by first | assumption | decide +kernel) (by decide +kernel) ⟨rfl, rfl, rfl, rfl, rfl, by decide +kernel⟩ ?hw ?hc
  case hw => w_witness2
  case hc =>
    refine DL.walk_ofX (l := PySem.Challenge.rw_formcycle_k24_rings) (n := 63) (k := 8) (x := "_law_script") (CX := fun w => L2.CX (PySem.Challenge.rw_formcycle_k24_rings).prog w) rfl (by decide) (by kernel_rfl) ⟨rfl, by decide, by decide⟩ ?F (fun _ _ _ _ _ z => DL.cx_none z)
    intro w mg fa h Y N hmg0
    obtain ⟨K, KX, c, ck⟩ := Y
    have hmg : mg ("law" : PySem.Str) = some (.ref fa) := by
      have e : (HandSHeadRun.topDef (OpenLaw.row PySem.Challenge.rw_formcycle_k24_rings).prog 40).name = ("law" : PySem.Str) := by kernel_rfl
      rw [← e]
      exact hmg0
    obtain ⟨fd, G, eG, hb, hF⟩ := Wk.facts (P := (PySem.Challenge.rw_formcycle_k24_rings).prog) (w := w) KX N hmg c ck
    refine ⟨K, fd, _, KX, hb, fun H a ns hl hB hS => ?_, hF⟩
    exact DL.law_sp (DL.Lw.law_true ns hl) (by rw [eG]; exact hS)
