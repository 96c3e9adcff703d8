/- An interpreter of the model's code that the kernel can run, and the proof that what it answers the model answers, part 1 of 5. No condition. -/
import GoSem.Core.Program
import GoSem.Core.Region
import GoSem.Op.IntArith
import GoSem.Op.String
import Derived.Orders
import Derived.Below
import Derived.ProofKit
import Derived.WideLaws
import Derived.ChangeKeysEq
set_option linter.unusedVariables false
set_option linter.unusedSectionVars false
set_option linter.unusedSimpArgs false
set_option linter.unnecessarySimpa false
/- The abstract interpreter: closed values, values with references, state, operations, code. It runs the model's own code (Go.Code) deterministically; the soundness text shows that what it answers the model answers on every tape. -/
namespace Go.Ev
open Go

/-- Closed values: immutable, by value. -/
inductive CV where
  | int (k : IntKind) (n : Int)
  | bool (b : Bool)
  | str (s : ByteArray)
  | nilp | nils | nilf | nili | nilm
  /-- a pointer to cell o of an immutable variable that holds x (a: a struct) -/
  | ep (a : Bool) (x : CV) (o : Nat)
  /-- a slice, its elements by value; im [] may be nil -/
  | im (xs : List CV)
  /-- a slice that is not nil, of no elements -/
  | em
  /-- a slice without room behind its elements -/
  | ic (xs : List CV)
  /-- a slice of so many elements, of which nothing is known -/
  | ln (n : Nat)
  | fn (f : Fn) (first capt : List CV)
  | ifc (t : Nat) (x : CV)
  | ag (cs : List CV)
  | tp (xs : List CV)
  | mp (ks vs : List CV)
  deriving Inhabited

/-- Values with references. -/
inductive AV where
  | c (x : CV)
  /-- the nil slice -/
  | nl
  /-- nothing: of an operation that did not run -/
  | un
  /-- the own list n, whole -/
  | sl (n : Nat)
  /-- a pointer to cell o of element i of the own list (array) n -/
  | le (n i o : Nat)
  /-- a pointer to the own variable b's cell o; to an own array -/
  | pt (b o : Nat)
  /-- a pointer to cell o of the outer variable id -/
  | po (id o : Nat)
  /-- the list that the outer variable's cell holds, as long as no outer variable has been written since -/
  | lo (id o gen : Nat)
  /-- a list, in an outer variable's cell alone -/
  | hl (m : Nat) (xs : List CV)
  /-- the outer list id, whole -/
  | ol (id : Nat)
  /-- a pointer to cell o of element i of the outer list id -/
  | oe (id i o : Nat)
  /-- the outer list id, from its element k on -/
  | ov (id k : Nat)
  /-- the outer map id -/
  | om (id : Nat)
  | ag (cs : List AV)
  | fn (f : Fn) (first capt : List AV)
  | ifc (t : Nat) (x : AV)
  | tp (xs : List AV)
  | mp (ks : List CV) (vs : List AV)
  /-- a pointer to cell o of an immutable variable that holds x (a: a struct) -/
  | ep (a : Bool) (x : AV) (o : Nat)
  deriving Inhabited

/-- What there is in memory under a name. -/
inductive Blk where
  /-- a variable, by cells -/
  | box (agg : Bool) (cs : List AV)
  /-- it is not written any more -/
  | frz (agg : Bool) (cs : List AV)
  /-- a list (an array) of closed elements of m cells each, whose memory nobody else sees -/
  | lst (m : Nat) (xs : List CV)
  /-- it is not written any more -/
  | fls (xs : List CV)
  /-- an outer list whose elements are not written any more; it may be appended to -/
  | lsp (m : Nat) (xs : List CV)
  /-- a list of such lists, of elements of m cells; number k of it may have a name -/
  | nst (m : Nat) (xs : List CV) (out : Option (Nat × Nat))
  /-- a list of references, one cell each -/
  | rls (xs : List AV)
  /-- a map -/
  | map (ks : List CV) (vs : List AV)
  /-- the way through a string: where it is -/
  | iter (s : ByteArray) (pos : Nat)
  /-- it has become an outer one -/
  | moved (id : Nat)
  /-- a list: it has become an outer one -/
  | movedL (id : Nat)
  | dead
  deriving Inhabited

structure S where
  env : Nat → Option AV
  own : Nat → Option Blk
  gen : Nat

abbrev O := List Blk
def O.get (o : O) (id : Nat) : Option Blk := cond (Nat.blt id o.length) (o[o.length - 1 - id]?) none
def O.put (o : O) (id : Nat) (b : Blk) : O := cond (Nat.blt id o.length) (List.set o (o.length - 1 - id) b) o
def O.cut (o : O) (n : Nat) : O := List.drop (o.length - n) o

def upd {α : Type} (f : Nat → Option α) (t : Nat) (x : α) : Nat → Option α := fun u => cond (Nat.beq u t) (some x) (f u)
def S.put (s : S) (t : Nat) (v : AV) : S := ⟨upd s.env t v, s.own, s.gen⟩
def S.blk (s : S) (b : Nat) (x : Blk) : S := ⟨s.env, upd s.own b x, s.gen⟩
def S.putO (s : S) (t : Option Nat) (v : AV) : S := match t with | some t => s.put t v | none => s
def S.tick (s : S) : S := ⟨s.env, s.own, s.gen + 1⟩

/-! ### Types -/
inductive TD where
  | int (k : IntKind) | bool | str | ptr | fn | ifc
  | map (k e : Nat)
  | slice (e : Nat)
  /-- fields: place of the first cell, type -/
  | struct (fs : List (Nat × Nat))
  | array (n e : Nat)
  | other
structure TI where
  size : Nat
  bytes : Nat
  td : TD
  zero : Option CV
  /-- of a pointer: what it leads to -/
  el : Option Nat
  /-- a method's function; does it take the pointer? -/
  meth : String → Option (Nat × Bool)
def TI.agg (t : TI) : Bool := match t.td with | .struct _ => true | .array _ _ => true | _ => false

/-! ### Strings: as lists of bytes -/
def cutS (t : ByteArray) (l h : Nat) : ByteArray := ⟨⟨(t.data.toList.drop l).take (h - l)⟩⟩
def catS (x y : ByteArray) : ByteArray := ⟨⟨x.data.toList ++ y.data.toList⟩⟩
theorem cutS_eq (t : ByteArray) (l h : Nat) : cutS t l h = t.extract l h := by
  have h1 : (t.extract l h).data = t.data.extract l h := by simp
  have h2 : (t.data.extract l h).toList = (t.data.toList.drop l).take (h - l) := by simp
  have : t.extract l h = ⟨t.data.extract l h⟩ := by rw [← h1]
  unfold cutS
  rw [this]
  congr 1
  rw [← h2]
theorem catS_eq (x y : ByteArray) : catS x y = x ++ y := by
  have h1 : (x ++ y).data = x.data ++ y.data := by simp
  have : x ++ y = ⟨x.data ++ y.data⟩ := by rw [← h1]
  unfold catS
  rw [this]
  congr 1
theorem bytes_get (b : ByteArray) (i : Nat) (h : i < b.size) : b.get! i = b.data.toList[i]'(by simpa using h) := by
  have : b.get! i = b.data[i]! := rfl
  rw [this]
  have h' : i < b.data.size := h
  rw [getElem!_pos b.data i h']
  simp
theorem bytes_loop (b : ByteArray) : ∀ (k i : Nat) (r : List UInt8), b.size - i = k → ByteArray.toList.loop b i r = r.reverse ++ b.data.toList.drop i
  | 0, i, r, h => by
    unfold ByteArray.toList.loop
    have h1 : ¬ i < b.size := by omega
    rw [if_neg h1]
    have : b.data.toList.drop i = [] := List.drop_eq_nil_of_le (by
      have : b.data.toList.length = b.size := by simp
      omega)
    rw [this, List.append_nil]
  | k + 1, i, r, h => by
    unfold ByteArray.toList.loop
    have h1 : i < b.size := by omega
    rw [if_pos h1, bytes_loop b k (i + 1) _ (by omega), bytes_get b i h1, List.reverse_cons, List.append_assoc]
    congr 1
    have hl : i < b.data.toList.length := by
      have : b.data.toList.length = b.size := by simp
      omega
    rw [List.drop_eq_getElem_cons hl]
    rfl
theorem bytesL_eq (b : ByteArray) : b.toList = b.data.toList := by
  unfold ByteArray.toList
  rw [bytes_loop b _ 0 [] rfl]
  simp
/-! ### Looks at closed values: they stand still on an unknown value -/
def CV.cells : CV → List CV
  | .ag cs => cs
  | x => [x]
def g (xs : List CV) (i : Nat) : CV := xs.getD i .nilp
section
variable {R : Type}
def ifb (t : Bool) (a b : Option R) : Option R := match t with | true => a | false => b
def chk (t : Bool) (K : Option R) : Option R := match t with | true => K | false => none
def kbeq : IntKind → IntKind → Bool
  | .i8, .i8 | .i16, .i16 | .i32, .i32 | .i64, .i64 | .u8, .u8 | .u16, .u16 | .u32, .u32 | .u64, .u64 => true
  | _, _ => false
def CV.lst (x : CV) (K : List CV → Option R) : Option R := match x with | .im xs => K xs | .nils => K [] | .em => K [] | .ic xs => K xs | _ => none
/-- a slice's length -/
def CV.len (x : CV) (K : Nat → Option R) : Option R := match x with | .im xs => K xs.length | .nils => K 0 | .em => K 0 | .ic xs => K xs.length | .ln n => K n | _ => none
/-- it has m cells -/
def CV.isN (x : CV) (m : Nat) : Bool := match x with | .ag cs => Nat.beq cs.length m | .tp _ => false | _ => Nat.beq m 1
/-- it fills one cell -/
def CV.flat (x : CV) : Bool := match x with | .ag _ => false | .tp _ => false | _ => true
def allN (m : Nat) (xs : List CV) : Bool := xs.all fun x => x.isN m
def CV.open (x : CV) (n : Nat) (K : List CV → Option R) : Option R := match x with | .ag cs => chk (Nat.beq cs.length n) (K cs) | _ => none
/-- the scalar at cell o of a variable that holds x -/
def CV.ld (x : CV) (o : Nat) (K : CV → Option R) : Option R := match x with
  | .ag cs => (match cs[o]? with | some y => K y | none => none)
  | y => cond (Nat.beq o 0) (K y) none
/-- the n cells from o on, as a struct -/
def CV.subAg (x : CV) (o n : Nat) : CV := match x with
  | .ag cs => cond (Nat.beq o 0 && Nat.beq cs.length n) x (.ag ((cs.drop o).take n))
  | _ => x
def CV.ldAg (x : CV) (o n : Nat) (K : CV → Option R) : Option R := match x with
  | .ag cs => chk (Nat.ble (o + n) cs.length) (K (CV.subAg x o n))
  | _ => none
def CV.asB (x : CV) (K : Bool → Option R) : Option R := match x with | .bool t => K t | _ => none
def CV.ifB (x : CV) (a b : Option R) : Option R := match x with | .bool t => ifb t a b | _ => none
def CV.intOf (x : CV) (k : IntKind) (K : Int → Option R) : Option R := match x with | .int k' n => chk (kbeq k' k) (K n) | _ => none
def CV.anyInt (x : CV) (K : IntKind → Int → Option R) : Option R := match x with | .int k n => K k n | _ => none
def CV.asStr (x : CV) (K : ByteArray → Option R) : Option R := match x with | .str s => K s | _ => none
/-- is it nil? a slice, a pointer, a function, an interface's value -/
def CV.nilS (x : CV) (K : Bool → Option R) : Option R := match x with
  | .nils => K true
  | .em => K false
  | .im xs => (match xs with | [] => none | _ :: _ => K false)
  | _ => none
def CV.nilP (x : CV) (K : Bool → Option R) : Option R := match x with | .nilp => K true | .ep .. => K false | _ => none
def CV.nilF (x : CV) (K : Bool → Option R) : Option R := match x with | .nilf => K true | .fn .. => K false | _ => none
def CV.nilI (x : CV) (K : Bool → Option R) : Option R := match x with | .nili => K true | .ifc .. => K false | _ => none
/-- it may be gone through, called -/
def CV.okPtr (x : CV) (K : Option R) : Option R := match x with
  | .ep .. => K
  | .fn (.func _) _ _ => K
  | .ifc .. => K
  | _ => none
def CV.agOf (x : CV) (K : List CV → Option R) : Option R := match x with | .ag cs => K cs | _ => none
def CV.tpl (x : CV) (K : List CV → Option R) : Option R := match x with | .tp xs => K xs | _ => none
def CV.ifcOf (x : CV) (K : Nat → CV → Option R) : Option R := match x with | .ifc t y => K t y | _ => none
/-- element number i -/
def nth (xs : List CV) (i : Int) (K : CV → Option R) : Option R := match i with
  | .ofNat n => (match xs[n]? with | some x => K x | none => none)
  | .negSucc _ => none
def ixOf (i : Int) (n : Nat) (K : Nat → Option R) : Option R := match i with
  | .ofNat k => chk (Nat.blt k n) (K k)
  | .negSucc _ => none
/-- an Int that is a number from 0 to m -/
def upto (i : Int) (m : Nat) (K : Nat → Option R) : Option R := match i with
  | .ofNat n => chk (Nat.ble n m) (K n)
  | .negSucc _ => none
end
def bytesOf : List CV → Option (List UInt8)
  | [] => some []
  | .int .u8 n :: xs => match bytesOf xs with | some l => some (n.toNat.toUInt8 :: l) | none => none
  | _ => none
def ofBytes (s : ByteArray) : List CV := s.data.toList.map fun b => .int .u8 b.toNat
def maxLst : Nat := 2147483648
def maxStr : Nat := 1099511627776

/-! ### Closed, or not -/
def allC : List AV → Option (List CV)
  | [] => some []
  | .c x :: l => match allC l with | some xs => some (x :: xs) | none => none
  | .nl :: l => match allC l with | some xs => some (.im [] :: xs) | none => none
  | _ => none
def allCC : List AV → Option (List CV)
  | [] => some []
  | .c x :: l => match allCC l with | some xs => some (x :: xs) | none => none
  | _ => none
/-- of cells, a struct: nil slices are known to be so, till it is closed -/
def mkAg (l : List AV) : AV := match allCC l with | some xs => .c (.ag xs) | none => .ag l
def shut (v : AV) : AV := match v with
  | .nl => .c (.im [])
  | .ag l => (match allC l with | some xs => .c (.ag xs) | none => .ag l)
  | v => v
def mkVar (agg : Bool) (l : List AV) : AV := cond agg (shut (mkAg l)) (shut (l.headD (.c .nilp)))
/-- a zero value's cells -/
def zAV : CV → AV
  | .nils => .nl
  | x => .c x
def zCV : CV → CV
  | .nils => .im []
  | .ag cs => .ag (cs.map fun x => match x with | .nils => .im [] | y => y)
  | x => x
def zCells : CV → List AV
  | .ag cs => cs.map zAV
  | x => [zAV x]

/-! ### The oracle: calls of functions, and loops, one round less -/
inductive Ex where
  | normal | exit (id : Nat) | ret
  /-- a return out of a loop: the results -/
  | retv (rs : List AV)
/-- Of a slot, a cell: a value that may change; the list number k; what stays. -/
inductive Sh where
  | v | l (k : Nat) | fix (x : AV)
structure Tmpl where
  slots : List (Nat × Sh)
  boxes : List (Nat × Bool × List Sh)
  /-- lists: cells of an element; of lists? -/
  lists : List (Nat × Bool)
  /-- variables that have become outer ones -/
  stay : List (Nat × Nat)
inductive LR where
  | brk (ys : List CV) (o : O)
  | exi (id : Nat) (ys : List CV) (o : O)
  | ret (rs : List AV) (o : O)
structure Orc where
  clo : Nat → List CV → Option CV
  opn : Nat → List AV → O → Option (AV × O)
  loop : Nat → Code → Nat → Tmpl → List CV → O → Option LR

/-! ### Shapes of answers, for symbolic runs -/
inductive Sp where
  | any | int (k : IntKind) | bool | str | im
inductive Shp where
  | one (s : Sp) | tp (l : List Sp)
def intAt (x : CV) : Int := match x with | .int _ n => n | _ => 0
def boolAt (x : CV) : Bool := match x with | .bool b => b | _ => false
def strAt (x : CV) : ByteArray := match x with | .str s => s | _ => ⟨#[]⟩
def imAt (x : CV) : List CV := match x with | .im xs => xs | _ => []
def tplAt (x : CV) : List CV := match x with | .tp xs => xs | _ => []
def cvAt (x : AV) : CV := match x with | .c x => x | _ => .nilp
def conf1 (s : Sp) (x : CV) : Bool := match s with
  | .any => true
  | .int k => (match x with | .int k' _ => kbeq k k' | _ => false)
  | .bool => (match x with | .bool _ => true | _ => false)
  | .str => (match x with | .str _ => true | _ => false)
  | .im => (match x with | .im _ => true | _ => false)
def canon1 (s : Sp) (x : CV) : CV := match s with
  | .any => x
  | .int k => .int k (intAt x)
  | .bool => .bool (boolAt x)
  | .str => .str (strAt x)
  | .im => .im (imAt x)
def confL : List Sp → List CV → Bool
  | [], [] => true
  | s :: l, x :: xs => conf1 s x && confL l xs
  | _, _ => false
def canonL : List Sp → List CV → List CV
  | [], _ => []
  | s :: l, xs => canon1 s (g xs 0) :: canonL l xs.tail
def conf (s : Shp) (x : CV) : Bool := match s with
  | .one s => conf1 s x
  | .tp l => (match x with | .tp xs => confL l xs | _ => false)
def canon (s : Shp) (x : CV) : CV := match s with
  | .one s => canon1 s x
  | .tp l => .tp (canonL l (tplAt x))
def conf1A (s : Sp) (x : AV) : Bool := match x with | .c x => conf1 s x | _ => false
def confA : List Sp → List AV → Bool
  | [], [] => true
  | s :: l, x :: xs => conf1A s x && confA l xs
  | _, _ => false
def canonA : List Sp → List AV → List AV
  | [], _ => []
  | s :: l, xs => .c (canon1 s (cvAt (xs.headD .un))) :: canonA l xs.tail
theorem kbeqS {a b : IntKind} (h : kbeq a b = true) : a = b := by cases a <;> cases b <;> first | rfl | cases h
theorem chkS {R : Type} {t : Bool} {K : Option R} {r : R} (h : chk t K = some r) : t = true ∧ K = some r := by
  cases t with
  | true => exact ⟨rfl, h⟩
  | false => cases h
theorem canon1_eq {s : Sp} {x : CV} (h : conf1 s x = true) : canon1 s x = x := by
  cases s with
  | any => rfl
  | int k =>
    cases x <;> first | (cases h; done) | skip
    rw [kbeqS h]; rfl
  | bool => cases x <;> first | rfl | cases h
  | str => cases x <;> first | rfl | cases h
  | im => cases x <;> first | rfl | cases h
theorem canonL_eq : ∀ {l : List Sp} {xs : List CV}, confL l xs = true → canonL l xs = xs
  | [], [], _ => rfl
  | [], _ :: _, h => by cases h
  | _ :: _, [], h => by cases h
  | s :: l, x :: xs, h => by
    have h : (conf1 s x && confL l xs) = true := h
    rw [Bool.and_eq_true] at h
    show canon1 s x :: canonL l xs = x :: xs
    rw [canon1_eq h.1, canonL_eq h.2]
theorem canon_eq {s : Shp} {x : CV} (h : conf s x = true) : canon s x = x := by
  cases s with
  | one s => exact canon1_eq h
  | tp l =>
    cases x <;> first | (cases h; done) | skip
    exact congrArg CV.tp (canonL_eq h)
theorem canonA_eq : ∀ {l : List Sp} {xs : List AV}, confA l xs = true → canonA l xs = xs
  | [], [], _ => rfl
  | [], _ :: _, h => by cases h
  | _ :: _, [], h => by cases h
  | s :: l, x :: xs, h => by
    have h : (conf1A s x && confA l xs) = true := h
    rw [Bool.and_eq_true] at h
    show .c (canon1 s (cvAt x)) :: canonA l xs = x :: xs
    rw [canonA_eq h.2]
    cases x <;> first | (cases h.1; done) | skip
    congr 1
    exact congrArg AV.c (canon1_eq h.1)
/-! shapes of outer blocks, of answers that lead to them -/
inductive Bsp where
  | lst (m : Nat) | hl (m : Nat) | dead | box (a : Bool) (l : List Sp)
inductive Asp where
  | c (s : Shp)
  /-- a struct of a list and of an outer list -/
  | imOl (id : Nat)
def lstAtB (b : Blk) : List CV := match b with | .lst _ xs => xs | _ => []
def hlAt (b : Blk) : List CV := match b with | .box _ cs => (match cs with | [.hl _ xs] => xs | _ => []) | _ => []
def boxAt (b : Blk) : List AV := match b with | .box _ cs => cs | _ => []
def confB : Bsp → Blk → Bool
  | .lst m, .lst m' _ => Nat.beq m m'
  | .hl m, .box false [.hl m' _] => Nat.beq m m'
  | .dead, .dead => true
  | .box true l, .box true cs => confA l cs
  | .box false l, .box false cs => confA l cs
  | _, _ => false
def canonB (s : Bsp) (b : Blk) : Blk := match s with
  | .lst m => .lst m (lstAtB b)
  | .hl m => .box false [.hl m (hlAt b)]
  | .dead => .dead
  | .box a l => .box a (canonA l (boxAt b))
def confO : List Bsp → O → Bool
  | [], [] => true
  | s :: l, b :: w => confB s b && confO l w
  | _, _ => false
def canonO : List Bsp → O → O
  | [], _ => []
  | s :: l, w => canonB s (w.headD .dead) :: canonO l w.tail
def iolAt (x : AV) : List CV := match x with | .ag cs => (match cs with | .c y :: _ => imAt y | _ => []) | _ => []
def confQ : Asp → AV → Bool
  | .c s, .c x => conf s x
  | .imOl n, .ag [.c (.im _), .ol m] => Nat.beq n m
  | _, _ => false
def canonQ (s : Asp) (x : AV) : AV := match s with
  | .c s => .c (canon s (cvAt x))
  | .imOl n => .ag [.c (.im (iolAt x)), .ol n]
theorem canonB_eq {s : Bsp} {b : Blk} (h : confB s b = true) : canonB s b = b := by
  unfold confB at h
  split at h
  · have := Nat.eq_of_beq_eq_true h; subst this; rfl
  · have := Nat.eq_of_beq_eq_true h; subst this; rfl
  · rfl
  · exact congrArg (Blk.box true) (canonA_eq h)
  · exact congrArg (Blk.box false) (canonA_eq h)
  · cases h
theorem canonO_eq : ∀ {l : List Bsp} {w : O}, confO l w = true → canonO l w = w
  | [], [], _ => rfl
  | [], _ :: _, h => by cases h
  | _ :: _, [], h => by cases h
  | s :: l, b :: w, h => by
    have h : (confB s b && confO l w) = true := h
    rw [Bool.and_eq_true] at h
    show canonB s b :: canonO l w = b :: w
    rw [canonB_eq h.1, canonO_eq h.2]
theorem canonQ_eq {s : Asp} {x : AV} (h : confQ s x = true) : canonQ s x = x := by
  unfold confQ at h
  split at h
  · exact congrArg AV.c (canon_eq h)
  · have := Nat.eq_of_beq_eq_true h; subst this; rfl
  · cases h
/-- What a place says of functions. -/
structure Cfg where
  fn : Nat → Option Func
  /-- a function of closed values that is taken by a contract of its own -/
  prm : Nat → Option (List CV → Option CV)
  ty : Nat → Option TI
  /-- a function that may write through pointers: which parameters are handed over live -/
  opn : Nat → Option (List Bool)
  /-- its results: which of their cells are handed back live -/
  res : Nat → List (List Bool)
  /-- its constant nil slices are told apart from empty ones -/
  nily : Nat → Bool
  /-- a list of no elements that it is handed is taken as nil, and as one that is not; it answers with no elements -/
  two : Nat → Bool
  /-- of a function's region: the temporaries that are used behind it -/
  join : Nat → Nat → Option (List Nat)
  /-- of its answer no more is known than numbers, strings, lengths: then what it is handed stays as it is -/
  blur : Nat → Bool
  /-- of a function's loop: slots (with: cells of an element, if it is appended to, written), own boxes (cells likewise), boxes that are written no more -/
  loop : Nat → Nat → Option (List (Nat × Nat) × List (Nat × List Nat) × List Nat)
  /-- for symbolic runs: the shape of a function's answers; of a loop's values, of results within it -/
  shp : Nat → Option Shp
  shl : Nat → Nat → Option (List Sp × List Sp × List Bsp)
  /-- of a function's answer, and of outer blocks behind it -/
  shq : Nat → Option (Asp × List Bsp)

/-- package-level variables that are never written: what they hold -/
class Glob where
  glob : Nat → Option (Bool × CV)
  /-- are strings, lists held whole? (where the kernel knows them all) -/
  force : Bool
variable [Glob]
def cvOf : Value → Option CV
  | .int k n => some (.int k n)
  | .bool b => some (.bool b)
  | .string s => some (.str s)
  | .pointer none => some .nilp
  | .slice none 0 0 => some .nils
  | .nilFunc => some .nilf
  | .nilIface => some .nili
  | .map none => some .nilm
  | _ => none
def cvsOf : List Value → Option (List CV)
  | [] => some []
  | v :: vs => match cvOf v with | some x => (match cvsOf vs with | some xs => some (x :: xs) | none => none) | none => none
/-! ### Programs of looks: what an operation reads and writes -/
/-- A look at closed values: it goes on with one answer, or stands still. -/
structure Look (β : Type) where
  f : {R : Type} → (β → Option R) → Option R
  nat : ∀ {R : Type} (K : β → Option R), f K = (f some).bind K
inductive Prog (α : Type) : Type 1 where
  | ret (x : α)
  | fail
  | look (β : Type) (l : Look β) (k : β → Prog α)
  | env (t : Nat) (k : AV → Prog α)
  | blk (b : Nat) (k : Option Blk → Prog α)
  | out (k : Nat → O → Prog α)
  | setE (t : Nat) (v : AV) (k : Prog α)
  | setB (b : Nat) (x : Blk) (k : Prog α)
  /-- is the own block a list, of what elements? -/
  | kind (b : Nat) (k : Option Nat → Prog α)
  /-- an own list's elements: it stays a list of such elements -/
  | setL (b : Nat) (xs : List CV) (k : Prog α)
  /-- the outer heap; what has been held of its lists is gone -/
  | setO (o : O) (k : Prog α)
  /-- an outer block -/
  | outB (id : Nat) (k : Option Blk → Prog α)
  /-- one that there is is written -/
  | setOB (id : Nat) (b : Blk) (k : Prog α)
inductive Loc where
  | slot (t : Nat) | blk (b : Nat) | kind (b : Nat) | out | outB (id : Nat)
def Loc.beq : Loc → Loc → Bool
  | .slot a, .slot b => Nat.beq a b
  | .blk a, .blk b => Nat.beq a b
  | .kind a, .kind b => Nat.beq a b
  | .out, .out => true
  | .outB a, .outB b => Nat.beq a b
  | _, _ => false
/-- the outer blocks, all of them -/
def outLs : Nat → List Loc
  | 0 => []
  | n + 1 => .outB n :: outLs n
/-- what has been read, written -/
structure Log where
  rd : List Loc
  wr : List Loc
def Log.r (l : Log) (x : Loc) : Log := ⟨x :: l.rd, l.wr⟩
def Log.w (l : Log) (x : Loc) : Log := ⟨l.rd, x :: l.wr⟩
def Log.rs (l : Log) (x : List Loc) : Log := ⟨x ++ l.rd, l.wr⟩
def Log.ws (l : Log) (x : List Loc) : Log := ⟨l.rd, x ++ l.wr⟩
def kindOf (k : Option Blk) : Option Nat := match k with | some (.lst m _) => some m | _ => none
def Prog.run {α R : Type} : Prog α → S → O → Log → (α → S → O → Log → Option R) → Option R
  | .ret x, s, w, l, K => K x s w l
  | .fail, _, _, _, _ => none
  | .look _ f k, s, w, l, K => f.f fun b => (k b).run s w l K
  | .env t k, s, w, l, K => match s.env t with | some v => (k v).run s w (l.r (.slot t)) K | none => none
  | .blk b k, s, w, l, K => (k (s.own b)).run s w (l.r (.blk b)) K
  | .out k, s, w, l, K => (k s.gen w).run s w ((l.r .out).rs (outLs w.length)) K
  | .setE t v k, s, w, l, K => k.run (s.put t v) w (l.w (.slot t)) K
  | .setB b x k, s, w, l, K => k.run (s.blk b x) w ((l.w (.blk b)).w (.kind b)) K
  | .kind b k, s, w, l, K => (k (kindOf (s.own b))).run s w (l.r (.kind b)) K
  | .setL b xs k, s, w, l, K => match kindOf (s.own b) with | some m => k.run (s.blk b (.lst m xs)) w ((l.r (.kind b)).w (.blk b)) K | none => none
  | .setO o k, s, w, l, K => k.run s.tick o ((l.w .out).ws (outLs (Nat.max w.length o.length))) K
  | .outB id k, s, w, l, K => (k (w.get id)).run s w (l.r (.outB id)) K
  | .setOB id b k, s, w, l, K => match w.get id with | some _ => k.run s (w.put id b) ((l.r (.outB id)).w (.outB id)) K | none => none
section
variable {α : Type}
/-! #### Looks -/
set_option linter.unusedVariables false
def lChk (t : Bool) : Look Unit := ⟨fun K => chk t (K ()), fun K => by cases t <;> rfl⟩
def lIfb (t : Bool) : Look Bool := ⟨fun K => ifb t (K true) (K false), fun K => by cases t <;> rfl⟩
def lOpt {β : Type} (x : Option β) : Look β := ⟨fun K => match x with | some y => K y | none => none, fun K => by cases x <;> rfl⟩
def lLst (x : CV) : Look (List CV) := ⟨x.lst, fun K => by cases x <;> rfl⟩
def lLen (x : CV) : Look Nat := ⟨x.len, fun K => by cases x <;> rfl⟩
def lOpen (x : CV) (n : Nat) : Look (List CV) := ⟨x.open n, fun K => by cases x <;> first | rfl | (simp only [CV.open]; cases Nat.beq _ n <;> rfl)⟩
def lLd (x : CV) (o : Nat) : Look CV := ⟨x.ld o, fun K => by cases x <;> simp only [CV.ld] <;> first | (split <;> rfl) | (cases Nat.beq o 0 <;> rfl)⟩
def lLdAg (x : CV) (o n : Nat) : Look CV := ⟨x.ldAg o n, fun K => by cases x <;> first | rfl | (simp only [CV.ldAg]; cases Nat.ble (o + n) _ <;> rfl)⟩
def lB (x : CV) : Look Bool := ⟨x.asB, fun K => by cases x <;> rfl⟩
def lInt (x : CV) (k : IntKind) : Look Int := ⟨x.intOf k, fun K => by cases x <;> first | rfl | (simp only [CV.intOf]; cases kbeq _ k <;> rfl)⟩
def lAny (x : CV) : Look (IntKind × Int) := ⟨fun K => x.anyInt fun k n => K (k, n), fun K => by cases x <;> rfl⟩
def lStr (x : CV) : Look ByteArray := ⟨x.asStr, fun K => by cases x <;> rfl⟩
def lNilS (x : CV) : Look Bool := ⟨x.nilS, fun K => by cases x <;> first | rfl | (rename_i xs; cases xs <;> rfl)⟩
def lNilP (x : CV) : Look Bool := ⟨x.nilP, fun K => by cases x <;> rfl⟩
def lNilF (x : CV) : Look Bool := ⟨x.nilF, fun K => by cases x <;> rfl⟩
def lNilI (x : CV) : Look Bool := ⟨x.nilI, fun K => by cases x <;> rfl⟩
def lOk (x : CV) : Look Unit := ⟨fun K => x.okPtr (K ()), fun K => by cases x <;> first | rfl | (rename_i f _ _; cases f <;> rfl)⟩
def lNth (xs : List CV) (i : Int) : Look CV := ⟨nth xs i, fun K => by cases i <;> simp only [nth] <;> first | rfl | (split <;> rfl)⟩
def lUpto (i : Int) (m : Nat) : Look Nat := ⟨upto i m, fun K => by cases i <;> simp only [upto] <;> first | rfl | (cases Nat.ble _ m <;> rfl)⟩
def lIx (i : Int) (n : Nat) : Look Nat := ⟨ixOf i n, fun K => by cases i <;> simp only [ixOf] <;> first | rfl | (cases Nat.blt _ n <;> rfl)⟩
/-- a list, element by element: the kernel holds it whole from here on -/
def forceL {β R : Type} : List β → (List β → Option R) → Option R
  | [], K => K []
  | a :: l, K => forceL l fun r => K (a :: r)
theorem forceL_eq {β R : Type} : ∀ (l : List β) (K : List β → Option R), forceL l K = K l
  | [], _ => rfl
  | a :: l, K => forceL_eq l fun r => K (a :: r)
def lForce (s : ByteArray) : Look ByteArray := ⟨fun K => cond Glob.force (forceL s.data.toList fun l => K ⟨⟨l⟩⟩) (K s), fun K => by cases Glob.force <;> simp only [cond_true, cond_false, forceL_eq] <;> rfl⟩
def lForceA {β : Type} (l : List β) : Look (List β) := ⟨fun K => cond Glob.force (forceL l K) (K l), fun K => by cases Glob.force <;> simp only [cond_true, cond_false, forceL_eq] <;> rfl⟩
/-- is it empty? -/
def lEmp (xs : List CV) : Look Bool := ⟨fun K => match xs with | [] => K true | _ :: _ => K false, fun K => by cases xs <;> rfl⟩
def lAg (x : CV) : Look (List CV) := ⟨x.agOf, fun K => by cases x <;> rfl⟩
def lTp (x : CV) : Look (List CV) := ⟨x.tpl, fun K => by cases x <;> rfl⟩
def lIfc (x : CV) : Look (Nat × CV) := ⟨fun K => x.ifcOf fun t y => K (t, y), fun K => by cases x <;> rfl⟩
def lShp (o : Option Shp) (x : CV) : Look CV := ⟨fun K => match o with | none => K x | some s => chk (conf s x) (K (canon s x)), fun K => by
  cases o with
  | none => rfl
  | some s => cases hc : conf s x <;> simp only [hc] <;> rfl⟩
def lShq (o : Option (Asp × List Bsp)) (x : AV × O) : Look (AV × O) := ⟨fun K => match o with | none => K x | some s => chk (confQ s.1 x.1 && confO s.2 x.2) (K (canonQ s.1 x.1, canonO s.2 x.2)), fun K => by
  cases o with
  | none => rfl
  | some s => cases hc : (confQ s.1 x.1 && confO s.2 x.2) <;> simp only [hc] <;> rfl⟩
def pchk (t : Bool) (p : Prog α) : Prog α := .look _ (lChk t) fun _ => p
def popt {β : Type} (x : Option β) (k : β → Prog α) : Prog α := .look _ (lOpt x) k

/-! ### Operands -/
def constAV (nily : Bool) : Value → Option AV
  | .int k n => some (.c (.int k n))
  | .bool b => some (.c (.bool b))
  | .string s => some (.c (.str s))
  | .pointer none => some (.c .nilp)
  | .slice none 0 0 => some (cond nily (.c .nils) .nl)
  | .nilFunc => some (.c .nilf)
  | .nilIface => some (.c .nili)
  | .map none => some (.c .nilm)
  | .agg cs => (match cvsOf cs.toList with | some xs => some (mkAg (xs.map zAV)) | none => none)
  | _ => none
def rd (ny : Bool) (x : Operand) (K : AV → Prog α) : Prog α := match x with
  | .tmp t => .env t K
  | .const v => (match constAV ny v with | some v => K v | none => .fail)
  | .func f => K (.c (.fn (.func f) [] []))
  | .global g => (match Glob.glob g with | some p => K (.c (.ep p.1 p.2 0)) | none => .fail)
def AV.cv (v : AV) (K : CV → Prog α) : Prog α := match v with | .c x => K x | _ => .fail
def rdc (ny : Bool) (x : Operand) (K : CV → Prog α) : Prog α := rd ny x fun v => v.cv K
def rds (ny : Bool) : List Operand → (List AV → Prog α) → Prog α
  | [], K => K []
  | x :: xs, K => rd ny x fun v => rds ny xs fun vs => K (v :: vs)
def rdParts (ny : Bool) : List (Nat × Operand) → (List (Nat × AV) → Prog α) → Prog α
  | [], K => K []
  | (i, x) :: xs, K => rd ny x fun v => rdParts ny xs fun vs => K ((i, v) :: vs)
/-- a list of lists, whole -/
def nstAll (xs : List CV) (out : Option (Nat × Nat)) (K : List CV → Prog α) : Prog α := match out with
  | none => K xs
  | some (k, n) => .blk n fun b => match b with
    | some (.lst _ ys) => K (xs.set k (.im ys))
    | some (.fls ys) => K (xs.set k (.im ys))
    | _ => .fail
/-- the element that has a name of its own goes back to its place -/
def nstBack (xs : List CV) (out : Option (Nat × Nat)) (K : List CV → Prog α) : Prog α := match out with
  | none => K xs
  | some (k, n) => .blk n fun b => match b with
    | some (.lst _ ys) => .setB n .dead (K (xs.set k (.im ys)))
    | _ => .fail
/-- the elements of the own list n -/
def listOf (n : Nat) (K : List CV → Prog α) : Prog α := .blk n fun b => match b with
  | some (.lst _ xs) => K xs
  | some (.fls xs) => K xs
  | _ => .fail
/-- the list that an outer variable's cell holds, if nothing has been written since -/
def held (id o e : Nat) (K : O → Bool → List AV → Nat → List CV → Prog α) : Prog α := .out fun gen w => match Nat.beq e gen with
  | true => (match w.get id with
    | some (.box a cs) => (match cs[o]? with
      | some (.hl m xs) => K w a cs m xs
      | _ => .fail)
    | _ => .fail)
  | false => .fail
/-- the elements of the outer list id -/
def listOut (id : Nat) (K : List CV → Prog α) : Prog α := .outB id fun q => match q with
  | some (.lst _ xs) => K xs
  | some (.lsp _ xs) => K xs
  | some (.fls xs) => K xs
  | _ => .fail
/-- a value that is only looked at -/
def AV.see (v : AV) (K : CV → Prog α) : Prog α := match v with
  | .c x => K x
  | .nl => K (.im [])
  | .sl n => listOf n fun xs => K (.im xs)
  | .ol id => listOut id fun xs => K (.im xs)
  | .lo id o e => held id o e fun _ _ _ _ xs => K (.im xs)
  | _ => .fail
def noLo : AV → Bool
  | .lo .. | .hl .. | .un => false
  | .ag l => l.all fun v => match v with | .lo .. | .hl .. | .un => false | _ => true
  | _ => true

/-! ### Freezing: what is handed to a call, put into other things -/
def each (f : AV → (AV → Prog α) → Prog α) : List AV → (List AV → Prog α) → Prog α
  | [], K => K []
  | v :: l, K => f v fun u => each f l fun us => K (u :: us)
def ofAll (l : List AV) (K : List CV → Prog α) (J : Prog α) : Prog α := match allCC l with | some xs => K xs | none => J
def frzOut (out : Option (Nat × Nat)) (p : Prog α) : Prog α := match out with
  | some (_, n) => .blk n fun b => (match b with | some (.lst _ ys) => .setB n (.fls ys) p | _ => p)
  | none => p
def mkEp (a : Bool) (vs : List AV) (o : Nat) : AV := match mkVar a vs with | .c x => .c (.ep a x o) | y => .ep a y o
def epOf (a : Bool) (y : AV) (o : Nat) : AV := match y with | .c z => .c (.ep a z o) | z => .ep a z o
def mkFn (f : Fn) (a b : List AV) : AV := match allCC a, allCC b with | some xs, some ys => .c (.fn f xs ys) | _, _ => .fn f a b
def mkIfc (t : Nat) (v : AV) : AV := match v with | .c y => .c (.ifc t y) | y => .ifc t y
def mkTp (l : List AV) : AV := match allCC l with | some xs => .c (.tp xs) | none => .tp l
def freeze : Nat → AV → (AV → Prog α) → Prog α
  | 0, _, _ => .fail
  | n + 1, v, K => match v with
    | .c x => K (.c x)
    | .nl => K (.c (.im []))
    | .un | .le .. | .hl .. | .mp .. | .oe .. | .om .. | .ov .. => .fail
    | .ol id => .out fun _ w => (match w.get id with
      | some (.lst m xs) => .setO (w.put id (.lsp m xs)) (K (.c (.im xs)))
      | some (.lsp _ xs) => K (.c (.im xs))
      | some (.fls xs) => K (.c (.im xs))
      | _ => .fail)
    | .sl b => .blk b fun k => (match k with
      | some (.lst _ xs) => .setB b (.fls xs) (K (.c (.im xs)))
      | some (.fls xs) => K (.c (.im xs))
      | some (.nst _ xs out) => nstAll xs out fun ys => frzOut out (.setB b (.fls ys) (K (.c (.im ys))))
      | _ => .fail)
    | .lo id o e => held id o e fun w a cs _ xs => .setO (w.put id (.box a (cs.set o (.c (.im xs))))) (K (.c (.im xs)))
    | .po id o => K (.po id o)
    | .pt b o => .blk b fun k => (match k with
      | some (.box a cs) => each (freeze n) cs fun vs => .blk b fun k => (match k with
        | some (.box _ _) => .setB b (.frz a vs) (K (mkEp a vs o))
        | _ => .fail)
      | some (.frz a cs) => K (mkEp a cs o)
      | some (.moved id) => K (.po id o)
      | _ => .fail)
    | .ag cs => each (freeze n) cs fun vs => K (mkAg vs)
    | .tp cs => each (freeze n) cs fun vs => K (mkTp vs)
    | .fn f a b => each (freeze n) a fun us => each (freeze n) b fun vs => K (mkFn f us vs)
    | .ifc t x => freeze n x fun y => K (mkIfc t y)
    | .ep a x o => (match a, x with
      | true, .ag _ => freeze n x fun y => K (epOf a y o)
      | false, _ => freeze n x fun y => K (epOf a y o)
      | _, _ => .fail)
/-- made closed -/
def frz (v : AV) (K : CV → Prog α) : Prog α := freeze 8 v fun u => u.cv K
/-- made closed, but for outer lists -/
def keep1 (v : AV) (K : AV → Prog α) : Prog α := match v with
  | .ol id => K (.ol id)
  | .om id => K (.om id)
  | v => freeze 8 v K
def keepO (v : AV) (K : AV → Prog α) : Prog α := match v with
  | .ag cs => each keep1 cs fun vs => K (mkAg vs)
  | v => keep1 v K
/-- the outer list id becomes an own one -/
def takeO (id d : Nat) (K : AV → Prog α) : Prog α := .outB id fun q => .blk d fun k => match q, k with
  | some (.lst m xs), none => .setB d (.lst m xs) (.setOB id .dead (K (.sl d)))
  | _, _ => .fail
def lstEl (x : CV) : List CV := match x with | .im xs => xs | _ => []
def olsFrom (n : Nat) : List CV → List AV
  | [] => []
  | _ :: l => .ol n :: olsFrom (n + 1) l
def pushEls (m : Nat) : List CV → O → O
  | [], w => w
  | x :: l, w => pushEls m l (.lst m (lstEl x) :: w)
/-- the own list e becomes an outer one; of a list of lists, each of its elements -/
def giveO (e : Nat) (K : AV → Prog α) : Prog α := .blk e fun k => match k with
  | some (.lst m xs) => .out fun _ w => .setB e .dead (.setO (.lst m xs :: w) (K (.ol w.length)))
  | some (.fls xs) => K (.c (.im xs))
  | some (.nst m xs none) => .out fun _ w => .setB e .dead (.setO (.rls (olsFrom w.length xs) :: pushEls m xs w) (K (.ol (w.length + xs.length))))
  | _ => .fail
/-- the own list e becomes an outer one, and may still be reached by its name -/
def giveM (e : Nat) (K : AV → Prog α) : Prog α := .blk e fun k => match k with
  | some (.lst m xs) => .out fun _ w => .setB e (.movedL w.length) (.setO (.lst m xs :: w) (K (.ol w.length)))
  | _ => giveO e K
def tname (d : Nat) : Nat := 4000000 + d

/-! ### Operations -/
def tyP (C : Cfg) (t : Nat) (K : TI → Prog α) : Prog α := match C.ty t with | some i => K i | none => .fail
/-- the cells of a struct's value -/
def AV.cellsN (v : AV) (n : Nat) (K : List AV → Prog α) : Prog α := match v with
  | .c x => .look _ (lOpen x n) fun cs => K ((List.range n).map fun j => .c (g cs j))
  | .ag l => pchk (Nat.beq l.length n) (K l)
  | _ => .fail
/-- a variable's cells, of a value that is put into it -/
def AV.flat (v : AV) : Bool := match v with | .c x => x.flat | .ag _ | .tp _ | .un | .lo .. | .hl .. => false | _ => true
def AV.cellsOf (v : AV) (i : TI) (K : List AV → Prog α) : Prog α := match i.agg with | true => v.cellsN i.size K | false => pchk (v.flat && Nat.beq i.size 1) (K [v])
def setAll (cs : List AV) (o : Nat) : List AV → List AV
  | [] => cs
  | v :: vs => setAll (cs.set o v) (o + 1) vs
def CV.setCell (x : CV) (o : Nat) (y : CV) : CV := match x with
  | .ag cs => .ag (cs.set o y)
  | _ => y
def setC (cs : List CV) (o : Nat) : List CV → List CV
  | [] => cs
  | v :: vs => setC (cs.set o v) (o + 1) vs
def ldCV (i : TI) (x : CV) (o : Nat) (K : AV → Prog α) : Prog α := match i.agg with
  | true => .look _ (lLdAg x o i.size) fun y => K (.c y)
  | false => .look _ (lLd x o) fun y => K (.c y)
def ldCells (i : TI) (cs : List AV) (o : Nat) (K : AV → Prog α) : Prog α := match i.agg with
  | true => pchk (Nat.ble (o + i.size) cs.length) (K (mkAg ((cs.drop o).take i.size)))
  | false => (match cs[o]? with | some v => K v | none => .fail)
/-- a part of a struct's, an array's value -/
def fldCV (i : TI) (x : CV) (o : Nat) (K : AV → Prog α) : Prog α := .look _ (lAg x) fun cs => match i.agg with
  | true => pchk (Nat.ble (o + i.size) cs.length) (K (.c (.ag ((cs.drop o).take i.size))))
  | false => popt cs[o]? fun y => K (.c y)
/-- a new list under the name of the operation's destination -/
def Blk.pos : Blk → Bool
  | .lst m _ => Nat.blt 0 m
  | .nst m _ _ => Nat.blt 0 m
  | _ => false
def newL (d : Option Nat) (b : Blk) (K : AV → Prog α) : Prog α := match d with
  | some d => .blk d fun k => (match k with
    | none => pchk b.pos (.setB d b (K (.sl d)))
    | some _ => .fail)
  | none => .fail
/-- a new variable under the name of the operation's destination -/
def newB (d : Option Nat) (b : Blk) (K : AV → Prog α) : Prog α := match d with
  | some d => .blk d fun k => (match k with
    | none => .setB d b (K (.pt d 0))
    | some _ => .fail)
  | none => .fail
def closeHl : AV → AV
  | .hl _ xs => .c (.im xs)
  | v => v
def isHl : AV → Bool
  | .hl _ _ => true
  | _ => false
def isUn : AV → Bool
  | .un => true
  | _ => false
/-- a load out of an outer variable -/
def ldOut (i : TI) (taken : Bool) (d : Option Nat) (id o : Nat) (K : AV → Prog α) : Prog α := .outB id fun q => match q with
  | some (.box a cs) => (match i.agg with
    | true => pchk (Nat.ble (o + i.size) cs.length && !(((cs.drop o).take i.size).any isUn)) (match ((cs.drop o).take i.size).any isHl with
      | true => .out fun _ w => .setO (w.put id (.box a (cs.map closeHl))) (K (mkAg (((cs.drop o).take i.size).map closeHl)))
      | false => K (mkAg ((cs.drop o).take i.size)))
    | false => (match cs[o]? with
      | some (.hl m xs) => (match taken with
        | true => .out fun _ w => .setO (w.put id (.box a (cs.set o .un))) (newL d (.lst m xs) K)
        | false => .out fun gen _ => K (.lo id o gen))
      | some .un => .fail
      | some v => K v
      | none => .fail))
  | _ => .fail
def evLoad (i : TI) (taken : Bool) (d : Option Nat) (v : AV) (K : AV → Prog α) : Prog α := match v with
  | .pt b o => .blk b fun k => (match k with
    | some (.box _ cs) => ldCells i cs o K
    | some (.frz _ cs) => ldCells i cs o K
    | some (.moved id) => ldOut i taken d id o K
    | _ => .fail)
  | .po id o => ldOut i taken d id o K
  | .le n k o => .blk n fun b => (match b with
    | some (.lst _ xs) => .look _ (lNth xs k) fun x => ldCV i x o K
    | some (.fls xs) => .look _ (lNth xs k) fun x => ldCV i x o K
    | some (.nst m xs out) => (match i.agg, o, d with
      | false, 0, some d' => nstBack xs out fun ys => .look _ (lNth ys k) fun x => .look _ (lLst x) fun zs => .setB n (.nst m ys (some (k, d'))) (newL d (.lst m zs) K)
      | _, _, _ => .fail)
    | _ => .fail)
  | .oe id k o => .outB id fun q => (match q with
    | some (.rls xs) => (match i.agg, o with
      | false, 0 => (match xs[k]? with | some v => K v | none => .fail)
      | _, _ => .fail)
    | _ => listOut id fun xs => .look _ (lNth xs k) fun x => ldCV i x o K)
  | .c x => (match x with
    | .ep a y o => (match a with
      | true => ldCV i y o K
      | false => (match i.agg, o with | false, 0 => K (.c y) | _, _ => .fail))
    | _ => .fail)
  | .ep true (.ag cs) o => ldCells i cs o K
  | .ep false v 0 => (match i.agg with | true => .fail | false => K v)
  | _ => .fail
def stOut (i : TI) (v : AV) (id o : Nat) (K : Prog α) : Prog α := match v with
  | .sl n => (match i.agg with
    | true => .fail
    | false => pchk (Nat.beq i.size 1) <| giveO n fun u => .out fun _ w => match w.get id with
      | some (.box t cs) => pchk (Nat.blt o cs.length) (.setO (w.put id (.box t (cs.set o u))) K)
      | _ => .fail)
  | v => keepO v fun u => .out fun _ w => match w.get id with
    | some (.box t cs) => u.cellsOf i fun vs => pchk (Nat.ble (o + vs.length) cs.length) (.setO (w.put id (.box t (setAll cs o vs))) K)
    | _ => .fail
/-- a store into an element of an outer list -/
def stOl (i : TI) (v : AV) (id k o : Nat) (K : Prog α) : Prog α := frz v fun y => .out fun _ w => match w.get id with
  | some (.lst m xs) => .look _ (lNth xs k) fun x => (match i.agg with
    | true => (match o with
      | 0 => pchk (Nat.beq i.size m && y.isN m) (.setO (w.put id (.lst m (xs.set k y))) K)
      | _ => .fail)
    | false => .look _ (lLd x o) fun _ => pchk (y.flat && Nat.beq i.size 1) (.setO (w.put id (.lst m (xs.set k (x.setCell o y)))) K))
  | _ => .fail
/-- a store into an element of an outer list of lists -/
def stRl (i : TI) (v : AV) (id k o : Nat) (K : Prog α) : Prog α := match i.agg, o, v with
  | false, 0, .sl n => pchk (Nat.beq i.size 1) (giveM n fun u => .outB id fun q => (match q with
    | some (.rls xs) => pchk (Nat.blt k xs.length) (.setOB id (.rls (xs.set k u)) K)
    | _ => .fail))
  | _, _, _ => .fail
/-- element k, a list, of the list n of lists becomes the own list e -/
def stNst (n m : Nat) (xs : List CV) (out : Option (Nat × Nat)) (k e : Nat) (K : Prog α) : Prog α := match out with
  | some (j, e') => (match Nat.beq e e' with
    | true => .fail
    | false => .blk e' fun b => (match b with
      | some (.lst _ ys) => .setB e' .dead (.setB n (.nst m (xs.set j (.im ys)) (some (k, e))) K)
      | some (.fls _) => .fail
      | _ => pchk (Nat.beq j k) (.setB n (.nst m xs (some (k, e))) K)))
  | none => .setB n (.nst m xs (some (k, e))) K
def evStore (i : TI) (a v : AV) (K : Prog α) : Prog α := match a with
  | .pt b o => .blk b fun k => (match k with
    | some (.box t cs) => pchk (noLo v) (v.cellsOf i fun vs => pchk (Nat.ble (o + vs.length) cs.length) (.setB b (.box t (setAll cs o vs)) K))
    | some (.moved id) => stOut i v id o K
    | _ => .fail)
  | .po id o => stOut i v id o K
  | .le n k o => .blk n fun b => (match b with
    | some (.lst _ _) => freeze 8 v fun u => u.cv fun y => .blk n fun b => (match b with
      | some (.lst m xs) => .look _ (lNth xs k) fun x => (match i.agg with
        | true => (match o with
          | 0 => pchk (Nat.beq i.size m && y.isN m) (.setL n (xs.set k y) K)
          | o + 1 => .look _ (lAg x) fun cs => pchk (Nat.ble (o + 1 + i.size) cs.length && y.isN i.size) (.setL n (xs.set k (.ag (setC cs (o + 1) y.cells))) K))
        | false => .look _ (lLd x o) fun _ => pchk (y.flat && Nat.beq i.size 1) (.setL n (xs.set k (x.setCell o y)) K))
      | _ => .fail)
    | some (.nst m xs out) => (match i.agg, o, v with
      | false, 0, .sl e => .kind e fun b => (match b with
        | some m' => pchk (Nat.beq m m' && Nat.blt k xs.length && Nat.beq i.size 1) (stNst n m xs out k e K)
        | none => .fail)
      | false, 0, .nl => pchk (Nat.blt k xs.length && Nat.beq i.size 1) (nstBack xs out fun ys => .setB n (.nst m (ys.set k (.im [])) none) K)
      | _, _, _ => .fail)
    | _ => .fail)
  | .oe id k o => .outB id fun q => (match q with
    | some (.rls _) => stRl i v id k o K
    | _ => stOl i v id k o K)
  | _ => .fail

/-- tests that the kernel carries out on successors, too -/
def leI : Int → Int → Bool
  | .ofNat m, .ofNat n => Nat.ble m n
  | .negSucc _, .ofNat _ => true
  | .ofNat _, .negSucc _ => false
  | .negSucc m, .negSucc n => Nat.ble n m
def ltI : Int → Int → Bool
  | .ofNat m, .ofNat n => Nat.blt m n
  | .negSucc _, .ofNat _ => true
  | .ofNat _, .negSucc _ => false
  | .negSucc m, .negSucc n => Nat.blt n m
/-- a sum, a test .. of closed values, at an operand's type -/
def arith (op : BinOp) (k : IntKind) (a b : Int) : Option CV := match op with
  | .add => some (.int k (k.wrap (a + b)))
  | .sub => some (.int k (k.wrap (a - b)))
  | .mul => some (.int k (k.wrap (a * b)))
  | .eql => some (.bool (a == b))
  | .neq => some (.bool (a != b))
  | .lss => some (.bool (ltI a b))
  | .leq => some (.bool (leI a b))
  | .gtr => some (.bool (ltI b a))
  | .geq => some (.bool (leI b a))
  | .and => some (.int k (k.wrap (BitVec.ofInt k.bits a &&& BitVec.ofInt k.bits b).toNat))
  | .or => some (.int k (k.wrap (BitVec.ofInt k.bits a ||| BitVec.ofInt k.bits b).toNat))
  | .xor => some (.int k (k.wrap (BitVec.ofInt k.bits a ^^^ BitVec.ofInt k.bits b).toNat))
  | .andNot => some (.int k (k.wrap (BitVec.ofInt k.bits a &&& ~~~ (BitVec.ofInt k.bits b)).toNat))
  | _ => none
def strOp (op : BinOp) (x y : ByteArray) (K : CV → Prog α) : Prog α := match op with
  | .add => pchk (Nat.ble (x.size + y.size) maxStr) (K (.str (catS x y)))
  | .eql => K (.bool (x.data.toList == y.data.toList))
  | .neq => K (.bool (!(x.data.toList == y.data.toList)))
  | .lss => K (.bool (Op.bytesLess x.data.toList y.data.toList))
  | .leq => K (.bool (Op.bytesLess x.data.toList y.data.toList || x.data.toList == y.data.toList))
  | .gtr => K (.bool (!(Op.bytesLess x.data.toList y.data.toList || x.data.toList == y.data.toList)))
  | .geq => K (.bool (!Op.bytesLess x.data.toList y.data.toList))
  | _ => .fail
/-- a value that is held against nil: true, false -/
def AV.isNil (k : TD) (v : AV) (K : Bool → Prog α) : Prog α := match k, v with
  | .slice _, .c x => .look _ (lNilS x) K
  | .slice _, .nl => K true
  | .slice _, .sl n => listOf n fun xs => .look _ (lEmp xs) fun t => (match t with | true => .fail | false => K false)
  | .slice _, .ol id => listOut id fun xs => .look _ (lEmp xs) fun t => (match t with | true => .fail | false => K false)
  | .ptr, .c x => .look _ (lNilP x) K
  | .ptr, .pt .. | .ptr, .le .. | .ptr, .po .. | .ptr, .ep .. | .ptr, .oe .. => K false
  | .fn, .c x => .look _ (lNilF x) K
  | .fn, .fn .. => K false
  | .ifc, .c x => .look _ (lNilI x) K
  | .ifc, .ifc .. => K false
  | _, _ => .fail
def isNilO (k : TD) (x : Operand) : Bool := match x with
  | .const v => (match k, v with
    | .ptr, .pointer none | .slice _, .slice none 0 0 | .fn, .nilFunc | .ifc, .nilIface => true
    | _, _ => false)
  | _ => false
def okP (v : AV) (K : AV → Prog α) : Prog α := match v with
  | .c x => .look _ (lOk x) fun _ => K v
  | .pt .. | .le .. | .po .. | .ep .. | .ifc .. | .oe .. => K v
  | .fn (.func _) _ _ => K v
  | _ => .fail
def binA (op : BinOp) (i : TI) (ox oy : Operand) (x y : AV) (K : CV → Prog α) : Prog α := match i.td with
  | .int k => x.cv fun x => y.cv fun y => .look _ (lInt x k) fun a => (match op with
    | .shl => .look _ (lAny y) fun (_, b) => pchk (leI 0 b) (K (.int k (k.wrap (a * 2 ^ min b.toNat k.bits))))
    | .shr => .look _ (lAny y) fun (_, b) => pchk (leI 0 b) (K (.int k (a.fdiv (2 ^ min b.toNat k.bits))))
    | op => .look _ (lInt y k) fun b => (match op with
      | .quo => pchk (!(b == 0)) (K (.int k (k.wrap (a.tdiv b))))
      | .rem => pchk (!(b == 0)) (K (.int k (a.tmod b)))
      | op => (match arith op k a b with | some z => K z | none => .fail)))
  | .bool => x.cv fun x => y.cv fun y => .look _ (lB x) fun a => .look _ (lB y) fun b => (match op with
    | .eql => K (.bool (a == b))
    | .neq => K (.bool (!(a == b)))
    | _ => .fail)
  | .str => x.cv fun x => y.cv fun y => .look _ (lStr x) fun a => .look _ (lStr y) fun b => strOp op a b K
  | k => (match isNilO k oy, isNilO k ox with
    | true, _ => x.isNil k fun t => (match op with | .eql => K (.bool t) | .neq => K (.bool (!t)) | _ => .fail)
    | false, true => y.isNil k fun t => (match op with | .eql => K (.bool t) | .neq => K (.bool (!t)) | _ => .fail)
    | _, _ => .fail)
def unA (op : UnOp) (x : CV) (K : CV → Prog α) : Prog α := match op with
  | .not => .look _ (lB x) fun b => K (.bool (!b))
  | .neg => .look _ (lAny x) fun (k, n) => K (.int k (k.wrap (-n)))
  | .xor => .look _ (lAny x) fun (k, n) => K (.int k (k.wrap (BitVec.ofInt k.bits (if k.signed then -1 else k.max) ^^^ BitVec.ofInt k.bits n).toNat))
  | _ => .fail
def convA (a b : TI) (byteElem : Bool) (v : AV) (K : AV → Prog α) : Prog α := match a.td, b.td with
  | .int k, .int k' => v.cv fun x => .look _ (lInt x k) fun n => K (.c (.int k' (k'.wrap n)))
  | .str, .str => v.cv fun x => .look _ (lStr x) fun t => K (.c (.str t))
  | .slice _, .str => pchk byteElem (v.see fun x => .look _ (lLst x) fun xs => popt (bytesOf xs) fun l => K (.c (.str ⟨l.toArray⟩)))
  | .str, .slice _ => pchk byteElem (v.cv fun x => .look _ (lStr x) fun t => K (.c (.im (ofBytes t))))
  | _, _ => .fail
/-- the parts of a literal: cells -/
def fillParts (place : Nat → Option (Nat × TI)) (cs : List AV) : List (Nat × AV) → (List AV → Prog α) → Prog α
  | [], K => K cs
  | (i, v) :: r, K => (match place i with
    | some (o, t) => pchk (noLo v) (v.cellsOf t fun vs => pchk (Nat.ble (o + vs.length) cs.length) (fillParts place (setAll cs o vs) r K))
    | none => .fail)
def zeroOf (i : TI) (K : CV → Prog α) : Prog α := match i.zero with | some z => K z | none => .fail
/-- each made immutable, closed -/
def freezeC : List (Nat × AV) → (List (Nat × CV) → Prog α) → Prog α
  | [], K => K []
  | (i, v) :: l, K => frz v fun x => freezeC l fun xs => K ((i, x) :: xs)
def setParts (xs : List CV) : List (Nat × CV) → List CV
  | [] => xs
  | (i, x) :: l => setParts (xs.set i x) l
def optInt (ny : Bool) (x : Option Operand) (d : Nat) (m : Nat) (K : Nat → Prog α) : Prog α := match x with
  | none => K d
  | some x => rdc ny x fun v => .look _ (lAny v) fun (_, n) => .look _ (lUpto n m) K
def sameOpd : Option Operand → Option Operand → Bool
  | some (.tmp t), some (.tmp u) => Nat.beq t u
  | some (.const (.int _ a)), some (.const (.int _ b)) => a == b
  | _, _ => false
def headN (m : Nat) (xs : List CV) : Bool := match xs with | [] => true | x :: _ => x.isN m
def sliceOp (C : Cfg) (ny : Bool) (i : TI) (taken : Bool) (d : Option Nat) (v : AV) (lo hi mx : Option Operand) (K : AV → Prog α) : Prog α := match i.td with
  | .str => (match mx with
    | none => v.cv fun x => .look _ (lStr x) fun t => optInt ny hi t.size t.size fun h => optInt ny lo 0 h fun l => .look _ (lForce (cutS t l h)) fun u => K (.c (.str u))
    | some _ => .fail)
  | .slice e => tyP C e fun j => (match taken, v, lo, mx with
    | true, .sl n, none, none => .blk n fun b => (match b with
      | some (.lst m xs) => optInt ny hi xs.length xs.length fun h => .setB n .dead (newL d (.lst m (xs.take h)) K)
      | _ => .fail)
    | _, _, none, some m => (match hi with
      | some hi => frz v fun x => .look _ (lLst x) fun xs => optInt ny (some hi) 0 xs.length fun h => optInt ny (some m) 0 xs.length fun m => pchk (Nat.beq h m) (K (.c (.ic (xs.take h))))
      | none => .fail)
    | _, _, _, none => frz v fun x => .look _ (lLst x) fun xs => optInt ny hi xs.length xs.length fun h => optInt ny lo 0 h fun l => pchk (Nat.beq l 0 || headN j.size xs) (K (.c (.im ((xs.drop l).take (h - l)))))
    | _, _, _, some _ => .fail)
  | _ => .fail
/-- is it an int, a bool, a string, nothing? then no memory is shared by it -/
def plainRes (C : Cfg) (f : Func) : Bool := match f.resultTypes.toList with
  | [] => true
  | [t] => (match C.ty t with | some i => (match i.td with | .int _ | .bool | .str => true | _ => false) | none => false)
  | _ => false
/-- arguments of a call that may write: what is live becomes an outer variable -/
def escCell (f : AV → (AV → Prog α) → Prog α) (v : AV) (K : AV → Prog α) : Prog α := match v with
  | .sl e => K (.sl e)
  | .nl => K .nl
  | v => f v K
/-- lists of their own go along with the variable that holds them -/
def takeLs : List AV → (List AV → Prog α) → Prog α
  | [], K => K []
  | v :: l, K => match v with
    | .sl e => giveO e fun u => takeLs l fun us => K (u :: us)
    | v => takeLs l fun us => K (v :: us)
def eachF (f : Bool → AV → (AV → Prog α) → Prog α) : List Bool → List AV → (List AV → Prog α) → Prog α
  | _, [], K => K []
  | fl, v :: l, K => f (fl.headD false) v fun u => eachF f fl.tail l fun us => K (u :: us)
def escape (C : Cfg) : Nat → Bool → AV → (AV → Prog α) → Prog α
  | 0, _, _, _ => .fail
  | n + 1, live, v, K => match v with
    | .nl => K .nl
    | .ol id => K (.ol id)
    | .oe id k o => K (.oe id k o)
    | .om id => K (.om id)
    | .ifc t x => escape C n live x fun y => K (mkIfc t y)
    | .ag cs => each (escape C n false) cs fun vs => K (mkAg vs)
    | .sl e => (match live with
      | true => giveO e K
      | false => freeze 8 (.sl e) K)
    | .pt b o => (match live with
      | true => .blk b fun k => (match k with
        | some (.box a cs) => each (escCell (escape C n false)) cs fun us => .blk b fun k => (match k with
          | some (.box _ _) => takeLs us fun vs => .out fun _ w => .setB b (.moved w.length) (.setO (.box a vs :: w) (K (.po w.length o)))
          | _ => .fail)
        | some (.moved id) => K (.po id o)
        | _ => freeze 8 v K)
      | false => freeze 8 v K)
    | .fn (.func f) first capt => (match C.opn f with
      | some flags => eachF (escape C n) (flags.drop (flags.length - capt.length)) capt fun vs => each (escape C n true) first fun us => K (.fn (.func f) us vs)
      | none => freeze 8 v K)
    | _ => freeze 8 v K
def escapes (C : Cfg) (fl : List Bool) (l : List AV) (K : List AV → Prog α) : Prog α := eachF (escape C 8) fl l K
def freezes : List AV → (List CV → Prog α) → Prog α
  | [], K => K []
  | v :: vs, K => frz v fun x => freezes vs fun xs => K (x :: xs)
/-- as freezes, and all stays as it was: what a call only looks at -/
def sees : Nat → AV → (CV → Prog α) → Prog α
  | 0, _, _ => .fail
  | n + 1, v, K => match v with
    | .c x => K x
    | .nl => K (.im [])
    | .sl b => listOf b fun xs => K (.im xs)
    | .ol id => listOut id fun xs => K (.im xs)
    | .lo id o e => held id o e fun _ _ _ _ xs => K (.im xs)
    | .pt b o => .blk b fun k => (match k with
      | some (.box a cs) => seesL (sees n) cs fun xs => K (.ep a (mkV a xs) o)
      | some (.frz a cs) => seesL (sees n) cs fun xs => K (.ep a (mkV a xs) o)
      | _ => .fail)
    | .ag cs => seesL (sees n) cs fun xs => K (.ag xs)
    | .fn f a b => seesL (sees n) a fun xs => seesL (sees n) b fun ys => K (.fn f xs ys)
    | .ifc t x => sees n x fun y => K (.ifc t y)
    | .ep a x o => (match a, x with
      | true, .ag _ => sees n x fun y => K (.ep a y o)
      | false, _ => sees n x fun y => K (.ep a y o)
      | _, _ => .fail)
    | _ => .fail
  where
  seesL (f : AV → (CV → Prog α) → Prog α) : List AV → (List CV → Prog α) → Prog α
    | [], K => K []
    | v :: l, K => f v fun x => seesL f l fun xs => K (x :: xs)
  mkV (a : Bool) (xs : List CV) : CV := cond a (.ag xs) (xs.headD .nilp)
def seess : List AV → (List CV → Prog α) → Prog α
  | [], K => K []
  | v :: vs, K => sees 8 v fun x => seess vs fun xs => K (x :: xs)
/-- what is left of an answer that shares no memory -/
def blur1 : CV → Option CV
  | .int k n => some (.int k n)
  | .bool b => some (.bool b)
  | .str s => some (.str s)
  | .nilp => some .nilp
  | .nilf => some .nilf
  | .nili => some .nili
  | .nils => some .nils
  | .em => some (.ln 0)
  | .im xs => some (.ln xs.length)
  | .ic xs => some (.ln xs.length)
  | .ln n => some (.ln n)
  | _ => none
def blurs : List CV → Option (List CV)
  | [] => some []
  | x :: l => match blur1 x with | some y => (match blurs l with | some ys => some (y :: ys) | none => none) | none => none
def blurA : CV → Option CV
  | .tp xs => (match blurs xs with | some ys => some (.tp ys) | none => none)
  | x => blur1 x
def callF (C : Cfg) (Q : Orc) (f : Nat) (args : List AV) (K : AV → Prog α) : Prog α := match C.fn f with
  | some fn => pchk fn.body.isSome (match C.opn f with
    | none => (match plainRes C fn with
      | true => seess args fun xs => popt (Q.clo f xs) fun r => .look _ (lShp (C.shp f) r) fun r => K (.c r)
      | false => (match C.blur f with
        | true => seess args fun xs => popt (Q.clo f xs) fun r => popt (blurA r) fun r => K (.c r)
        | false => freezes args fun xs => popt (Q.clo f xs) fun r => .look _ (lShp (C.shp f) r) fun r => K (.c r)))
    | some fl => escapes C fl args fun xs => .out fun _ w => popt (Q.opn f xs w) fun q => .look _ (lShq (C.shq f) q) fun q => .setO q.2 (K q.1))
  | none => .fail
/-- functions of Go's library that have no body: a string's bytes counted, looked for -/
inductive ExtK where
  | count | find
def extK (fn : Func) : Option ExtK := match fn.origin == "" with
  | true => (match fn.name == "internal/bytealg.CountString" with
    | true => some .count
    | false => (match fn.name == "internal/bytealg.IndexByteString" with
      | true => some .find
      | false => none))
  | false => none
def extOf (C : Cfg) (f : Nat) : Option ExtK := match C.fn f with
  | some fn => (match fn.body with
    | none => extK fn
    | some _ => none)
  | none => none
def countIn (c : Nat) : List UInt8 → Nat
  | [] => 0
  | b :: l => cond (Nat.beq b.toNat c) (countIn c l + 1) (countIn c l)
def findIn (c : Nat) : Nat → List UInt8 → Int
  | _, [] => .negSucc 0
  | i, b :: l => cond (Nat.beq b.toNat c) (.ofNat i) (findIn c (i + 1) l)
def extRun (k : ExtK) (s : ByteArray) (n : Int) : Int := match k with
  | .count => .ofNat (countIn n.toNat.toUInt8.toNat s.data.toList)
  | .find => findIn n.toNat.toUInt8.toNat 0 s.data.toList
def extA (k : ExtK) (args : List AV) (K : AV → Prog α) : Prog α := match args with
  | [x, y] => x.cv fun x => y.cv fun y => .look _ (lStr x) fun s => .look _ (lInt y .u8) fun n => K (.c (.int .i64 (extRun k s n)))
  | _ => .fail
def callV (C : Cfg) (Q : Orc) (v : AV) (args : List AV) (K : AV → Prog α) : Prog α := match v with
  | .c (.fn (.func f) first capt) => (match extOf C f with
    | none => callF C Q f (first.map AV.c ++ args ++ capt.map AV.c) K
    | some k => extA k (first.map AV.c ++ args ++ capt.map AV.c) K)
  | .fn (.func f) first capt => callF C Q f (first ++ args ++ capt) K
  | _ => .fail
/-- a method of an interface's value, of type t -/
def invA (C : Cfg) (Q : Orc) (t : Nat) (x : AV) (name : String) (args : List AV) (K : AV → Prog α) : Prog α := tyP C t fun i => match i.el, i.meth name with
  | some _, some (f, true) => callF C Q f (x :: args) K
  | some e, some (f, false) => tyP C e fun j => evLoad j false none x fun y => callF C Q f (y :: args) K
  | _, _ => .fail
/-- is the operation's destination an append's first operand, or cut where it stands? -/
def isTaken (ops : List Oper) (d : Option Nat) : Bool := match d with
  | none => false
  | some d => ops.any fun o => match o.op with
    | .call { callee := .builtin .append, args, .. } => (match args.toList with | .tmp t :: _ => Nat.beq t d | _ => false)
    | _ => false
/-- is it a cut of a variable, that goes back to it? -/
def isCut (ops : List Oper) (o : Oper) : Bool := match o.op, o.dst with
  | .slice _ (.tmp t) none _ none, some e => (ops.any fun a => match a.op with | .store _ _ (.tmp u) => Nat.beq u e | _ => false) || ops.any fun a => (match a.op, a.dst with
    | .assign (.tmp u), some v => Nat.beq u e && ops.any fun m => (match m.op, m.dst with
      | .move (.tmp v'), some d' => Nat.beq v v' && Nat.beq t d'
      | _, _ => false)
    | _, _ => false)
  | _, _ => false
def offOf (i : TI) (f : Nat) (K : Nat → Nat → Prog α) : Prog α := match i.td with
  | .struct fs => (match fs[f]? with | some (o, t) => K o t | none => .fail)
  | _ => .fail
def AV.plus (v : AV) (n : Nat) (K : AV → Prog α) : Prog α := match v with
  | .pt b o => K (.pt b (o + n))
  | .le p i o => K (.le p i (o + n))
  | .oe p i o => K (.oe p i (o + n))
  | .po id o => K (.po id (o + n))
  | .c (.ep a x o) => K (.c (.ep a x (o + n)))
  | .ep a x o => K (.ep a x (o + n))
  | _ => .fail
def isByte (C : Cfg) (e : Nat) : Bool := match C.ty e with | some { td := .int .u8, .. } => true | _ => false
def noInt : TD → Bool
  | .int _ => false
  | _ => true
def isSl (n : Nat) : AV → Bool
  | .sl k => Nat.beq n k
  | _ => false
def isOl (n : Nat) : AV → Bool
  | .ol k => Nat.beq n k
  | _ => false
/-- what is appended -/
def appSrc (u : AV) (K : List CV → Prog α) : Prog α := match u with
  | .c (.str b) => K (ofBytes b)
  | u => u.see fun z => .look _ (lLst z) fun ys => K ys
def appNl (d : Option Nat) (j : TI) (u : AV) (K : AV → Prog α) : Prog α := appSrc u fun ys => pchk (allN j.size ys && Nat.ble ys.length maxLst) (newL d (.lst j.size ys) K)
def appendTo (d : Option Nat) (j : TI) (v u : AV) (K : AV → Prog α) : Prog α := match v with
  | .sl n => .blk n fun b => (match b with
    | some (.lst m xs) => appSrc u fun ys => pchk (Nat.beq m j.size && allN m ys && Nat.ble (xs.length + ys.length) maxLst && !(isSl n u)) (.look _ (lForceA (xs ++ ys)) fun zs => .setB n .dead (newL d (.lst m zs) K))
    | _ => .fail)
  | .nl => appNl d j u K
  | .c (.ic xs) => appSrc u fun ys => pchk (allN j.size ys && allN j.size xs && Nat.ble (xs.length + ys.length) maxLst && !ys.isEmpty) (newL d (.lst j.size (xs ++ ys)) K)
  | .c z => .look _ (lNilS z) fun t => pchk t (appNl d j u K)
  | _ => .fail
/-- a list's length -/
def lenS (v : AV) (K : Nat → Prog α) : Prog α := v.see fun x => .look _ (lLen x) K
def lenA (v : AV) (K : Nat → Prog α) : Prog α := match v with
  | .sl n => .blk n fun b => (match b with
    | some (.nst _ xs _) => K xs.length
    | _ => lenS (.sl n) K)
  | .ov id k => .out fun _ w => (match w.get id with
    | some (.lst _ xs) => K (xs.length - k)
    | _ => .fail)
  | .ol id => .outB id fun q => (match q with
    | some (.rls xs) => K xs.length
    | _ => lenS (.ol id) K)
  | v => lenS v K
/-- an append to an outer list of lists: of an own one -/
def appRl (j : TI) (id : Nat) (u : AV) (K : AV → Prog α) : Prog α := match u with
  | .sl n => giveO n fun u => (match u with
    | .ol id' => .out fun _ w => (match w.get id, w.get id' with
      | some (.rls xs), some (.rls ys) => pchk (Nat.beq j.size 1 && !(Nat.beq id id') && Nat.ble (xs.length + ys.length) maxLst) (.setO (.rls (xs ++ ys) :: (w.put id .dead).put id' .dead) (K (.ol w.length)))
      | _, _ => .fail)
    | _ => .fail)
  | _ => .fail
/-- an append, of lists of lists as well -/
def appendA (d : Option Nat) (j : TI) (v u : AV) (K : AV → Prog α) : Prog α := match v with
  | .sl n => .blk n fun b => (match b with
    | some (.nst m xs out) => (match u with
      | .sl n' => nstBack xs out fun zs => .blk n' fun b' => (match b' with
        | some (.nst k ys none) => pchk (Nat.beq j.size 1 && Nat.beq m k && !(Nat.beq n n') && Nat.ble (zs.length + ys.length) maxLst) (.setB n .dead (.setB n' .dead (newL d (.nst m (zs ++ ys) none) K)))
        | _ => .fail)
      | _ => .fail)
    | _ => appendTo d j (.sl n) u K)
  | .ol id => (match d with
    | some d' => .outB id fun q => (match q with
      | some (.lsp m xs) => .out fun _ w => appSrc u fun ys => pchk (Nat.beq m j.size && allN m ys && Nat.ble (xs.length + ys.length) maxLst && !(isOl id u)) (.setO (.lsp m (xs ++ ys) :: w.put id .dead) (K (.ol w.length)))
      | some (.rls _) => appRl j id u K
      | _ => pchk (!(isOl id u)) (takeO id (tname d') fun v => appendTo d j v u K))
    | none => .fail)
  | v => appendTo d j v u K
/-- an array's cells, by its elements -/
def groups (j : TI) : Nat → List CV → List CV
  | 0, _ => []
  | n + 1, cs => (match j.agg with | true => .ag (cs.take j.size) | false => g cs 0) :: groups j n (cs.drop j.size)
/-- a list of an array that is written no more -/
def arrC (j : TI) (n : Nat) (u : AV) (K : AV → Prog α) : Prog α := match u with
  | .c (.ep true (.ag cs) 0) => pchk (cs.all CV.flat && Nat.beq cs.length (n * j.size) && (j.agg || Nat.beq j.size 1)) (K (.c (.im (groups j n cs))))
  | _ => .fail
/-- is the element that has a name of its own cut off? -/
def offOut (out : Option (Nat × Nat)) (h : Nat) : Bool := match out with | some (j, _) => Nat.ble h j | none => false
/-- a cut, of lists of lists as well -/
def sliceA (C : Cfg) (ny : Bool) (i : TI) (taken : Bool) (d : Option Nat) (v : AV) (lo hi mx : Option Operand) (K : AV → Prog α) : Prog α := match i.td, taken, v, lo, mx with
  | .slice e, true, .sl n, none, none => .blk n fun b => (match b with
    | some (.nst m xs out) => tyP C e fun _ => optInt ny hi xs.length xs.length fun h => (match offOut out h with
      | true => .setB n .dead (newL d (.nst m (xs.take h) none) K)
      | false => nstBack xs out fun ys => .setB n .dead (newL d (.nst m (ys.take h) none) K))
    | _ => sliceOp C ny i taken d (.sl n) none hi none K)
  | .slice e, true, .ol id, none, none => (match d with
    | some d' => .outB id fun q => (match q with
      | some (.rls xs) => tyP C e fun _ => optInt ny hi xs.length xs.length fun h => .out fun _ w => .setO (.rls (xs.take h) :: w.put id .dead) (K (.ol w.length))
      | _ => takeO id (tname d') fun v => sliceOp C ny i taken d v none hi none K)
    | none => .fail)
  | .slice e, false, .ol id, some lo, none => (match hi with
    | none => tyP C e fun j => .out fun _ w => (match w.get id with
      | some (.lst m xs) => pchk (Nat.beq m j.size) (optInt ny (some lo) 0 xs.length fun k => K (.ov id k))
      | _ => sliceOp C ny i taken d (.ol id) (some lo) none none K)
    | some hi => sliceOp C ny i taken d (.ol id) (some lo) (some hi) none K)
  | _, _, _, _, _ => sliceOp C ny i taken d v lo hi mx K
/-- a cut, of arrays as well -/
def sliceB (C : Cfg) (ny : Bool) (i : TI) (taken : Bool) (d : Option Nat) (v : AV) (lo hi mx : Option Operand) (K : AV → Prog α) : Prog α := match i.td with
  | .array n e => (match v with
    | .pt b o => pchk (Nat.beq o 0 && lo.isNone && hi.isNone && mx.isNone) (tyP C e fun j => freeze 8 (.pt b 0) fun u => arrC j n u K)
    | _ => .fail)
  | _ => sliceA C ny i taken d v lo hi mx K
/-- the address of an element of a closed list -/
def imAddr (j : TI) (xs : List CV) (k : Int) (K : AV → Prog α) : Prog α := .look _ (lIx k xs.length) fun k => .look _ (lNth xs k) fun x => pchk (x.isN j.size) (K (.c (.ep true x 0)))
def allNl : List (Nat × AV) → Bool
  | [] => true
  | (_, .nl) :: l => allNl l
  | _ => false
def isNils : CV → Bool
  | .nils => true
  | _ => false
/-- a literal list; one of nil lists -/
def bslA (C : Cfg) (d : Option Nat) (len : Nat) (j : TI) (z : CV) (ps : List (Nat × AV)) (K : AV → Prog α) : Prog α := match j.td, allNl ps with
  | .slice e', true => tyP C e' fun j' => pchk (isNils z && Nat.beq j.size 1 && Nat.ble len 16777216 && ps.all fun p => Nat.blt p.1 len) (newL d (.nst j'.size (List.replicate len (.im [])) none) K)
  | _, _ => freezeC ps fun xs => pchk (allN j.size (xs.map Prod.snd) && z.isN j.size && Nat.ble (len * j.size) 16777216 && xs.all fun p => Nat.blt p.1 len) (newL d (.lst j.size (setParts (List.replicate len (zCV z)) xs)) K)
/-- a made list; one of nil lists -/
def mslA (C : Cfg) (d : Option Nat) (n : Nat) (j : TI) (z : CV) (K : AV → Prog α) : Prog α := match j.td with
  | .slice e' => tyP C e' fun j' => pchk (isNils z && Nat.beq j.size 1) (newL d (.nst j'.size (List.replicate n (.im [])) none) K)
  | _ => newL d (.lst j.size (List.replicate n (zCV z))) K
def isZ : Operand → Bool
  | .const (.int _ (.ofNat 0)) => true
  | _ => false
/-- an outer list's elements, from one on, are none any more -/
def clearA (C : Cfg) (i : TI) (v : AV) (K : AV → Prog α) : Prog α := match i.td, v with
  | .slice e, .ov id k => tyP C e fun j => zeroOf j fun z => .out fun _ w => (match w.get id with
    | some (.lst m xs) => pchk (Nat.beq m j.size && z.isN j.size && Nat.ble k xs.length) (.setO (w.put id (.lst m (xs.take k ++ List.replicate (xs.length - k) (zCV z)))) (K (.c (.tp []))))
    | _ => .fail)
  | _, _ => .fail
def taA (i : TI) (a : Nat) (v : AV) (ok : Bool) (K : AV → Prog α) : Prog α := match i.td, v, ok with
  | .ifc, _, _ => .fail
  | _, .c x, false => .look _ (lIfc x) fun (t, y) => pchk (Nat.beq t a) (K (.c y))
  | _, .ifc t y, false => pchk (Nat.beq t a) (K y)
  | _, _, _ => .fail
def fieldsOk (C : Cfg) (fs : List (Nat × Nat)) : Bool := fs.all fun f => match C.ty f.2 with | some _ => true | none => false
def fieldPl (C : Cfg) (fs : List (Nat × Nat)) (k : Nat) : Option (Nat × TI) := match fs[k]? with | some (o, t) => (match C.ty t with | some j => some (o, j) | none => none) | none => none
/-- a map's key, of that type -/
def keyOk : TD → CV → Bool
  | .str, .str _ => true
  | .int k, .int k' _ => kbeq k' k
  | _, _ => false
def sameK : TD → CV → CV → Option Bool
  | .str, .str a, .str b => some (a.data.toList == b.data.toList)
  | .int _, .int k a, .int k' b => (match kbeq k k' with | true => some (a == b) | false => none)
  | _, _, _ => none
/-- what a map has for the key, if it has it -/
def findK (d : TD) (k : CV) : List CV → List AV → Option (Option AV)
  | [], _ => some none
  | _ :: _, [] => none
  | q :: ks, v :: vs => (match sameK d k q with
    | some true => some (some v)
    | some false => findK d k ks vs
    | none => none)
/-- a map's new entry -/
def insA (C : Cfg) (i : TI) (m : AV) (k : CV) (v : AV) (K : AV → Prog α) : Prog α := match i.td, m with
  | .map kt _, .om id => tyP C kt fun j => pchk (keyOk j.td k) (escape C 8 false v fun v => .out fun _ w => (match w.get id with
    | some (.map ks vs) => popt (findK j.td k ks vs) fun q => (match q with
      | none => .setO (w.put id (.map (ks ++ [k]) (vs ++ [v]))) (K (.c (.tp [])))
      | some _ => .fail)
    | _ => .fail))
  | _, _ => .fail
def okR (ok : Bool) (v : AV) (t : Bool) : AV := match ok with | true => mkTp [v, .c (.bool t)] | false => v
def lookA (C : Cfg) (i : TI) (m : AV) (k : CV) (ok : Bool) (K : AV → Prog α) : Prog α := match i.td, m with
  | .map kt e, .om id => tyP C kt fun j => pchk (keyOk j.td k) (.out fun _ w => (match w.get id with
    | some (.map ks vs) => popt (findK j.td k ks vs) fun q => (match q with
      | none => tyP C e fun j' => zeroOf j' fun z => pchk (z.isN j'.size) (K (okR ok (.c (zCV z)) false))
      | some v => K (okR ok v true))
    | _ => .fail))
  | _, _ => .fail
/-- a new map -/
def newM (r : Option Operand) (K : AV → Prog α) : Prog α := match r with
  | none => .out fun _ w => .setO (.map [] [] :: w) (K (.om w.length))
  | some _ => .fail
/-- the next sign of a string: it is a byte's -/
def lNext (s : ByteArray) (pos : Nat) : Look (Option Nat) := ⟨fun K => match s.data.toList[pos]? with
  | none => K none
  | some b => chk (Nat.blt b.toNat 128) (K (some b.toNat)), fun K => by
    cases s.data.toList[pos]? with
    | none => rfl
    | some b => simp only []; cases Nat.blt b.toNat 128 <;> rfl⟩
def rangeA (i : TI) (v : AV) (K : AV → Prog α) : Prog α := match i.td with
  | .str => v.cv fun x => .look _ (lStr x) fun t => .out fun _ w => .setO (.iter t 0 :: w) (K (.po w.length 0))
  | _ => .fail
def nextA (v : AV) (isS : Bool) (K : AV → Prog α) : Prog α := match v, isS with
  | .po id 0, true => .outB id fun q => (match q with
    | some (.iter t pos) => .look _ (lNext t pos) fun c => (match c with
      | none => K (.c (.tp [.bool false]))
      | some c => .out fun _ w => .setO (w.put id (.iter t (pos + 1))) (K (.c (.tp [.bool true, .int .i64 pos, .int .i32 c]))))
    | _ => .fail)
  | _, _ => .fail
/-- one operation: its result -/
def evOp (C : Cfg) (Q : Orc) (ny : Bool) (all : List Oper) (o : Oper) (K : AV → Prog α) : Prog α := match o.op with
  | .move x => rd ny x K
  | .assign x => rd ny x K
  | .pick c a b => rdc ny c fun t => .look _ (lB t) fun t => .look _ (lIfb t) fun t => (match t with | true => rd ny a K | false => rd ny b K)
  | .alloc e => tyP C e fun i => zeroOf i fun z => pchk (z.isN i.size && (i.agg || Nat.beq i.size 1)) (newB o.dst (.box i.agg (zCells z)) K)
  | .box e x => tyP C e fun i => rd ny x fun v => pchk (noLo v) (v.cellsOf i fun cs => newB o.dst (.box i.agg cs) K)
  | .build t parts => tyP C t fun i => zeroOf i fun z => rdParts ny (parts.toList) fun ps =>
      (match i.td with
      | .struct fs => pchk (fieldsOk C fs && z.isN i.size) (fillParts (fieldPl C fs) (zCells z) ps fun cs => K (mkAg cs))
      | .array _ e => tyP C e fun j => pchk (z.isN i.size) (fillParts (fun k => some (k * j.size, j)) (zCells z) ps fun cs => K (mkAg cs))
      | _ => .fail)
  | .buildSlice t len parts => tyP C t fun i => (match i.td with
      | .slice e => tyP C e fun j => zeroOf j fun z => rdParts ny (parts.toList) fun ps => bslA C o.dst len j z ps K
      | _ => .fail)
  | .load t a => tyP C t fun i => rd ny a fun v => evLoad i (isTaken all o.dst) o.dst v K
  | .store t a x => tyP C t fun i => rd ny a fun u => rd ny x fun v => evStore i u v (K (.c (.tp [])))
  | .nilCheck x => rd ny x fun v => okP v K
  | .binOp op t x y _ => tyP C t fun i => rd ny x fun a => rd ny y fun b => binA op i x y a b fun z => K (.c z)
  | .unOp op _ x => rdc ny x fun x => unA op x fun z => K (.c z)
  | .convert a b x => tyP C a fun i => tyP C b fun j => rd ny x fun v =>
      convA i j (match i.td, j.td with
        | .slice e, _ => isByte C e
        | _, .slice e => isByte C e
        | _, _ => false) v K
  | .makeInterface t x => tyP C t fun i => rd ny x fun v => (match i.td with | .ifc => .fail | _ => pchk (noLo v) (K (mkIfc t v)))
  | .makeFunc f first capt => rds ny first.toList fun a => rds ny capt.toList fun b => pchk ((a ++ b).all noLo) (K (mkFn f a b))
  | .makeSlice t l cap => tyP C t fun i => (match i.td with
      | .slice e => tyP C e fun j => pchk (Nat.ble j.bytes 65536) (zeroOf j fun z => rdc ny l fun l' => .look _ (lAny l') fun (_, n) => (match isZ l with
        | true => rdc ny cap fun c' => .look _ (lAny c') fun (_, c) => .look _ (lUpto c maxLst) fun _ => pchk (z.isN j.size) (newL o.dst (.lst j.size []) K)
        | false => pchk (sameOpd (some l) (some cap) && z.isN j.size) (.look _ (lUpto n maxLst) fun n => mslA C o.dst n j z K)))
      | _ => .fail)
  | .slice t x lo hi mx => tyP C t fun i => rd ny x fun v => sliceB C ny i (isCut all o) o.dst v lo hi mx K
  | .fieldAddr t x f => tyP C t fun i => rd ny x fun v => offOf i f fun n ft => tyP C ft fun j => pchk (Nat.blt 0 j.size) (v.plus n K)
  | .field t x f => tyP C t fun i => rd ny x fun v => offOf i f fun n ft => tyP C ft fun j => (match v with
      | .c x => fldCV j x n K
      | .ag l => ldCells j l n K
      | _ => .fail)
  | .indexAddr t x k => tyP C t fun i => rd ny x fun v => rdc ny k fun k => .look _ (lAny k) fun (_, k) => (match i.td, v with
      | .slice e, .sl n => tyP C e fun j => .blk n fun b => (match b with
        | some (.lst m xs) => pchk (Nat.beq m j.size) (.look _ (lIx k xs.length) fun k => K (.le n k 0))
        | some (.nst _ xs _) => pchk (Nat.beq j.size 1) (.look _ (lIx k xs.length) fun k => K (.le n k 0))
        | some (.fls xs) => imAddr j xs k K
        | some (.movedL id) => .outB id fun q => (match q with
          | some (.lst m xs) => pchk (Nat.beq m j.size) (.look _ (lIx k xs.length) fun k => K (.oe id k 0))
          | _ => .fail)
        | _ => .fail)
      | .slice e, .ol id => tyP C e fun j => .outB id fun q => (match q with
        | some (.lst m xs) => pchk (Nat.beq m j.size) (.look _ (lIx k xs.length) fun k => K (.oe id k 0))
        | some (.fls xs) => imAddr j xs k K
        | some (.lsp _ xs) => imAddr j xs k K
        | some (.rls xs) => pchk (Nat.beq j.size 1) (.look _ (lIx k xs.length) fun k => K (.oe id k 0))
        | _ => .fail)
      | .slice e, .ov id q => tyP C e fun j => .out fun _ w => (match w.get id with
        | some (.lst m xs) => pchk (Nat.beq m j.size) (.look _ (lIx k (xs.length - q)) fun k => K (.oe id (q + k) 0))
        | _ => .fail)
      | .slice e, .c x => tyP C e fun j => .look _ (lLst x) fun xs => imAddr j xs k K
      | .array len e, .pt n o => tyP C e fun j => .look _ (lIx k len) fun k => K (.pt n (o + k * j.size))
      | .array len e, .po id o => tyP C e fun j => .look _ (lIx k len) fun k => K (.po id (o + k * j.size))
      | .array n e, .c (.ep a x o) => tyP C e fun j => .look _ (lIx k n) fun k => K (.c (.ep a x (o + k * j.size)))
      | _, _ => .fail)
  | .index t x k => tyP C t fun i => rdc ny x fun x => rdc ny k fun k => .look _ (lAny k) fun (_, k) => (match i.td with
      | .str => .look _ (lStr x) fun t => .look _ (lIx k t.size) fun k => popt t.data.toList[k]? fun b => K (.c (.int .u8 (Int.ofNat b.toNat)))
      | .array n e => tyP C e fun j => .look _ (lIx k n) fun k => fldCV j x (k * j.size) K
      | _ => .fail)
  | .typeAssert x _ a ok => tyP C a fun i => rd ny x fun v => taA i a v ok K
  | .makeMap _ r => newM r K
  | .range t x => tyP C t fun i => rd ny x fun v => rangeA i v K
  | .next x isS => rd ny x fun v => nextA v isS K
  | .insert t m k v => tyP C t fun i => rd ny m fun m => rdc ny k fun k => rd ny v fun v => insA C i m k v K
  | .mapUpdate t m k v => tyP C t fun i => rd ny m fun m => rdc ny k fun k => rd ny v fun v => insA C i m k v K
  | .lookup t x k ok => tyP C t fun i => rd ny x fun m => rdc ny k fun k => lookA C i m k ok K
  | .extract x k => rd ny x fun v => (match v with
      | .c x => .look _ (lTp x) fun xs => popt xs[k]? fun y => K (.c y)
      | .tp l => (match l[k]? with | some v => K v | none => .fail)
      | _ => .fail)
  | .call c => (match c.callee with
      | .builtin .len => (match c.args.toList, c.argTypes.toList with
        | [x], t :: _ => tyP C t fun i => rd ny x fun v => (match i.td with
          | .array n _ => K (.c (.int .i64 n))
          | .str => v.cv fun x => .look _ (lStr x) fun t => K (.c (.int .i64 t.size))
          | .slice _ => lenA v fun k => K (.c (.int .i64 k))
          | _ => .fail)
        | _, _ => .fail)
      | .builtin .append => (match c.args.toList, c.argTypes.toList with
        | [x, y], [t, t'] => tyP C t fun i => tyP C t' fun i' => (match i.td with
          | .slice e => tyP C e fun j => zeroOf j fun z => pchk (Nat.ble j.bytes 65536 && noInt i'.td && z.isN j.size) (rd ny x fun v => rd ny y fun u => appendA o.dst j v u K)
          | _ => .fail)
        | _, _ => .fail)
      | .builtin .max => (match c.args.toList with
        | [x, y] => rdc ny x fun x => rdc ny y fun y => .look _ (lAny x) fun (k, a) => .look _ (lInt y k) fun b => K (.c (.int k (cond (decide (a < b)) b a)))
        | _ => .fail)
      | .builtin .min => (match c.args.toList with
        | [x, y] => rdc ny x fun x => rdc ny y fun y => .look _ (lAny x) fun (k, a) => .look _ (lInt y k) fun b => K (.c (.int k (cond (decide (b < a)) b a)))
        | _ => .fail)
      | .builtin .clear => (match c.args.toList, c.argTypes.toList with
        | [x], t :: _ => tyP C t fun i => rd ny x fun v => clearA C i v K
        | _, _ => .fail)
      | .builtin _ => .fail
      | .value f => rd ny f fun f => rds ny c.args.toList fun args => callV C Q f args K
      | .invoke rv name => rd ny rv fun v => rds ny c.args.toList fun args => (match v with
        | .c z => .look _ (lIfc z) fun (t, x) => invA C Q t (.c x) name args K
        | .ifc t x => invA C Q t x name args K
        | _ => .fail))
  | _ => .fail
/-- with its destination -/
def opP (C : Cfg) (Q : Orc) (ny : Bool) (all : List Oper) (o : Oper) : Prog Unit := evOp C Q ny all o fun v => match o.dst with
  | some d => .setE d v (.ret ())
  | none => .ret ()
def skipP (o : Oper) : Prog Unit := match o.dst with
  | some d => .setE d .un (.ret ())
  | none => .ret ()
end

/-! ### A region: its operations in the order of the text -/
def guardDst (ops : List Oper) (j : Nat) : Option Nat := match ops[j]? with | some o => o.dst | none => none
def meets (a b : List Loc) : Bool := a.any fun x => b.any fun y => x.beq y
def clash (a b : Log) : Bool := meets a.wr b.wr || meets a.wr b.rd || meets a.rd b.wr
/-- what is not ordered does not clash -/
def drawOk (bef : List Nat) (l : List Log) : Bool :=
  (l.zipIdx).all fun (b, j) => (l.zipIdx).all fun (a, i) => !(Nat.blt i j) || (bef.getD j 0).testBit i || !clash a b
/-- slots alone have been written -/
def slotsOnly (l : List Log) : Bool := l.all fun a => a.wr.all fun x => match x with | .slot _ => true | _ => false
section
variable {R : Type} (C : Cfg) (Q : Orc)
def evOps (ny : Bool) (all : List Oper) : List Oper → S → O → List Log → (S → O → List Log → Option R) → Option R
  | [], s, w, logs, K => K s w logs
  | o :: r, s, w, logs, K => match o.guard with
    | none => (opP C Q ny all o).run s w ⟨[], []⟩ fun _ s w l => evOps ny all r s w (l :: logs) K
    | some (j, want) => match guardDst all j with
      | some d => (match s.env d with
        | some .un => (skipP o).run s w ⟨[.slot d], []⟩ fun _ s w l => evOps ny all r s w (l :: logs) K
        | some (.c x) => x.asB fun b => ifb b
          (let s := s.put d (.c (.bool true)); match want with
            | true => (opP C Q ny all o).run s w ⟨[.slot d], []⟩ fun _ s w l => evOps ny all r s w (l :: logs) K
            | false => (skipP o).run s w ⟨[.slot d], []⟩ fun _ s w l => evOps ny all r s w (l :: logs) K)
          (let s := s.put d (.c (.bool false)); match want with
            | false => (opP C Q ny all o).run s w ⟨[.slot d], []⟩ fun _ s w l => evOps ny all r s w (l :: logs) K
            | true => (skipP o).run s w ⟨[.slot d], []⟩ fun _ s w l => evOps ny all r s w (l :: logs) K)
        | _ => none)
      | none => none
def logOk (draw : Bool) (ops : Array Oper) (logs : List Log) (K : Option R) : Option R := match draw with
  | true => chk (drawOk (Region.before ops).toList logs.reverse) K
  | false => K
def cvs (s : S) : List Nat → Option (List CV)
  | [] => some []
  | t :: ts => match s.env t with
    | some v => (match shut v, cvs s ts with | .c x, some xs => some (x :: xs) | _, _ => none)
    | _ => none
def putCs (s : S) : List Nat → List CV → S
  | t :: ts, xs => putCs (s.put t (.c (g xs 0))) ts xs.tail
  | [], _ => s
/-- what the operations fill is not known any more -/
def S.del (s : S) : List Oper → S
  | [] => s
  | o :: l => match o.dst with
    | some d => ⟨fun u => cond (Nat.beq u d) none ((s.del l).env u), s.own, s.gen⟩
    | none => s.del l
end

def evRegion {R : Type} (C : Cfg) (Q : Orc) (fid : Nat) (id : Nat) (ops : Array Oper) (draw : Bool) (s : S) (w : O) (K : S → O → Option R) : Option R :=
  match C.join fid id with
  | some ts => (match evOps C Q (C.nily fid) ops.toList ops.toList s w [] fun s' _ logs => chk (slotsOnly logs) (logOk draw ops logs (cvs s' ts)) with
      | some xs => K (putCs (s.del ops.toList) ts xs) w
      | none => none)
  | none => evOps C Q (C.nily fid) ops.toList ops.toList s w [] fun s w logs => logOk draw ops logs (K s w)

/-! ### Loops: the state at their head -/
def lname (k : Nat) : Nat := 1000000 + k
def lookN (l : List (Nat × Nat)) (n : Nat) : Option Nat := match l with
  | [] => none
  | (a, b) :: l => cond (Nat.beq a n) (some b) (lookN l n)
/-- what has been met: names of lists, with their numbers; sizes -/
structure Met where
  names : List (Nat × Nat)
  lists : List (Nat × Bool)
def meet (s : S) (acc : Nat) (v : AV) (m : Met) : Option (Sh × Met) := match v with
  | .c _ => some (.v, m)
  | .nl => (match acc with
    | 0 => some (.v, m)
    | a => some (.l m.lists.length, ⟨m.names, m.lists ++ [(a, false)]⟩))
  | .sl n => (match lookN m.names n, s.own n with
    | some k, _ => some (.l k, m)
    | none, some (.lst a _) => some (.l m.lists.length, ⟨(n, m.lists.length) :: m.names, m.lists ++ [(a, false)]⟩)
    | none, some (.nst a _ _) => some (.l m.lists.length, ⟨(n, m.lists.length) :: m.names, m.lists ++ [(a, true)]⟩)
    | none, some (.fls _) => some (.v, m)
    | _, _ => none)
  | .ag l => (match allC l with | some _ => some (.v, m) | none => some (.fix (.ag l), m))
  | .pt b o => (match s.own b with
    | some (.frz a cs) => (match mkEp a cs o with | .c _ => some (.v, m) | _ => none)
    | _ => some (.fix (.pt b o), m))
  | v => some (.fix v, m)
def mkSlots (s : S) : List (Nat × Nat) → Met → Option (List (Nat × Sh) × Met)
  | [], m => some ([], m)
  | (t, acc) :: l, m => match s.env t with
    | some v => (match meet s acc v m with
      | some (h, m) => (match mkSlots s l m with | some (hs, m) => some ((t, h) :: hs, m) | none => none)
      | none => none)
    | none => none
def mkCells (s : S) : List Nat → List AV → Met → Option (List Sh × Met)
  | _, [], m => some ([], m)
  | fl, v :: vs, m => match meet s (fl.headD 0) v m with
    | some (h, m) => (match mkCells s fl.tail vs m with | some (hs, m) => some (h :: hs, m) | none => none)
    | none => none
def mkBoxes (s : S) : List (Nat × List Nat) → Met → Option (List (Nat × Bool × List Sh) × List (Nat × Nat) × Met)
  | [], m => some ([], [], m)
  | (b, fl) :: l, m => match s.own b with
    | some (.box a cs) => (match mkCells s fl cs m with
      | some (h, m) => (match mkBoxes s l m with | some (hs, st, m) => some ((b, a, h) :: hs, st, m) | none => none)
      | none => none)
    | some (.moved id) => (match mkBoxes s l m with | some (hs, st, m) => some (hs, (b, id) :: st, m) | none => none)
    | some (.frz _ _) => mkBoxes s l m
    | _ => none
/-- at a round's end: slots (behind 100000000) that hold a variable of the round's own: it is written no more -/
def frzEnd : List Nat → Prog Unit
  | [] => .ret ()
  | b :: l => match Nat.ble 100000000 b with
    | true => .env (b - 100000000) fun v => (match v with
      | .pt _ _ => freeze 8 v fun u => .setE (b - 100000000) u (frzEnd l)
      | _ => frzEnd l)
    | false => frzEnd l
def endsOf (C : Cfg) (fid id : Nat) : List Nat := match C.loop fid id with | some h => h.2.2 | none => []
/-- variables that are written no more; slots (behind 1000000) that hold only such; variables (behind 2000000) that become outer ones; slots (behind 3000000, by the bound of the rounds) whose nil lists are appended to -/
def frzAll (C : Cfg) : List Nat → Prog Unit
  | [] => .ret ()
  | b :: l => match Nat.ble 100000000 b with
    | true => frzAll C l
    | false => match Nat.blt b 1000000, Nat.blt b 2000000 with
    | true, _ => freeze 8 (.pt b 0) fun _ => frzAll C l
    | false, true => .env (b - 1000000) fun v => freeze 8 v fun u => .setE (b - 1000000) u (frzAll C l)
    | false, false => match Nat.blt b 3000000 with
      | true => .blk (b - 2000000) fun k => (match k with
        | none => .fail
        | some _ => escape C 8 true (.pt (b - 2000000) 0) fun _ => frzAll C l)
      | false => match Nat.blt b 5000000 with
       | false => .env (b - 5000000) fun v => (match v with
        | .ol id => takeO id (b - 5000000) fun u => .setE (b - 5000000) u (frzAll C l)
        | _ => frzAll C l)
       | true => .env (b % 1000) fun v => (match v with
        | .c .nils => .env ((b - 3000000) / 1000) fun n => (match n with
          | .c (.int _ z) => (match z == 0 with
            | true => frzAll C l
            | false => .setE (b % 1000) .nl (frzAll C l))
          | _ => frzAll C l)
        | _ => frzAll C l)
def mkT (s : S) (h : List (Nat × Nat) × List (Nat × List Nat) × List Nat) : Option Tmpl :=
  match mkSlots s h.1 ⟨[], []⟩ with
  | some (a, m) => (match mkBoxes s h.2.1 m with
    | some (b, st, m) => some ⟨a, b, m.lists, st⟩
    | none => none)
  | none => none
def AV.notC : AV → Bool
  | .c _ => false
  | _ => true
/-- references, to names that are known; closed values -/
def refOk (f : Nat → Bool) : Nat → AV → Bool
  | 0, _ => false
  | n + 1, v => match v with
    | .pt b _ => f b
    | .po _ _ => true
    | .ol _ => true
    | .ov _ _ => true
    | .om _ => true
    | .ifc _ x => refOk f n x
    | .ep _ x _ => x.notC && refOk f n x
    | .fn _ a b => a.all (refOk f n) && b.all (refOk f n)
    | .c _ => true
    | _ => false
def Tmpl.has (T : Tmpl) (b : Nat) : Bool := T.boxes.any (fun p => Nat.beq p.1 b) || T.stay.any (fun p => Nat.beq p.1 b)
def Tmpl.shOk (T : Tmpl) (h : Sh) : Bool := match h with
  | .v => true
  | .l k => Nat.blt k T.lists.length
  | .fix u => refOk T.has 8 u
def allDiff : List Nat → Bool
  | [] => true
  | n :: l => l.all (fun k => !(Nat.beq n k)) && allDiff l
/-- a template makes sense -/
def Tmpl.ok (T : Tmpl) : Bool := T.slots.all (fun p => T.shOk p.2) && T.boxes.all (fun p => Nat.blt p.1 1000000 && p.2.2.all T.shOk) && T.stay.all (fun p => Nat.blt p.1 1000000)
  && allDiff (T.boxes.map Prod.fst ++ T.stay.map Prod.fst) && T.lists.all (fun a => Nat.blt 0 a.1) && Nat.blt T.lists.length 1000000
def lstOf (x : CV) : List CV := match x with | .im xs => xs | _ => []
/-- the state of a template, at values -/
def inOne : Sh → List CV → AV × List CV
  | .v, xs => (.c (g xs 0), xs.tail)
  | .l k, xs => (.sl (lname k), xs)
  | .fix v, xs => (v, xs)
def inSlots : List (Nat × Sh) → List CV → (Nat → Option AV) × List CV
  | [], xs => (fun _ => none, xs)
  | (t, h) :: l, xs => let c := inOne h xs; let r := inSlots l c.2; (upd r.1 t c.1, r.2)
def inCells : List Sh → List CV → List AV × List CV
  | [], xs => ([], xs)
  | h :: l, xs => let c := inOne h xs; let r := inCells l c.2; (c.1 :: r.1, r.2)
def inList (m : Nat) (nested : Bool) (xs : List CV) : Blk := match nested with | true => .nst m xs none | false => .lst m xs
def inLists : Nat → List (Nat × Bool) → List CV → (Nat → Option Blk) → (Nat → Option Blk)
  | _, [], _, f => f
  | k, m :: l, xs, f => upd (inLists (k + 1) l xs.tail f) (lname k) (inList m.1 m.2 (lstOf (g xs 0)))
def inStay : List (Nat × Nat) → (Nat → Option Blk)
  | [] => fun _ => none
  | (b, id) :: l => upd (inStay l) b (.moved id)
def inBoxes (st : List (Nat × Nat)) (ls : List (Nat × Bool)) : List (Nat × Bool × List Sh) → List CV → (Nat → Option Blk)
  | [], xs => inLists 0 ls xs (inStay st)
  | (b, a, h) :: l, xs => let c := inCells h xs; upd (inBoxes st ls l c.2) b (.box a c.1)
def Tmpl.st (T : Tmpl) (gen : Nat) (xs : List CV) : S :=
  let a := inSlots T.slots xs
  ⟨a.1, inBoxes T.stay T.lists T.boxes a.2, gen⟩
def sameFn : Fn → Fn → Bool
  | .func a, .func b => Nat.beq a b
  | _, _ => false
def sameBool : Bool → Bool → Bool
  | true, true | false, false => true
  | _, _ => false
def sameRefs (f : AV → AV → Bool) : List AV → List AV → Bool
  | [], [] => true
  | u :: us, v :: vs => f u v && sameRefs f us vs
  | _, _ => false
/-- equal, closed -/
def sameCVs (f : CV → CV → Bool) : List CV → List CV → Bool
  | [], [] => true
  | u :: us, v :: vs => f u v && sameCVs f us vs
  | _, _ => false
def sameCV : Nat → CV → CV → Bool
  | 0, _, _ => false
  | n + 1, u, v => match u, v with
    | .int k a, .int h b => kbeq k h && a == b
    | .bool a, .bool b => sameBool a b
    | .str a, .str b => a.data.toList == b.data.toList
    | .nilp, .nilp => true
    | .nils, .nils => true
    | .nilf, .nilf => true
    | .nili, .nili => true
    | .nilm, .nilm => true
    | .em, .em => true
    | .ep p a b, .ep q c d => sameBool p q && sameCV n a c && Nat.beq b d
    | .im a, .im b => sameCVs (sameCV n) a b
    | .ic a, .ic b => sameCVs (sameCV n) a b
    | .ln a, .ln b => Nat.beq a b
    | .fn f a b, .fn h c d => sameFn f h && sameCVs (sameCV n) a c && sameCVs (sameCV n) b d
    | .ifc a x, .ifc c y => Nat.beq a c && sameCV n x y
    | .ag a, .ag b => sameCVs (sameCV n) a b
    | .tp a, .tp b => sameCVs (sameCV n) a b
    | .mp a b, .mp c d => sameCVs (sameCV n) a c && sameCVs (sameCV n) b d
    | _, _ => false
def sameRef : Nat → AV → AV → Bool
  | 0, _, _ => false
  | n + 1, u, v => match u, v with
    | .pt a b, .pt c d => Nat.beq a c && Nat.beq b d
    | .po a b, .po c d => Nat.beq a c && Nat.beq b d
    | .ol a, .ol c => Nat.beq a c
    | .ov a b, .ov c d => Nat.beq a c && Nat.beq b d
    | .om a, .om c => Nat.beq a c
    | .ifc a x, .ifc c y => Nat.beq a c && sameRef n x y
    | .ep p a b, .ep q c d => sameBool p q && sameRef n a c && Nat.beq b d
    | .fn f a b, .fn h c d => sameFn f h && sameRefs (sameRef n) a c && sameRefs (sameRef n) b d
    | .c x, .c y => sameCV 64 x y
    | _, _ => false
def sameCell (u v : AV) : Bool := match u, v with
  | .nl, .nl => true
  | .un, .un => true
  | u, v => sameRef 8 u v
def sameBlk : Blk → Blk → Bool
  | .box a cs, .box b ds => sameBool a b && sameRefs sameCell cs ds
  | .lst m xs, .lst n ys => Nat.beq m n && sameCVs (sameCV 64) xs ys
  | .fls xs, .fls ys => sameCVs (sameCV 64) xs ys
  | .lsp m xs, .lsp n ys => Nat.beq m n && sameCVs (sameCV 64) xs ys
  | .rls xs, .rls ys => sameRefs sameCell xs ys
  | .dead, .dead => true
  | _, _ => false
def sameO : O → O → Bool
  | [], [] => true
  | a :: l, b :: k => sameBlk a b && sameO l k
  | _, _ => false
/-- a nil list, that shall be one of the template's -/
def noName (k : Nat) : Nat := 2000000 + k
/-- a state's values, by a template; names of lists, by their numbers -/
def outOf (h : Sh) (v : AV) (m : List (Nat × Nat)) (s : S) : Option (List CV × List (Nat × Nat)) := match h with
  | .v => (match v with
    | .c x => some ([x], m)
    | .nl => some ([.im []], m)
    | .sl n => (match s.own n with | some (.fls xs) => some ([.im xs], m) | some (.lst _ xs) => some ([.im xs], (1000000, n) :: m) | _ => none)
    | .ag l => (match allC l with | some xs => some ([.ag xs], m) | none => none)
    | .pt b o => (match s.own b with
      | some (.frz a cs) => (match mkEp a cs o with | .c x => some ([x], m) | _ => none)
      | _ => none)
    | _ => none)
  | .l k => (match v with
    | .sl n => cond (Nat.blt n 2000000) (match lookN m k with
      | some n' => cond (Nat.beq n n') (some ([], m)) none
      | none => some ([], (k, n) :: m)) none
    | .nl => (match lookN m k with
      | some _ => none
      | none => some ([], (k, noName k) :: m))
    | _ => none)
  | .fix u => cond (sameRef 8 u v) (some ([], m)) none
def outSlots (s : S) : List (Nat × Sh) → List (Nat × Nat) → Option (List CV × List (Nat × Nat))
  | [], m => some ([], m)
  | (t, h) :: l, m => match s.env t with
    | some v => (match outOf h v m s with
      | some (xs, m) => (match outSlots s l m with | some (ys, m) => some (xs ++ ys, m) | none => none)
      | none => none)
    | none => none
def outCells (s : S) : List Sh → List AV → List (Nat × Nat) → Option (List CV × List (Nat × Nat))
  | [], [], m => some ([], m)
  | h :: hs, v :: vs, m => match outOf h v m s with
    | some (xs, m) => (match outCells s hs vs m with | some (ys, m) => some (xs ++ ys, m) | none => none)
    | none => none
  | _, _, _ => none
def outBoxes (s : S) : List (Nat × Bool × List Sh) → List (Nat × Nat) → Option (List CV × List (Nat × Nat))
  | [], m => some ([], m)
  | (b, a, h) :: l, m => match s.own b with
    | some (.box a' cs) => cond (sameBool a a') (match outCells s h cs m with
      | some (xs, m) => (match outBoxes s l m with | some (ys, m) => some (xs ++ ys, m) | none => none)
      | none => none) none
    | _ => none
/-- different numbers, different names -/
def apartN : List (Nat × Nat) → Bool
  | [] => true
  | (_, n) :: l => l.all (fun p => !(Nat.beq n p.2)) && apartN l
def outLists (s : S) (m : List (Nat × Nat)) : Nat → List (Nat × Bool) → Option (List CV)
  | _, [] => some []
  | k, a :: l => match lookN m k with
    | some n => (match Nat.beq n (noName k) with
      | true => (match a.2, outLists s m (k + 1) l with | false, some r => some (.im [] :: r) | _, _ => none)
      | false => (match a.2, s.own n, outLists s m (k + 1) l with
        | false, some (.lst b xs), some r => cond (Nat.beq a.1 b) (some (.im xs :: r)) none
        | true, some (.nst b xs none), some r => cond (Nat.beq a.1 b) (some (.im xs :: r)) none
        | _, _, _ => none))
    | none => none
/-- elements that have names go back to their places -/
def backOne (v : AV) (p : Prog Unit) : Prog Unit := match v with
  | .sl n => .blk n fun b => (match b with
    | some (.nst m xs out) => nstBack xs out fun ys => .setB n (.nst m ys none) p
    | _ => p)
  | _ => p
def backCs : List AV → Prog Unit → Prog Unit
  | [], p => p
  | v :: l, p => backOne v (backCs l p)
def backSl : List (Nat × Sh) → Prog Unit → Prog Unit
  | [], p => p
  | (t, h) :: r, p => (match h with
    | .l _ => .env t fun v => backOne v (backSl r p)
    | _ => backSl r p)
def backBx : List (Nat × Bool × List Sh) → Prog Unit → Prog Unit
  | [], p => p
  | (b, _) :: r, p => .blk b fun k => (match k with
    | some (.box _ cs) => backCs cs (backBx r p)
    | _ => backBx r p)
def Tmpl.back (T : Tmpl) : Prog Unit := match T.lists.any Prod.snd with
  | true => backSl T.slots (backBx T.boxes (.ret ()))
  | false => .ret ()
def outStay (s : S) : List (Nat × Nat) → Bool
  | [] => true
  | (b, id) :: l => (match s.own b with | some (.moved id') => Nat.beq id id' | _ => false) && outStay s l
def Tmpl.out (T : Tmpl) (s : S) : Option (List CV) := match outSlots s T.slots [] with
  | some (xs, m) => (match outBoxes s T.boxes m with
    | some (ys, m) => cond (apartN m && outStay s T.stay) (match outLists s m 0 T.lists with
      | some zs => some (xs ++ (ys ++ zs))
      | none => none) none
    | none => none)
  | none => none

/-! ### Code -/
def hasRet : Code → Bool
  | .ret => true
  | .seq a b => hasRet a || hasRet b
  | .cond _ a b => hasRet a || hasRet b
  | .block _ b => hasRet b
  | .loop b => hasRet b
  | .scope b => hasRet b
  | _ => false
def hasOut (id : Nat) : Code → Bool
  | .exit j => !(Nat.beq j id)
  | .seq a b => hasOut id a || hasOut id b
  | .cond _ a b => hasOut id a || hasOut id b
  | .block j b => hasOut j b && hasOut id b
  | .loop b => hasOut id b
  | .scope b => hasOut id b
  | _ => false
/-- an operation behind its guard -/
def gP (C : Cfg) (Q : Orc) (ny : Bool) (all : List Oper) (o : Oper) : Prog Unit := match o.guard with
  | none => opP C Q ny all o
  | some (j, want) => match guardDst all j with
    | some d => .env d fun v => match v with
      | .un => skipP o
      | .c x => .look _ (lB x) fun b => match b == want with | true => opP C Q ny all o | false => skipP o
      | _ => .fail
    | none => .fail
/-- some of a region's operations, in this order -/
def runIx {R : Type} (C : Cfg) (Q : Orc) (ny : Bool) (ops : Array Oper) : List Nat → S → O → (S → O → Option R) → Option R
  | [], s, w, K => K s w
  | i :: l, s, w, K => match ops[i]? with
    | some o => (gP C Q ny ops.toList o).run s w ⟨[], []⟩ fun _ s w _ => runIx C Q ny ops l s w K
    | none => none
/-- four operations, of which the second and the third may change places -/
def chOk (ops : Array Oper) : Bool := Nat.beq ops.size 4 && Region.ready .any ops #[false, false, false, false] == [0] && Region.ready .any ops #[true, false, false, false] == [1, 2] && Region.ready .any ops #[true, true, false, false] == [2] &&
  Region.ready .any ops #[true, false, true, false] == [1] && Region.ready .any ops #[true, true, true, false] == [3] && Region.ready .any ops #[true, true, true, true] == []
/-- a region with a free choice, whose two ways come together behind what follows it -/
def chOf (C : Cfg) (fid : Nat) (a : Code) : Option (Array Oper × List (Nat × Nat) × List (Nat × List Nat) × List Nat) := match a with
  | .region id ops true => (match C.loop fid (1000000 + id) with | some h => cond (chOk ops) (some (ops, h)) none | none => none)
  | _ => none
def noO (w : O) : Bool := match w with | [] => true | _ => false
/-- the two ways' states, by one template -/
def meetT {R : Type} (h : List (Nat × Nat) × List (Nat × List Nat) × List Nat) (gen : Nat) (sA : S) (wA : O) (sB : S) (wB : O) (K : S → O → Option R) : Option R := match mkT sA h with
  | some T => chk T.ok (T.back.run sA wA ⟨[], []⟩ fun _ sA wA _ => T.back.run sB wB ⟨[], []⟩ fun _ sB wB _ => match T.out sA with
    | some xs => (match T.out sB with
      | some ys => chk (sameCVs (sameCV 64) xs ys && sameO wA wB) (K (T.st gen xs) wA)
      | none => none)
    | none => none)
  | none => none
/-- a loop's answer, in the shape that is expected -/
def conR {R : Type} (h : Option (List Sp × List Sp × List Bsp)) (r : LR) (K : LR → Option R) : Option R := match h with
  | none => K r
  | some (l, m, b) => (match r with
    | .brk ys w => chk (confL l ys && confO b w) (K (.brk (canonL l ys) (canonO b w)))
    | .exi j ys w => chk (confL l ys && confO b w) (K (.exi j (canonL l ys) (canonO b w)))
    | .ret rs w => chk (confA m rs && confO b w) (K (.ret (canonA m rs) (canonO b w))))
def evCode {R : Type} (C : Cfg) (Q : Orc) (fid : Nat) : Code → S → O → (Ex → S → O → Option R) → Option R
  | .skip, s, w, K => K .normal s w
  | .region id ops draw, s, w, K => evRegion C Q fid id ops draw s w fun s w => K .normal s w
  | .seq a b, s, w, K => match chOf C fid a with
    | some (ops, h) => runIx C Q (C.nily fid) ops [0, 1, 2, 3] s w fun sA wA => evCode C Q fid b sA wA fun e sA wA => (match e with
      | .normal => runIx C Q (C.nily fid) ops [0, 2, 1, 3] s w fun sB wB => evCode C Q fid b sB wB fun e sB wB => (match e with
        | .normal => meetT h s.gen sA wA sB wB (K .normal)
        | _ => none)
      | _ => none)
    | none => evCode C Q fid a s w fun e s w => match e with
      | .normal => evCode C Q fid b s w K
      | .exit j => K (.exit j) s w
      | .ret => K .ret s w
      | .retv rs => K (.retv rs) s w
  | .cond c a b, s, w, K => (match c with
    | .tmp t => (match s.env t with
      | some (.c x) => x.ifB (evCode C Q fid a s w K) (evCode C Q fid b s w K)
      | _ => none)
    | .const (.bool t) => ifb t (evCode C Q fid a s w K) (evCode C Q fid b s w K)
    | _ => none)
  | .block id (.loop b), s, w, K => (match C.loop fid id with
    | some h => (frzAll C h.2.2).run s w ⟨[], []⟩ fun _ s w _ => (match mkT s h with
      | some T => chk T.ok (T.back.run s w ⟨[], []⟩ fun _ s w _ => match T.out s with
        | some xs => (match Q.loop fid b id T xs w with
          | some r => conR (C.shl fid id) r fun r => (match r with
            | .brk ys w => K .normal (T.st s.gen ys) w
            | .exi j ys w => (match hasOut id b with | true => K (.exit j) (T.st s.gen ys) w | false => none)
            | .ret rs w => (match hasRet b with | true => K (.retv rs) (T.st s.gen []) w | false => none))
          | none => none)
        | none => none)
      | none => none)
    | none => none)
  | .block id b, s, w, K => evCode C Q fid b s w fun e s w => match e with
    | .normal => K .normal s w
    | .exit j => cond (Nat.beq j id) (K .normal s w) (K (.exit j) s w)
    | .ret => K .ret s w
    | .retv rs => K (.retv rs) s w
  | .exit j, s, w, K => K (.exit j) s w
  | .ret, s, w, K => K .ret s w
  | .scope b, s, w, K => evCode C Q fid b s w K
  | .label _, s, w, K => K .normal s w
  | _, _, _, _ => none
/-- a result's cell, a result: closed, or live -/
def giveC {α : Type} (C : Cfg) (live : Bool) (v : AV) (K : AV → Prog α) : Prog α := match live with
  | true => escape C 8 true v K
  | false => freeze 8 v K
def giveR {α : Type} (C : Cfg) (fl : List Bool) (v : AV) (K : AV → Prog α) : Prog α := match v with
  | .ag cs => eachF (giveC C) fl cs fun vs => K (mkAg vs)
  | v => giveC C (fl.headD false) v K
/-- a function's results -/
def resP {α : Type} (C : Cfg) : List (List Bool) → List ResultVar → (List AV → Prog α) → Prog α
  | _, [], K => K []
  | fl, .tmp t :: r, K => .env t fun v => giveR C (fl.headD []) v fun x => resP C fl.tail r fun xs => K (x :: xs)
  | fl, .cell a t :: r, K => .env a fun p => tyP C t fun i => evLoad i false none p fun v => giveR C (fl.headD []) v fun x => resP C fl.tail r fun xs => K (x :: xs)
def evRes {R : Type} (C : Cfg) (fid : Nat) (l : List ResultVar) (s : S) (w : O) (K : List AV → O → Option R) : Option R := (resP C (C.res fid) l .ret).run s w ⟨[], []⟩ fun xs _ w _ => K xs w
/-- one round of a loop, and what follows -/
def evLoop (C : Cfg) (Q : Orc) (fid : Nat) (b : Code) (id : Nat) (T : Tmpl) (xs : List CV) (w : O) : Option LR :=
  evCode C Q fid b (T.st 0 xs) w fun e s w => match e with
    | .ret => (match C.fn fid with | some fn => evRes C fid fn.results.toList s w fun rs w => some (.ret rs w) | none => none)
    | .retv rs => some (.ret rs w)
    | .normal => T.back.run s w ⟨[], []⟩ fun _ s w _ => (frzEnd (endsOf C fid id)).run s w ⟨[], []⟩ fun _ s w _ => (match T.out s with | some ys => Q.loop fid b id T ys w | none => none)
    | .exit j => T.back.run s w ⟨[], []⟩ fun _ s w _ => (frzEnd (endsOf C fid id)).run s w ⟨[], []⟩ fun _ s w _ => (match T.out s with | some ys => cond (Nat.beq j id) (some (.brk ys w)) (some (.exi j ys w)) | none => none)
def packRes : List AV → AV
  | [x] => x
  | xs => mkTp xs
def inArgs : Nat → List AV → (Nat → Option AV)
  | _, [] => fun _ => none
  | t, v :: vs => upd (inArgs (t + 1) vs) t v
def CV.plain : CV → Bool
  | .int _ _ | .bool _ | .str _ => true
  | .tp [] => true
  | _ => false
def resOk (C : Cfg) (fn : Func) (r : AV) : Bool := match plainRes C fn with | true => (match r with | .c x => x.plain | _ => false) | false => true
/-- it leads to no outer variable from n on -/
def AV.inO (n : Nat) : Nat → AV → Bool
  | 0, _ => false
  | k + 1, v => match v with
    | .po id _ => Nat.blt id n
    | .ol id => Nat.blt id n
    | .oe id _ _ => Nat.blt id n
    | .ov id _ => Nat.blt id n
    | .om id => Nat.blt id n
    | .ag l => l.all (AV.inO n k)
    | .fn _ a b => a.all (AV.inO n k) && b.all (AV.inO n k)
    | .ifc _ x => AV.inO n k x
    | .tp l => l.all (AV.inO n k)
    | .ep _ x _ => AV.inO n k x
    | _ => true
def Blk.inO (n : Nat) : Blk → Bool
  | .box _ cs => cs.all (AV.inO n 8)
  | .iter _ _ => true
  | .lst _ _ => true
  | .fls _ => true
  | .lsp _ _ => true
  | .rls xs => xs.all (AV.inO n 8)
  | .dead => true
  | _ => false
/-- the outer variables that the function was handed; new ones as well, if something leads to them -/
def O.back (o : O) (n : Nat) (r : AV) : O := match Nat.beq o.length n with
  | true => o
  | false => (match AV.inO n 8 r && (o.cut n).all (Blk.inO n) with | true => o.cut n | false => o)
def evEnd {R : Type} (C : Cfg) (fn : Func) (n : Nat) (rs : List AV) (w : O) (K : AV → O → Option R) : Option R := chk (resOk C fn (packRes rs)) (K (packRes rs) (w.back n (packRes rs)))
def evBody (C : Cfg) (Q : Orc) (f : Nat) (args : List AV) (w : O) : Option (AV × O) := match C.fn f with
  | some fn => (match fn.body with
    | some c => evCode C Q f c ⟨inArgs 0 args, fun _ => none, 0⟩ w fun e s w' => (match e with
      | .exit _ => none
      | .retv rs => evEnd C fn w.length rs w' fun r w' => some (r, w')
      | _ => evRes C f fn.results.toList s w' fun rs w' => evEnd C fn w.length rs w' fun r w' => some (r, w'))
    | none => none)
  | none => none
def closed (r : Option (AV × O)) : Option CV := match r with
  | some (r, _) => (match r with | .c x => some x | _ => none)
  | none => none
def twoArgs : List CV → Option (List CV × List CV)
  | [] => none
  | x :: l => match x with
    | .im [] => some (.nils :: l, .em :: l)
    | x => match twoArgs l with | some (a, b) => some (x :: a, x :: b) | none => none
def emptyL : CV → Bool
  | .nils => true
  | .em => true
  | .im [] => true
  | _ => false
def runTwo (run : List CV → Option CV) (xs : List CV) : Option CV := match twoArgs xs with
  | some (a, b) => (match run a, run b with | some x, some y => cond (emptyL x && emptyL y) (some (.im [])) none | _, _ => none)
  | none => run xs
def nilA : AV → Bool
  | .nl => true
  | .c .nils => true
  | _ => false
/-- run with nil and with a list of no elements: the answer is nil, or a new list of no elements -/
def runTwoA (run : List AV → O → Option (AV × O)) (xs : List AV) (w : O) : Option (AV × O) := match allCC xs with
  | some zs => (match twoArgs zs with
    | some (a, b) => (match run (a.map AV.c) [], run (b.map AV.c) [] with
      | some (x, _), some (.ol 0, [.lst m []]) => cond (nilA x && Nat.blt 0 m) (some (.ol w.length, .lst m [] :: w)) none
      | _, _ => none)
    | none => run xs w)
  | none => run xs w
/-- what is known of a function at these arguments -/
def prmOf (C : Cfg) (f : Nat) (xs : List CV) : Option CV := match C.prm f with | some p => p xs | none => none
/-- by fuel -/
def orc (C : Cfg) : Nat → Orc
  | 0 => ⟨fun _ _ => none, fun _ _ _ => none, fun _ _ _ _ _ _ => none⟩
  | n + 1 => ⟨fun f xs => match prmOf C f xs with | some r => some r | none => cond (C.two f) (runTwo (fun xs => closed (evBody C (orc C n) f (xs.map AV.c) [])) xs) (closed (evBody C (orc C n) f (xs.map AV.c) [])),
      fun f as_ w => cond (C.two f) (runTwoA (fun xs w => evBody C (orc C n) f xs w) as_ w) (evBody C (orc C n) f as_ w),
      fun f b id T xs w => evLoop C (orc C n) f b id T xs w⟩

/-! ### A place's tables: rows of sixteen -/
def tab {α : Type} (rows : List (List α)) (n : Nat) : Option α := match rows[n / 16]? with | some r => r[n % 16]? | none => none
def zeroCV : Value → Option CV
  | .agg cs => match cvsOf cs.toList with | some xs => some (.ag xs) | none => none
  | .tuple vs => match vs.toList with
    | [.agg cs, y] => (match cvsOf cs.toList, cvOf y with | some xs, some y => some (.tp [.ag xs, y]) | _, _ => none)
    | [x, y] => (match cvOf x, cvOf y with | some x, some y => some (.tp [x, y]) | _, _ => none)
    | _ => none
  | v => cvOf v
def tdOf : TypeDesc → TD
  | .int k => .int k
  | .bool => .bool
  | .string => .str
  | .pointer _ => .ptr
  | .slice e => .slice e
  | .array n e => .array n e
  | .map k e => .map k e
  | .struct fs => .struct (fs.toList.map fun f => (f.offset, f.type))
  | .func .. => .fn
  | .interface _ => .ifc
  | _ => .other
def elOf : TypeDesc → Option Nat
  | .pointer e => some e
  | _ => none
def methOf (i : TypeInfo) (name : String) : Option (Nat × Bool) := match i.methods.find? (·.name == name) with
  | some m => (match m.path.isEmpty with | true => m.func | false => none)
  | none => none
def mkTI (info : Nat → Option TypeInfo) (t : Nat) : Option TI := match info t with
  | some i => (match i.desc with
    | .named _ u => (match info u with | some j => some ⟨i.size, i.bytes, tdOf j.desc, i.zero.bind zeroCV, elOf j.desc, methOf i⟩ | none => none)
    | d => some ⟨i.size, i.bytes, tdOf d, i.zero.bind zeroCV, elOf d, methOf i⟩)
  | none => none
/-- strings.Fields, of bytes that are no blanks beyond ASCII -/
def isBlank (b : UInt8) : Bool := b == 32 || b == 9 || b == 10 || b == 11 || b == 12 || b == 13
def fieldsL : List UInt8 → List UInt8 → List (List UInt8)
  | [], [] => []
  | [], acc => [acc.reverse]
  | b :: l, acc => cond (isBlank b) (match acc with | [] => fieldsL l [] | _ => acc.reverse :: fieldsL l []) (fieldsL l (b :: acc))
def pFields : List CV → Option CV
  | [.str s] => cond (s.data.toList.all fun b => b < 128) (some (.im ((fieldsL s.data.toList []).map fun l => .str ⟨l.toArray⟩))) none
  | _ => none
def strsOf : List CV → Option (List (List UInt8))
  | [] => some []
  | .str s :: l => match strsOf l with | some r => some (s.data.toList :: r) | none => none
  | _ => none
def toStrs (l : List (List UInt8)) : List CV := l.map fun l => .str ⟨l.toArray⟩
def insStr (x : List UInt8) : List (List UInt8) → List (List UInt8)
  | [] => [x]
  | y :: l => cond (Op.bytesLess y x) (y :: insStr x l) (x :: y :: l)
def sortStr : List (List UInt8) → List (List UInt8)
  | [] => []
  | x :: l => insStr x (sortStr l)
def dedup : List (List UInt8) → List (List UInt8)
  | x :: y :: l => cond (x == y) (dedup (y :: l)) (x :: dedup (y :: l))
  | l => l
def pSort (l : List CV) : Option (List CV) := match strsOf l with | some r => some (toStrs (sortStr r)) | none => none
def pCompact (l : List CV) : Option (List CV) := match strsOf l with | some r => some (toStrs (dedup r)) | none => none
/-- strings.Join -/
def joinB (sep : List UInt8) : List (List UInt8) → List UInt8
  | [] => []
  | [x] => x
  | x :: l => x ++ (sep ++ joinB sep l)
def pJoin : List CV → Option CV
  | [x, .str sep] => x.lst fun xs => match strsOf xs with
    | some r => cond (Nat.ble r.length 140737488355328 && Nat.ble (joinB sep.data.toList r).length 140737488355328) (some (.str ⟨⟨joinB sep.data.toList r⟩⟩)) none
    | none => none
  | _ => none
def pClone : List CV → Option CV
  | [x] => x.lst fun xs => some (.im xs)
  | _ => none
def mkCfg (prm : List (Nat × (List CV → Option CV))) (types : List (List TypeInfo)) (funcs : List (List Func)) (opn : List (Nat × List Bool)) (res : List (Nat × List (List Bool))) (nily two : List Nat) (join : List (List (List (Nat × List Nat))))
    (loop : List (List (List (Nat × List (Nat × Nat) × List (Nat × List Nat) × List Nat)))) : Cfg :=
  { fn := tab funcs, prm := fun f => prm.lookup f, ty := mkTI (tab types), opn := fun f => opn.lookup f, res := fun f => (res.lookup f).getD [], nily := fun f => nily.contains f, two := fun f => two.contains f,
    join := fun f r => (tab join f).bind (·.lookup r), blur := fun _ => false, loop := fun f b => (tab loop f).bind (·.lookup b), shp := fun _ => none, shl := fun _ _ => none, shq := fun _ => none }
/-- with functions of whose answers lengths alone are told -/
def withBl (C : Cfg) (l : List Nat) : Cfg := { C with blur := fun f => l.contains f }
/-- with shapes -/
def withSh (C : Cfg) (shp : List (Nat × Shp)) (shl : List ((Nat × Nat) × (List Sp × List Sp × List Bsp))) (shq : List (Nat × (Asp × List Bsp)) := []) : Cfg := { C with shp := fun f => shp.lookup f, shq := fun f => shq.lookup f, shl := fun f b => match shl.find? (fun p => Nat.beq p.1.1 f && Nat.beq p.1.2 b) with | some p => some p.2 | none => none }
end Go.Ev
/- What the interpreter's values stand for in the model's world. -/
namespace Go.Ev
open Go Go.RowKit
variable [Glob]

/-- Cells from an address on. -/
def MemAt (w : World) (r off : Nat) (vs : List Value) : Prop := ∀ (k : Nat) (v : Value), vs[k]? = some v → w.cell? ⟨r, off + k, none⟩ = some v ∧ v.oneCell' = true
/-- Each of them fills one cell. -/
def Flat (vs : List Value) : Prop := ∀ (k : Nat) (v : Value), vs[k]? = some v → v.oneCell' = true
/-- What has a block of its own. -/
inductive Key where
  | own (b : Nat) | out (id : Nat) | hl (id j : Nat) | el (b k : Nat)
/-- What a block is: never written any more; not ours; ours; its first n cells are never written any more, and it is not ours, or ours. -/
inductive Role where
  | imm | no | key (k : Key) | pre (n : Nat) | keyp (n : Nat) (k : Key)
/-- its first hi cells are not written any more -/
def Role.holds (R : Role) (hi : Nat) : Prop := match R with
  | .imm => True
  | .pre n => hi ≤ n
  | .keyp n _ => hi ≤ n
  | _ => False
def Role.kept (R : Role) : Prop := match R with
  | .no => False
  | .key _ => False
  | _ => True
theorem Role.holds.kept {R : Role} {hi : Nat} (h : R.holds hi) : R.kept := by cases R <;> first | exact h.elim | trivial
theorem Role.holds.le {R : Role} {hi lo : Nat} (h : R.holds hi) (hl : lo ≤ hi) : R.holds lo := by cases R <;> first | exact h.elim | trivial | exact Nat.le_trans hl h
theorem Role.kept.no {R : Role} (h : R.kept) : R ≠ .no := by rintro rfl; exact h
theorem Role.kept.key {R : Role} (h : R.kept) (k : Key) : R ≠ .key k := by rintro rfl; exact h
theorem Role.kept.keys {R : Role} (h : R.kept) : ∀ k, R ≠ .key k := fun k => h.key k
theorem Role.imm_kept {R : Role} (h : R = .imm) : R.kept := by rw [h]; trivial

def CV.cellsB (a : Bool) (x : CV) : List CV := cond a x.cells [x]
mutual
/-- A closed value stands for a value of the model, in memory that never changes. -/
inductive VR (w : World) (I : Nat → Role) : CV → Value → Prop where
  | int (k : IntKind) (n : Int) : VR w I (.int k n) (.int k n)
  | bool (b : Bool) : VR w I (.bool b) (.bool b)
  | str (s : ByteArray) : VR w I (.str s) (.string s)
  | nilp : VR w I .nilp (.pointer none)
  | nils : VR w I .nils (.slice none 0 0)
  | nilf : VR w I .nilf .nilFunc
  | nili : VR w I .nili .nilIface
  | nilm : VR w I .nilm (.map none)
  | ep (a : Bool) (x : CV) (o r off : Nat) (vs : List Value) : VRs w I (x.cellsB a) vs → (I r).holds (off + vs.length) → MemAt w r off vs → VR w I (.ep a x o) (.pointer (some ⟨r, off + o, none⟩))
  | im0 : VR w I (.im []) (.slice none 0 0)
  /-- without room: it may lie anywhere -/
  | imz (a : Addr) : VR w I (.im []) (.slice (some a) 0 0)
  | emz (a : Addr) : VR w I .em (.slice (some a) 0 0)
  | im (xs : List CV) (r off cap m : Nat) (vs : List Value) : VRs w I (xs.flatMap CV.cells) vs → (∀ x, x ∈ xs → x.cells.length = m) → (I r).holds (off + vs.length) → MemAt w r off vs → xs.length ≤ cap →
      VR w I (.im xs) (.slice (some ⟨r, off, none⟩) xs.length cap)
  | em (r off cap : Nat) : (I r).holds off → VR w I .em (.slice (some ⟨r, off, none⟩) 0 cap)
  | ln (n cap : Nat) (ad : Option Addr) : VR w I (.ln n) (.slice ad n cap)
  | ic (xs : List CV) (ad : Option Addr) : VR w I (.im xs) (.slice ad xs.length xs.length) → VR w I (.ic xs) (.slice ad xs.length xs.length)
  | fn (f : Fn) (a b : List CV) (as_ bs : List Value) : VRs w I a as_ → VRs w I b bs → VR w I (.fn f a b) (.func f as_.toArray bs.toArray)
  | ifc (t : Nat) (x : CV) (v : Value) : VR w I x v → VR w I (.ifc t x) (.iface t v)
  | ag (cs : List CV) (vs : List Value) : VRs w I cs vs → Flat vs → VR w I (.ag cs) (.agg vs.toArray)
  | tp (cs : List CV) (vs : List Value) : VRs w I cs vs → VR w I (.tp cs) (.tuple vs.toArray)
inductive VRs (w : World) (I : Nat → Role) : List CV → List Value → Prop where
  | nil : VRs w I [] []
  | cons (x : CV) (v : Value) (xs : List CV) (vs : List Value) : VR w I x v → VRs w I xs vs → VRs w I (x :: xs) (v :: vs)
end

theorem VR.ic_im {w : World} {I : Nat → Role} {xs : List CV} {v : Value} (h : VR w I (.ic xs) v) : VR w I (.im xs) v ∧ ∃ ad, v = .slice ad xs.length xs.length := by
  cases h with
  | ic _ ad h => exact ⟨h, ad, rfl⟩
/-- What is never written stays as it is. -/
def Stays (I J : Nat → Role) (w w' : World) : Prop := ∀ r hi, (I r).holds hi → (J r).holds hi ∧ (I r = .imm → J r = .imm) ∧ ∀ c, c < hi → w'.cell? ⟨r, c, none⟩ = w.cell? ⟨r, c, none⟩
theorem Stays.mk {I J : Nat → Role} {w w' : World} (h : ∀ r, (I r).kept → w'.heap[r]? = w.heap[r]? ∧ J r = I r) : Stays I J w w' := fun r hi hr => by
  obtain ⟨h1, h2⟩ := h r hr.kept
  rw [h2]
  exact ⟨hr, id, fun c _ => World.cell?_of_block (w := w) (a := ⟨r, c, none⟩) h1⟩
/-- where no block turns -/
theorem Stays.up {I J : Nat → Role} {w : World} (h : ∀ r hi, (I r).holds hi → (J r).holds hi ∧ (I r = .imm → J r = .imm)) : Stays I J w w := fun r hi hr => ⟨(h r hi hr).1, (h r hi hr).2, fun _ _ => rfl⟩
theorem Stays.refl (I : Nat → Role) (w : World) : Stays I I w w := .up fun _ _ h => ⟨h, id⟩
theorem Stays.imm {I J : Nat → Role} {w w' : World} (h : Stays I J w w') {r : Nat} (hr : I r = .imm) : J r = .imm := (h r 0 (by rw [hr]; trivial)).2.1 hr
theorem Stays.trans {I J L : Nat → Role} {a b c : World} (h : Stays I J a b) (k : Stays J L b c) : Stays I L a c := fun r hi hr => by
  obtain ⟨h1, h2, h3⟩ := h r hi hr
  obtain ⟨k1, k2, k3⟩ := k r hi h1
  exact ⟨k1, fun e => k2 (h2 e), fun q hq => (k3 q hq).trans (h3 q hq)⟩

theorem MemAt.same {w w' : World} {r off : Nat} {vs : List Value} (h : MemAt w r off vs) (hs : w'.heap[r]? = w.heap[r]?) : MemAt w' r off vs :=
  fun k v hk => ⟨(World.cell?_of_block (w := w) (a := ⟨r, off + k, none⟩) hs).trans (h k v hk).1, (h k v hk).2⟩
theorem MemAt.cells {w w' : World} {r off : Nat} {vs : List Value} (h : MemAt w r off vs) (hs : ∀ c, c < off + vs.length → w'.cell? ⟨r, c, none⟩ = w.cell? ⟨r, c, none⟩) : MemAt w' r off vs :=
  fun k v hk => ⟨(hs (off + k) (by have := (List.getElem?_eq_some_iff.mp hk).1; omega)).trans (h k v hk).1, (h k v hk).2⟩
theorem MemAt.stays {w w' : World} {I J : Nat → Role} {r off : Nat} {vs : List Value} (h : MemAt w r off vs) (hs : Stays I J w w') (hr : (I r).holds (off + vs.length)) : MemAt w' r off vs := h.cells (hs r _ hr).2.2

mutual
theorem VR.mono {w w' : World} {I J : Nat → Role} (hs : Stays I J w w') : ∀ {x : CV} {v : Value}, VR w I x v → VR w' J x v
  | _, _, .int k n => .int k n
  | _, _, .bool b => .bool b
  | _, _, .str s => .str s
  | _, _, .nilp => .nilp
  | _, _, .nils => .nils
  | _, _, .nilf => .nilf
  | _, _, .nili => .nili
  | _, _, .nilm => .nilm
  | _, _, .ep a x o r off vs h hr hm => .ep a x o r off vs (VRs.mono hs h) (hs r _ hr).1 (hm.stays hs hr)
  | _, _, .im0 => .im0
  | _, _, .imz a => .imz a
  | _, _, .emz a => .emz a
  | _, _, .im xs r off cap m vs h hz hr hm hc => .im xs r off cap m vs (VRs.mono hs h) hz (hs r _ hr).1 (hm.stays hs hr) hc
  | _, _, .em r off cap hr => .em r off cap (hs r _ hr).1
  | _, _, .ln n cap ad => .ln n cap ad
  | _, _, .ic xs ad h => .ic xs ad (h.mono hs)
  | _, _, .fn f a b as_ bs h h' => .fn f a b as_ bs (VRs.mono hs h) (VRs.mono hs h')
  | _, _, .ifc t x v h => .ifc t x v (VR.mono hs h)
  | _, _, .ag cs vs h hf => .ag cs vs (VRs.mono hs h) hf
  | _, _, .tp cs vs h => .tp cs vs (VRs.mono hs h)
theorem VRs.mono {w w' : World} {I J : Nat → Role} (hs : Stays I J w w') : ∀ {xs : List CV} {vs : List Value}, VRs w I xs vs → VRs w' J xs vs
  | _, _, .nil => .nil
  | _, _, .cons x v xs vs h h' => .cons x v xs vs (VR.mono hs h) (VRs.mono hs h')
end

/-- Where the interpreter's names stand in the model's memory. -/
structure Gh where
  /-- an own name's block; a list's header; the cells of an element -/
  a : Nat → Nat
  hd : Nat → Value
  m : Nat → Nat
  /-- an outer variable's block -/
  o : Nat → Nat
  /-- an outer list's header; the cells of an element -/
  oh : Nat → Value × Nat
  ohf : ∀ n, (oh n).1.oneCell' = true
  /-- what each block is -/
  I : Nat → Role
  hf : ∀ n, (hd n).oneCell' = true

def AV.cellsA (a : Bool) (x : AV) : List AV := match a, x with
  | true, .ag cs => cs
  | _, x => [x]

/-- a list's header, from element k on -/
def viewOf (k : Nat) (h : Value × Nat) : Value := match h.1 with
  | .slice ad len cap => .slice (if cap = k then ad else ad.map (·.add (k * h.2))) (len - k) (cap - k)
  | v => v
theorem viewOf_one {k : Nat} {h : Value × Nat} (h1 : h.1.oneCell' = true) : (viewOf k h).oneCell' = true := by
  unfold viewOf
  split
  · rfl
  · exact h1
/-- Names in use: own ones, outer ones; what is held of an outer variable's list. -/
structure Used where
  own : Nat → Prop
  out : Nat → Prop
  lo : Nat → Nat → Nat → Value → Prop

/-- the outer ones alone -/
def Used.outer (U : Used) : Used := ⟨fun _ => False, U.out, fun _ _ _ _ => False⟩

mutual
/-- A value stands for a value of the model. -/
inductive AVR (w : World) (G : Gh) (U : Used) : AV → Value → Prop where
  | c (x : CV) (v : Value) : VR w G.I x v → AVR w G U (.c x) v
  | nl : AVR w G U .nl (.slice none 0 0)
  | un : AVR w G U .un undef
  | sl (n : Nat) : U.own n → AVR w G U (.sl n) (G.hd n)
  | le (n i o : Nat) : U.own n → AVR w G U (.le n i o) (.pointer (some ⟨G.a n, i * G.m n + o, none⟩))
  | pt (b o : Nat) : U.own b → AVR w G U (.pt b o) (.pointer (some ⟨G.a b, o, none⟩))
  | po (id o : Nat) : U.out id → AVR w G U (.po id o) (.pointer (some ⟨G.o id, o, none⟩))
  | lo (id o e : Nat) (v : Value) : U.lo id o e v → AVR w G U (.lo id o e) v
  | ol (id : Nat) : U.out id → AVR w G U (.ol id) (G.oh id).1
  | ov (id k : Nat) : U.out id → AVR w G U (.ov id k) (viewOf k (G.oh id))
  | oe (id i o : Nat) : U.out id → AVR w G U (.oe id i o) (.pointer (some ⟨G.o id, i * (G.oh id).2 + o, none⟩))
  | om (id : Nat) : U.out id → AVR w G U (.om id) (.map (some (G.o id)))
  | ag (cs : List AV) (vs : List Value) : AVRs w G U cs vs → Flat vs → AVR w G U (.ag cs) (.agg vs.toArray)
  | fn (f : Fn) (a b : List AV) (as_ bs : List Value) : AVRs w G U a as_ → AVRs w G U b bs → AVR w G U (.fn f a b) (.func f as_.toArray bs.toArray)
  | ifc (t : Nat) (x : AV) (v : Value) : AVR w G U x v → AVR w G U (.ifc t x) (.iface t v)
  | tp (cs : List AV) (vs : List Value) : AVRs w G U cs vs → AVR w G U (.tp cs) (.tuple vs.toArray)
  | ep (a : Bool) (x : AV) (o r off : Nat) (vs : List Value) : AVRs w G U (x.cellsA a) vs → (G.I r).holds (off + vs.length) → MemAt w r off vs → AVR w G U (.ep a x o) (.pointer (some ⟨r, off + o, none⟩))
inductive AVRs (w : World) (G : Gh) (U : Used) : List AV → List Value → Prop where
  | nil : AVRs w G U [] []
  | cons (x : AV) (v : Value) (xs : List AV) (vs : List Value) : AVR w G U x v → AVRs w G U xs vs → AVRs w G U (x :: xs) (v :: vs)
end

/-- What names in use mean does not turn. -/
structure Gh.Keeps (G G' : Gh) (U U' : Used) : Prop where
  a : ∀ n, U.own n → U'.own n ∧ G'.a n = G.a n ∧ G'.hd n = G.hd n ∧ G'.m n = G.m n
  o : ∀ n, U.out n → U'.out n ∧ G'.o n = G.o n
  oh : ∀ n, U.out n → G'.oh n = G.oh n
  lo : ∀ id j e v, U.lo id j e v → U'.lo id j e v

mutual
theorem AVR.mono {w w' : World} {G G' : Gh} {U U' : Used} (hg : G.Keeps G' U U') (hs : Stays G.I G'.I w w') : ∀ {x : AV} {v : Value}, AVR w G U x v → AVR w' G' U' x v
  | _, _, .c x v h => .c x v (h.mono hs)
  | _, _, .nl => .nl
  | _, _, .un => .un
  | _, _, .sl n h => by rw [← (hg.a n h).2.2.1]; exact .sl n (hg.a n h).1
  | _, _, .le n i o h => by rw [← (hg.a n h).2.1, ← (hg.a n h).2.2.2]; exact .le n i o (hg.a n h).1
  | _, _, .pt b o h => by rw [← (hg.a b h).2.1]; exact .pt b o (hg.a b h).1
  | _, _, .po id o h => by rw [← (hg.o id h).2]; exact .po id o (hg.o id h).1
  | _, _, .lo id o e v h => .lo id o e v (hg.lo _ _ _ _ h)
  | _, _, .ol id h => by rw [← hg.oh id h]; exact .ol id (hg.o id h).1
  | _, _, .ov id k h => by rw [← hg.oh id h]; exact .ov id k (hg.o id h).1
  | _, _, .oe id i o h => by rw [← hg.oh id h, ← (hg.o id h).2]; exact .oe id i o (hg.o id h).1
  | _, _, .om id h => by rw [← (hg.o id h).2]; exact .om id (hg.o id h).1
  | _, _, .ag cs vs h hf => .ag cs vs (AVRs.mono hg hs h) hf
  | _, _, .fn f a b as_ bs h h' => .fn f a b as_ bs (AVRs.mono hg hs h) (AVRs.mono hg hs h')
  | _, _, .ifc t x v h => .ifc t x v (AVR.mono hg hs h)
  | _, _, .tp cs vs h => .tp cs vs (AVRs.mono hg hs h)
  | _, _, .ep a x o r off vs h hr hm => .ep a x o r off vs (AVRs.mono hg hs h) (hs r _ hr).1 (hm.stays hs hr)
theorem AVRs.mono {w w' : World} {G G' : Gh} {U U' : Used} (hg : G.Keeps G' U U') (hs : Stays G.I G'.I w w') : ∀ {xs : List AV} {vs : List Value}, AVRs w G U xs vs → AVRs w' G' U' xs vs
  | _, _, .nil => .nil
  | _, _, .cons x v xs vs h h' => .cons x v xs vs (AVR.mono hg hs h) (AVRs.mono hg hs h')
end

theorem VRs.length {w : World} {I : Nat → Role} {xs : List CV} {vs : List Value} (h : VRs w I xs vs) : xs.length = vs.length := by
  induction xs generalizing vs with
  | nil => cases h; rfl
  | cons x xs ih => cases h with | cons _ v _ vs h h' => simp [ih h']
theorem AVRs.length {w : World} {G : Gh} {U : Used} {xs : List AV} {vs : List Value} (h : AVRs w G U xs vs) : xs.length = vs.length := by
  induction xs generalizing vs with
  | nil => cases h; rfl
  | cons x xs ih => cases h with | cons _ v _ vs h h' => simp [ih h']
theorem VRs.get {w : World} {I : Nat → Role} {xs : List CV} {vs : List Value} (h : VRs w I xs vs) {k : Nat} {x : CV} (hk : xs[k]? = some x) : ∃ v, vs[k]? = some v ∧ VR w I x v := by
  induction xs generalizing vs k with
  | nil => simp at hk
  | cons y xs ih => cases h with
    | cons _ v _ vs h h' => cases k with
      | zero => simp at hk; subst hk; exact ⟨v, by simp, h⟩
      | succ k => simp at hk; obtain ⟨u, hu, hr⟩ := ih h' hk; exact ⟨u, by simpa using hu, hr⟩
theorem AVRs.get {w : World} {G : Gh} {U : Used} {xs : List AV} {vs : List Value} (h : AVRs w G U xs vs) {k : Nat} {x : AV} (hk : xs[k]? = some x) : ∃ v, vs[k]? = some v ∧ AVR w G U x v := by
  induction xs generalizing vs k with
  | nil => simp at hk
  | cons y xs ih => cases h with
    | cons _ v _ vs h h' => cases k with
      | zero => simp at hk; subst hk; exact ⟨v, by simp, h⟩
      | succ k => simp at hk; obtain ⟨u, hu, hr⟩ := ih h' hk; exact ⟨u, by simpa using hu, hr⟩
theorem VRs.append {w : World} {I : Nat → Role} {xs ys : List CV} {vs us : List Value} (h : VRs w I xs vs) (h' : VRs w I ys us) : VRs w I (xs ++ ys) (vs ++ us) := by
  induction xs generalizing vs with
  | nil => cases h; simpa using h'
  | cons x xs ih => cases h with | cons _ v _ vs h1 h2 => exact .cons _ _ _ _ h1 (ih h2)
theorem VRs.split {w : World} {I : Nat → Role} {xs ys : List CV} {vs : List Value} (h : VRs w I (xs ++ ys) vs) : ∃ a b, vs = a ++ b ∧ VRs w I xs a ∧ VRs w I ys b := by
  induction xs generalizing vs with
  | nil => exact ⟨[], vs, rfl, .nil, h⟩
  | cons x xs ih => cases h with
    | cons _ v _ vs h1 h2 =>
      obtain ⟨a, b, rfl, ha, hb⟩ := ih h2
      exact ⟨v :: a, b, rfl, .cons _ _ _ _ h1 ha, hb⟩

/-! ### The state -/
/-- A list, the block r its array; by its header. -/
def LstR (w : World) (I : Nat → Role) (k : Key) (r m : Nat) (xs : List CV) (hd : Value) : Prop :=
  (∀ x, x ∈ xs → x.cells.length = m) ∧
  ((hd = .slice none 0 0 ∧ xs = []) ∨
   ∃ (cap : Nat) (vs : List Value) (c : Array Value) (ty : TypeId), hd = .slice (some ⟨r, 0, none⟩) xs.length cap ∧ xs.length ≤ cap ∧ VRs w I (xs.flatMap CV.cells) vs ∧
     I r = .key k ∧ w.heap[r]? = some (.cells c ty (0, 0)) ∧ cap * m ≤ c.size ∧ ∀ (k : Nat) (v : Value), vs[k]? = some v → c[k]? = some v ∧ v.oneCell' = true)
/-- A list whose first elements are not written any more. -/
def LstP (w : World) (I : Nat → Role) (k : Key) (r m : Nat) (xs : List CV) (hd : Value) : Prop :=
  (∀ x, x ∈ xs → x.cells.length = m) ∧
  ((hd = .slice none 0 0 ∧ xs = []) ∨
   ∃ (cap n : Nat) (vs : List Value) (c : Array Value) (ty : TypeId), hd = .slice (some ⟨r, 0, none⟩) xs.length cap ∧ xs.length ≤ cap ∧ VRs w I (xs.flatMap CV.cells) vs ∧
     I r = .keyp n k ∧ n ≤ xs.length * m ∧ w.heap[r]? = some (.cells c ty (0, 0)) ∧ cap * m ≤ c.size ∧ ∀ (k : Nat) (v : Value), vs[k]? = some v → c[k]? = some v ∧ v.oneCell' = true)
/-- A list of references, one cell each, the block r its array; by its header. -/
def RlsR (w : World) (G : Gh) (U : Used) (k : Key) (r : Nat) (xs : List AV) (hd : Value) : Prop :=
  (hd = .slice none 0 0 ∧ xs = []) ∨
   ∃ (cap : Nat) (vs : List Value) (c : Array Value) (ty : TypeId), hd = .slice (some ⟨r, 0, none⟩) xs.length cap ∧ xs.length ≤ cap ∧ AVRs w G U xs vs ∧
     G.I r = .key k ∧ w.heap[r]? = some (.cells c ty (0, 0)) ∧ cap ≤ c.size ∧ ∀ (k : Nat) (v : Value), vs[k]? = some v → c[k]? = some v ∧ v.oneCell' = true
/-- An element of a list of lists: by its header. -/
def ElR (w : World) (G : Gh) (own : Nat → Option Blk) (b m k : Nat) (x : CV) (out : Option (Nat × Nat)) (v : Value) : Prop := match out with
  | some (j, n) => if j = k then (∀ a ys, own n = some (.lst a ys) → a = m ∧ v = G.hd n) ∧ (∀ ys, own n = some (.fls ys) → v = G.hd n) else ∃ ys r, (x = .im ys ∧ LstR w G.I (.el b k) r m ys v)
  | none => ∃ ys r, (x = .im ys ∧ LstR w G.I (.el b k) r m ys v)

/-- It is, or was, a list. -/
def isL : Option Blk → Prop
  | some (.lst _ _) => True
  | some (.fls _) => True
  | some .dead => True
  | some (.movedL _) => True
  | _ => False
/-- An own block. -/
def OwnR (w : World) (G : Gh) (U : Used) (own : Nat → Option Blk) (b : Nat) : Blk → Prop
  | .box agg cs => G.I (G.a b) = .key (.own b) ∧ ∃ (vs : List Value) (ty : TypeId), w.heap[G.a b]? = some (.cells vs.toArray ty (0, 0)) ∧ AVRs w G U cs vs ∧ (agg = false → cs.length = 1) ∧ Flat vs
  | .frz agg cs => G.I (G.a b) = .imm ∧ ∃ (vs : List Value), MemAt w (G.a b) 0 vs ∧ AVRs w G U.outer cs vs ∧ (agg = false → cs.length = 1)
  | .lst m xs => G.m b = m ∧ 0 < m ∧ LstR w G.I (.own b) (G.a b) m xs (G.hd b)
  | .fls xs => VR w G.I (.im xs) (G.hd b) ∧ (∀ x, x ∈ xs → x.cells.length = G.m b) ∧ (xs ≠ [] → ∃ cap, G.hd b = .slice (some ⟨G.a b, 0, none⟩) xs.length cap)
  | .nst m xs out => G.m b = 1 ∧ 0 < m ∧ (∀ j n, out = some (j, n) → isL (own n)) ∧
      ((G.hd b = .slice none 0 0 ∧ xs = []) ∨
       ∃ (cap : Nat) (c : Array Value) (ty : TypeId), G.hd b = .slice (some ⟨G.a b, 0, none⟩) xs.length cap ∧ xs.length ≤ cap ∧ G.I (G.a b) = .key (.own b) ∧ w.heap[G.a b]? = some (.cells c ty (0, 0)) ∧ cap ≤ c.size ∧
         ∀ (k : Nat) (x : CV), xs[k]? = some x → ∃ v, c[k]? = some v ∧ v.oneCell' = true ∧ ElR w G own b m k x out v)
  | .moved id => U.out id ∧ G.a b = G.o id
  | .movedL id => U.out id ∧ G.hd b = (G.oh id).1
  | .dead => True
  | .rls _ => False
  | .map _ _ => False
  | .iter _ _ => False
  | .lsp _ _ => False
/-- A cell of an outer variable. -/
def OutC (w : World) (G : Gh) (U : Used) (id j : Nat) (x : AV) (v : Value) : Prop := match x with
  | .hl m xs => 0 < m ∧ ∃ r, LstR w G.I (.hl id j) r m xs v
  | .un => True
  | x => AVR w G U x v
/-- What outer variables may lead to: no own name. -/
def outU (o : O) : Used := ⟨fun _ => False, fun id => id < o.length, fun _ _ _ _ => False⟩
def used (w : World) (G : Gh) (s : S) (o : O) : Used := ⟨fun n => s.own n ≠ none, fun id => id < o.length, fun id j e v => e ≤ s.gen ∧
  (e = s.gen → ∃ m xs a cs, O.get o id = some (.box a cs) ∧ cs[j]? = some (.hl m xs) ∧ w.cell? ⟨G.o id, j, none⟩ = some v)⟩
/-- An outer block. -/
def OutB (w : World) (G : Gh) (o : O) (id : Nat) : Blk → Prop
  | .box _ cs => ∃ vs ty, G.I (G.o id) = .key (.out id) ∧ w.heap[G.o id]? = some (.cells (List.toArray vs) ty (0, 0)) ∧
      vs.length = cs.length ∧ Flat vs ∧ ∀ (j : Nat) (x : AV), cs[j]? = some x → ∃ v, vs[j]? = some v ∧ OutC w G (outU o) id j x v
  | .lst m xs => (G.oh id).2 = m ∧ 0 < m ∧ LstR w G.I (.out id) (G.o id) m xs (G.oh id).1
  | .fls xs => VR w G.I (.im xs) (G.oh id).1 ∧ (∀ x, x ∈ xs → x.cells.length = (G.oh id).2) ∧ (xs ≠ [] → ∃ cap, (G.oh id).1 = .slice (some ⟨G.o id, 0, none⟩) xs.length cap)
  | .lsp m xs => (G.oh id).2 = m ∧ 0 < m ∧ LstP w G.I (.out id) (G.o id) m xs (G.oh id).1
  | .rls xs => (G.oh id).2 = 1 ∧ RlsR w G (outU o) (.out id) (G.o id) xs (G.oh id).1
  | .dead => True
  | .iter t pos => G.I (G.o id) = .key (.out id) ∧ w.heap[G.o id]? = some (.stringIter t pos)
  | .map ks vs => ∃ (es : Array MapEntry) (clock : Nat), G.I (G.o id) = .key (.out id) ∧ w.heap[G.o id]? = some (.map es clock) ∧ VRs w G.I ks (es.toList.map (·.key)) ∧ AVRs w G (outU o) vs (es.toList.map (·.val))
  | _ => False
def OutR (w : World) (G : Gh) (o : O) (id : Nat) : Prop := ∃ b, O.get o id = some b ∧ OutB w G o id b
theorem OutR.mk' {w : World} {G : Gh} {o : O} {id : Nat} {b : Blk} (h1 : O.get o id = some b) (h2 : OutB w G o id b) : OutR w G o id := ⟨b, h1, h2⟩
/-- An outer variable. -/
theorem OutR.var {w : World} {G : Gh} {o : O} {id : Nat} {agg : Bool} {cs : List AV} (h : OutR w G o id) (hg : O.get o id = some (.box agg cs)) : ∃ vs ty, G.I (G.o id) = .key (.out id) ∧ w.heap[G.o id]? = some (.cells (List.toArray vs) ty (0, 0)) ∧
    vs.length = cs.length ∧ Flat vs ∧ ∀ (j : Nat) (x : AV), cs[j]? = some x → ∃ v, vs[j]? = some v ∧ OutC w G (outU o) id j x v := by
  obtain ⟨b, h1, h2⟩ := h
  rw [hg] at h1; injection h1 with h1; subst h1
  exact h2
theorem OutR.is {w : World} {G : Gh} {o : O} {id : Nat} {b : Blk} (h : OutR w G o id) (hg : O.get o id = some b) : OutB w G o id b := by
  obtain ⟨b', h1, h2⟩ := h
  rw [hg] at h1; injection h1 with h1; subst h1
  exact h2

/-- What package-level variables hold. -/
def Base (w : World) (I : Nat → Role) : Prop := ∀ g p, Glob.glob g = some p → I g = .imm ∧ ∃ vs, MemAt w g 0 vs ∧ VRs w I (CV.cellsB p.1 p.2) vs
theorem Base.mono {w w' : World} {I J : Nat → Role} (h : Base w I) (hs : Stays I J w w') : Base w' J := fun g p hg => by
  obtain ⟨h1, vs, h2, h3⟩ := h g p hg
  exact ⟨hs.imm h1, vs, h2.stays hs (by rw [h1]; trivial), h3.mono hs⟩
/-- The interpreter's state stands for the model's: slots, memory. -/
structure St (w : World) (G : Gh) (s : S) (o : O) (tmps : Array Value) : Prop where
  env : ∀ t v, s.env t = some v → t < tmps.size ∧ AVR w G (used w G s o) v (tmps.getD t undef)
  own : ∀ b k, s.own b = some k → OwnR w G (used w G s o) s.own b k
  out : ∀ id, id < o.length → OutR w G o id
  heap : ∀ r, G.I r ≠ .no → r < w.heap.size
  base : Base w G.I

/-- What a stretch of the run may have turned: blocks that were ours, new ones. -/
structure Ext (I J : Nat → Role) (w w' : World) : Prop where
  os : w'.os = w.os
  tape : w'.tape = w.tape
  output : w'.output = w.output
  size : w.heap.size ≤ w'.heap.size
  block : ∀ r, r < w.heap.size → (∀ k, I r ≠ .key k) → (∀ n k, I r ≠ .keyp n k) → w'.heap[r]? = w.heap[r]? ∧ J r = I r
  part : ∀ r n k, r < w.heap.size → I r = .keyp n k → (J r).holds n ∧ ∀ c, c < n → w'.cell? ⟨r, c, none⟩ = w.cell? ⟨r, c, none⟩
theorem Ext.mk' {I J : Nat → Role} {w w' : World} (h1 : w'.os = w.os) (h2 : w'.tape = w.tape) (h3 : w'.output = w.output) (h4 : w.heap.size ≤ w'.heap.size)
    (h5 : ∀ r, r < w.heap.size → (∀ k, I r ≠ .key k) → w'.heap[r]? = w.heap[r]? ∧ J r = I r) : Ext I J w w' :=
  ⟨h1, h2, h3, h4, fun r hr hn _ => h5 r hr hn, fun r n k hr e => by
    obtain ⟨q1, q2⟩ := h5 r hr (fun k' h => by rw [e] at h; cases h)
    rw [q2, e]
    exact ⟨Nat.le_refl _, fun c _ => World.cell?_of_block (w := w) (a := ⟨r, c, none⟩) q1⟩⟩
theorem Ext.refl (I : Nat → Role) (w : World) : Ext I I w w := .mk' rfl rfl rfl (Nat.le_refl _) fun _ _ _ => ⟨rfl, rfl⟩
theorem Ext.stay {I J : Nat → Role} {w w' : World} (h : Ext I J w w') {r hi : Nat} (hr : r < w.heap.size) (hh : (I r).holds hi) :
    (J r).holds hi ∧ (I r = .imm → J r = .imm) ∧ ∀ c, c < hi → w'.cell? ⟨r, c, none⟩ = w.cell? ⟨r, c, none⟩ := by
  cases e : I r with
  | keyp n k =>
    obtain ⟨q1, q2⟩ := h.part r n k hr e
    rw [e] at hh
    exact ⟨q1.le hh, (fun h => by cases h), fun c hc => q2 c (Nat.lt_of_lt_of_le hc hh)⟩
  | key k => rw [e] at hh; exact hh.elim
  | no => rw [e] at hh; exact hh.elim
  | imm =>
    obtain ⟨q1, q2⟩ := h.block r hr (by rw [e]; simp) (by rw [e]; simp)
    rw [q2]
    exact ⟨hh, fun _ => e, fun c _ => World.cell?_of_block (w := w) (a := ⟨r, c, none⟩) q1⟩
  | pre n =>
    obtain ⟨q1, q2⟩ := h.block r hr (by rw [e]; simp) (by rw [e]; simp)
    rw [q2]
    exact ⟨hh, (fun h => by cases h), fun c _ => World.cell?_of_block (w := w) (a := ⟨r, c, none⟩) q1⟩
theorem Ext.trans {I J L : Nat → Role} {a b c : World} (h : Ext I J a b) (k : Ext J L b c) : Ext I L a c :=
  ⟨k.os.trans h.os, k.tape.trans h.tape, k.output.trans h.output, Nat.le_trans h.size k.size, fun r hr hn hm => by
    obtain ⟨h1, h2⟩ := h.block r hr hn hm
    obtain ⟨k1, k2⟩ := k.block r (Nat.lt_of_lt_of_le hr h.size) (by rw [h2]; exact hn) (by rw [h2]; exact hm)
    exact ⟨k1.trans h1, k2.trans h2⟩, fun r n q hr e => by
    obtain ⟨h1, h2⟩ := h.part r n q hr e
    obtain ⟨k1, _, k2⟩ := k.stay (Nat.lt_of_lt_of_le hr h.size) h1
    exact ⟨k1, fun d hd => (k2 d hd).trans (h2 d hd)⟩⟩
/-- From a state to a later one: what stands for something still does. -/
structure To (w : World) (G : Gh) (s : S) (o : O) (w' : World) (G' : Gh) (s' : S) (o' : O) : Prop where
  ext : Ext G.I G'.I w w'
  keeps : G.Keeps G' (used w G s o) (used w' G' s' o')
  imm : ∀ r, (G.I r).kept → r < w.heap.size
theorem To.stays {w : World} {G : Gh} {s : S} {o : O} {w' : World} {G' : Gh} {s' : S} {o' : O} (h : To w G s o w' G' s' o') : Stays G.I G'.I w w' := fun r _ hr => h.ext.stay (h.imm r hr.kept) hr
theorem To.val {w : World} {G : Gh} {s : S} {o : O} {w' : World} {G' : Gh} {s' : S} {o' : O} (h : To w G s o w' G' s' o') {x : AV} {v : Value} (hv : AVR w G (used w G s o) x v) : AVR w' G' (used w' G' s' o') x v := hv.mono h.keeps h.stays
theorem Gh.Keeps.outer {G G' : Gh} {U U' : Used} (h : G.Keeps G' U U') : G.Keeps G' U.outer U'.outer := ⟨fun _ (h : False) => h.elim, h.o, h.oh, fun _ _ _ _ (h : False) => h.elim⟩
theorem Gh.Keeps.refl (G : Gh) (U : Used) : G.Keeps G U U := ⟨fun _ h => ⟨h, rfl, rfl, rfl⟩, fun _ h => ⟨h, rfl⟩, fun _ _ => rfl, fun _ _ _ _ h => h⟩
theorem Gh.Keeps.trans {G G' G'' : Gh} {U U' U'' : Used} (h : G.Keeps G' U U') (k : G'.Keeps G'' U' U'') : G.Keeps G'' U U'' :=
  ⟨fun n hn => by
    obtain ⟨h1, h2, h3, h4⟩ := h.a n hn
    obtain ⟨k1, k2, k3, k4⟩ := k.a n h1
    exact ⟨k1, k2.trans h2, k3.trans h3, k4.trans h4⟩, fun n hn => by
    obtain ⟨h1, h2⟩ := h.o n hn
    obtain ⟨k1, k2⟩ := k.o n h1
    exact ⟨k1, k2.trans h2⟩, fun n hn => (k.oh n (h.o n hn).1).trans (h.oh n hn), fun _ _ _ _ hv => k.lo _ _ _ _ (h.lo _ _ _ _ hv)⟩
theorem St.imm {w : World} {G : Gh} {s : S} {o : O} {tmps : Array Value} (h : St w G s o tmps) (r : Nat) (hr : (G.I r).kept) : r < w.heap.size := h.heap r hr.no
theorem To.refl {w : World} {G : Gh} {s : S} {o : O} {tmps : Array Value} (h : St w G s o tmps) : To w G s o w G s o := ⟨.refl _ _, .refl _ _, h.imm⟩
theorem To.trans {w : World} {G : Gh} {s : S} {o : O} {w' : World} {G' : Gh} {s' : S} {o' : O} {w'' : World} {G'' : Gh} {s'' : S} {o'' : O} (h : To w G s o w' G' s' o') (k : To w' G' s' o' w'' G'' s'' o'') : To w G s o w'' G'' s'' o'' :=
  ⟨h.ext.trans k.ext, h.keeps.trans k.keeps, h.imm⟩

theorem upd_env {α : Type} (f : Nat → Option α) (t : Nat) (x : α) (u : Nat) : upd f t x u = if u = t then some x else f u := by
  show (cond (Nat.beq u t) (some x) (f u)) = _
  by_cases hu : u = t
  · subst hu; simp
  · have : Nat.beq u t = false := by
      cases hb : Nat.beq u t with
      | false => rfl
      | true => exact absurd (Nat.eq_of_beq_eq_true hb) hu
    simp [this, hu]
/-- A slot is filled. -/
theorem St.put {w : World} {G : Gh} {s : S} {o : O} {tmps : Array Value} (h : St w G s o tmps) {t : Nat} {v : AV} {x : Value} (ht : t < tmps.size) (hv : AVR w G (used w G s o) v x) :
    St w G (s.put t v) o (tmps.setIfInBounds t x) := by
  have hsz : (tmps.setIfInBounds t x).size = tmps.size := by simp
  have hget : ∀ u, (tmps.setIfInBounds t x).getD u undef = if u = t then x else tmps.getD u undef := by
    intro u
    simp only [Array.getD_eq_getD_getElem?, Array.getElem?_setIfInBounds]
    by_cases hu : t = u
    · subst hu; simp [ht]
    · simp [hu, Ne.symm hu]
  refine ⟨?_, h.own, h.out, h.heap, h.base⟩
  intro u y hu
  have hu : upd s.env t v u = some y := hu
  rw [upd_env] at hu
  rw [hsz, hget]
  by_cases e : u = t
  · subst e; rw [if_pos rfl] at hu ⊢; injection hu with hu; subst hu; exact ⟨ht, hv⟩
  · rw [if_neg e] at hu ⊢; exact h.env u y hu
end Go.Ev
/- What it says that a look at a value has gone on. -/
namespace Go.Ev
open Go Go.RowKit
variable [Glob]
section
variable {R : Type} {r : R}
theorem chk_inv {t : Bool} {K : Option R} (h : chk t K = some r) : t = true ∧ K = some r := by cases t <;> first | exact ⟨rfl, h⟩ | cases h
theorem ifb_inv {t : Bool} {a b : Option R} (h : ifb t a b = some r) : (t = true ∧ a = some r) ∨ (t = false ∧ b = some r) := by cases t <;> first | exact .inl ⟨rfl, h⟩ | exact .inr ⟨rfl, h⟩
theorem cond_inv {t : Bool} {a b : Option R} (h : cond t a b = some r) : (t = true ∧ a = some r) ∨ (t = false ∧ b = some r) := by cases t <;> first | exact .inl ⟨rfl, h⟩ | exact .inr ⟨rfl, h⟩
theorem kbeq_eq {a b : IntKind} (h : kbeq a b = true) : a = b := by cases a <;> cases b <;> first | rfl | cases h
theorem intOf_inv {x : CV} {k : IntKind} {K : Int → Option R} (h : x.intOf k K = some r) : ∃ n, x = .int k n ∧ K n = some r := by
  cases x <;> try (cases h)
  rename_i k' n
  obtain ⟨h1, h2⟩ := chk_inv h
  obtain rfl := kbeq_eq h1
  exact ⟨n, rfl, h2⟩
theorem anyInt_inv {x : CV} {K : IntKind → Int → Option R} (h : x.anyInt K = some r) : ∃ k n, x = .int k n ∧ K k n = some r := by cases x <;> first | exact ⟨_, _, rfl, h⟩ | cases h
theorem asB_inv {x : CV} {K : Bool → Option R} (h : x.asB K = some r) : ∃ b, x = .bool b ∧ K b = some r := by cases x <;> first | exact ⟨_, rfl, h⟩ | cases h
theorem ifB_inv {x : CV} {a b : Option R} (h : x.ifB a b = some r) : (x = .bool true ∧ a = some r) ∨ (x = .bool false ∧ b = some r) := by
  cases x <;> try (cases h)
  rename_i t
  rcases ifb_inv h with ⟨rfl, h⟩ | ⟨rfl, h⟩
  · exact .inl ⟨rfl, h⟩
  · exact .inr ⟨rfl, h⟩
theorem asStr_inv {x : CV} {K : ByteArray → Option R} (h : x.asStr K = some r) : ∃ s, x = .str s ∧ K s = some r := by cases x <;> first | exact ⟨_, rfl, h⟩ | cases h
theorem lst_inv {x : CV} {K : List CV → Option R} (h : x.lst K = some r) : ∃ xs, K xs = some r ∧ (x = .im xs ∨ (x = .nils ∧ xs = []) ∨ (x = .em ∧ xs = []) ∨ x = .ic xs) := by
  cases x <;> first | exact ⟨_, h, .inl rfl⟩ | exact ⟨[], h, .inr (.inl ⟨rfl, rfl⟩)⟩ | exact ⟨[], h, .inr (.inr (.inl ⟨rfl, rfl⟩))⟩ | exact ⟨_, h, .inr (.inr (.inr rfl))⟩ | cases h
theorem len_inv {x : CV} {K : Nat → Option R} (h : x.len K = some r) : ∃ n, K n = some r ∧ ((∃ xs, n = xs.length ∧ (x = .im xs ∨ (x = .nils ∧ xs = []) ∨ (x = .em ∧ xs = []) ∨ x = .ic xs)) ∨ x = .ln n) := by
  cases x <;> first | (cases h; done) | skip
  · exact ⟨_, h, .inl ⟨[], rfl, .inr (.inl ⟨rfl, rfl⟩)⟩⟩
  · exact ⟨_, h, .inl ⟨_, rfl, .inl rfl⟩⟩
  · exact ⟨_, h, .inl ⟨[], rfl, .inr (.inr (.inl ⟨rfl, rfl⟩))⟩⟩
  · exact ⟨_, h, .inl ⟨_, rfl, .inr (.inr (.inr rfl))⟩⟩
  · exact ⟨_, h, .inr rfl⟩
theorem open_inv {x : CV} {n : Nat} {K : List CV → Option R} (h : x.open n K = some r) : ∃ cs, x = .ag cs ∧ cs.length = n ∧ K cs = some r := by
  cases x <;> try (cases h)
  obtain ⟨h1, h2⟩ := chk_inv h
  exact ⟨_, rfl, Nat.eq_of_beq_eq_true h1, h2⟩
theorem ld_inv {x : CV} {o : Nat} {K : CV → Option R} (h : x.ld o K = some r) : ∃ y, x.cells[o]? = some y ∧ K y = some r := by
  cases x
  case ag cs =>
    simp only [CV.ld] at h
    cases hc : cs[o]? with
    | none => rw [hc] at h; cases h
    | some y => rw [hc] at h; exact ⟨y, hc, h⟩
  all_goals
    simp only [CV.ld] at h
    rcases cond_inv h with ⟨h1, h2⟩ | ⟨_, h2⟩
    · obtain rfl := Nat.eq_of_beq_eq_true h1
      exact ⟨_, by simp [CV.cells], h2⟩
    · cases h2
theorem ldAg_inv {x : CV} {o n : Nat} {K : CV → Option R} (h : x.ldAg o n K = some r) : ∃ cs, x = .ag cs ∧ o + n ≤ cs.length ∧ K (.ag ((cs.drop o).take n)) = some r := by
  cases x <;> try (cases h)
  rename_i cs
  obtain ⟨h1, h2⟩ := chk_inv h
  have hle := Nat.le_of_ble_eq_true h1
  refine ⟨cs, rfl, hle, ?_⟩
  simp only [CV.subAg] at h2
  cases hb : (Nat.beq o 0 && Nat.beq cs.length n) with
  | true =>
    rw [hb] at h2
    simp only [Bool.and_eq_true] at hb
    obtain rfl := Nat.eq_of_beq_eq_true hb.1
    have := Nat.eq_of_beq_eq_true hb.2
    rw [List.drop_zero, List.take_of_length_le (by omega)]
    exact h2
  | false => rw [hb] at h2; exact h2
theorem nth_inv {xs : List CV} {i : Int} {K : CV → Option R} (h : nth xs i K = some r) : ∃ n x, i = (n : Nat) ∧ xs[n]? = some x ∧ K x = some r := by
  cases i with
  | ofNat n =>
    simp only [nth] at h
    cases hx : xs[n]? with
    | none => rw [hx] at h; cases h
    | some x => rw [hx] at h; exact ⟨n, x, rfl, hx, h⟩
  | negSucc n => cases h
theorem upto_inv {i : Int} {m : Nat} {K : Nat → Option R} (h : upto i m K = some r) : ∃ n : Nat, i = (n : Nat) ∧ n ≤ m ∧ K n = some r := by
  cases i with
  | ofNat n => obtain ⟨h1, h2⟩ := chk_inv h; exact ⟨n, rfl, Nat.le_of_ble_eq_true h1, h2⟩
  | negSucc n => cases h
theorem idx_inv {i : Int} {m : Nat} {K : Nat → Option R} (h : ixOf i m K = some r) : ∃ n : Nat, i = (n : Nat) ∧ n < m ∧ K n = some r := by
  cases i with
  | ofNat n => obtain ⟨h1, h2⟩ := chk_inv h; exact ⟨n, rfl, Nat.le_of_ble_eq_true h1, h2⟩
  | negSucc n => cases h
end

/-! ### Types -/
/-- What the interpreter takes a type for is what the program's table says. -/
structure TyIs (P : Program) (t : Nat) (i : TI) : Prop where
  info : ∃ ti, P.info? t = some ti ∧ ti.size = i.size ∧ ti.bytes = i.bytes ∧ (∀ z, i.zero = some z → ∃ v, ti.zero = some v ∧ zeroCV v = some z)
  under : ∃ d, P.underlying t = some d ∧ tdOf d = i.td
  el : ∀ e, i.el = some e → P.underlying t = some (.pointer e)
  meth : ∃ ti, P.info? t = some ti ∧ i.meth = methOf ti
theorem elOf_is {d : TypeDesc} {e : Nat} (h : elOf d = some e) : d = .pointer e := by
  cases d <;> simp only [elOf] at h <;> first | (injection h with h; rw [h]) | cases h
def TyOk (P : Program) (C : Cfg) : Prop := ∀ t i, C.ty t = some i → TyIs P t i
theorem mkTI_is {P : Program} {info : Nat → Option TypeInfo} (h : ∀ t i, info t = some i → P.info? t = some i) : ∀ t i, mkTI info t = some i → TyIs P t i := by
  intro t i hi
  unfold mkTI at hi
  split at hi
  · rename_i ti hti
    have hP := h t ti hti
    have hzero : ∀ z, ti.zero.bind zeroCV = some z → ∃ v, ti.zero = some v ∧ zeroCV v = some z := by
      intro z hz
      cases hv : ti.zero with
      | none => rw [hv] at hz; cases hz
      | some v => rw [hv] at hz; exact ⟨v, rfl, hz⟩
    split at hi
    · rename_i nm u hd
      split at hi
      · rename_i j hj
        injection hi with hi
        subst hi
        have hund : P.underlying t = some j.desc := by
          obtain ⟨d, s1, s2, s3, s4, s5, s6, s7, s8, s9⟩ := ti
          simp only at hd
          subst hd
          simp only [Program.underlying, hP]
          rw [h u j hj]
          rfl
        exact ⟨⟨ti, hP, rfl, rfl, hzero⟩, ⟨j.desc, hund, rfl⟩, fun e he => by rw [hund, elOf_is (show elOf j.desc = some e from he)], ⟨ti, hP, rfl⟩⟩
      · cases hi
    · rename_i d hd
      injection hi with hi
      subst hi
      have hund : P.underlying t = some ti.desc := by
        simp only [Program.underlying, hP]
        obtain ⟨d', s1, s2, s3, s4, s5, s6, s7, s8, s9⟩ := ti
        simp only at hd
        cases d' <;> first | rfl | exact absurd rfl (hd _ _)
      exact ⟨⟨ti, hP, rfl, rfl, hzero⟩, ⟨ti.desc, hund, rfl⟩, fun e he => by rw [hund, elOf_is (show elOf ti.desc = some e from he)], ⟨ti, hP, rfl⟩⟩
  · cases hi
/-! ### Runs of programs -/
section
variable {α R : Type} {r : R} {s : S} {w : O} {l : Log} {F : α → S → O → Log → Option R}
/-- an operand's value -/
def opdS (ny : Bool) (s : S) : Operand → Option AV
  | .tmp t => s.env t
  | .const v => constAV ny v
  | .func f => some (.c (.fn (.func f) [] []))
  | .global g => (match Glob.glob g with | some p => some (.c (.ep p.1 p.2 0)) | none => none)
def opdsS (ny : Bool) (s : S) : List Operand → List AV → Prop
  | [], [] => True
  | x :: xs, v :: vs => opdS ny s x = some v ∧ opdsS ny s xs vs
  | _, _ => False
theorem pchk_inv {t : Bool} {p : Prog α} (h : (pchk t p).run s w l F = some r) : t = true ∧ p.run s w l F = some r := chk_inv (K := p.run s w l F) h
theorem popt_inv {β : Type} {x : Option β} {k : β → Prog α} (h : (popt x k).run s w l F = some r) : ∃ y, x = some y ∧ (k y).run s w l F = some r := by
  cases x with
  | none => exact absurd h (by simp [popt, Prog.run, lOpt])
  | some y => exact ⟨y, rfl, h⟩
theorem env_inv {t : Nat} {k : AV → Prog α} (h : (Prog.env t k).run s w l F = some r) : ∃ v, s.env t = some v ∧ (k v).run s w (l.r (.slot t)) F = some r := by
  simp only [Prog.run] at h
  split at h
  · exact ⟨_, by assumption, h⟩
  · cases h
theorem rd_inv {ny : Bool} {x : Operand} {k : AV → Prog α} (h : (rd ny x k).run s w l F = some r) : ∃ v l', opdS ny s x = some v ∧ (k v).run s w l' F = some r := by
  cases x with
  | tmp t => obtain ⟨v, h1, h2⟩ := env_inv (k := k) h; exact ⟨v, _, h1, h2⟩
  | const u =>
    simp only [rd] at h
    split at h
    · exact ⟨_, _, by assumption, h⟩
    · cases h
  | global g =>
    simp only [rd] at h
    split at h
    · rename_i p hp
      exact ⟨_, _, by simp only [opdS, hp], h⟩
    · cases h
  | func f => exact ⟨_, _, rfl, h⟩
theorem cv_inv {v : AV} {k : CV → Prog α} (h : (v.cv k).run s w l F = some r) : ∃ x, v = .c x ∧ (k x).run s w l F = some r := by cases v <;> first | exact ⟨_, rfl, h⟩ | cases h
theorem rdc_inv {ny : Bool} {x : Operand} {k : CV → Prog α} (h : (rdc ny x k).run s w l F = some r) : ∃ v l', opdS ny s x = some (.c v) ∧ (k v).run s w l' F = some r := by
  obtain ⟨v, l', h1, h2⟩ := rd_inv h
  obtain ⟨x, rfl, h3⟩ := cv_inv h2
  exact ⟨x, l', h1, h3⟩
theorem rds_inv {ny : Bool} : ∀ {xs : List Operand} {k : List AV → Prog α} {l : Log}, (rds ny xs k).run s w l F = some r →
    ∃ vs l', opdsS ny s xs vs ∧ (k vs).run s w l' F = some r
  | [], k, l, h => ⟨[], l, trivial, h⟩
  | x :: xs, k, l, h => by
    obtain ⟨v, l1, h1, h2⟩ := rd_inv h
    obtain ⟨vs, l2, h3, h4⟩ := rds_inv h2
    exact ⟨v :: vs, l2, ⟨h1, h3⟩, h4⟩
theorem tyP_inv {C : Cfg} {t : Nat} {k : TI → Prog α} (h : (tyP C t k).run s w l F = some r) : ∃ i, C.ty t = some i ∧ (k i).run s w l F = some r := by
  unfold tyP at h; split at h
  · exact ⟨_, by assumption, h⟩
  · cases h
theorem zeroOf_inv {i : TI} {k : CV → Prog α} (h : (zeroOf i k).run s w l F = some r) : ∃ z, i.zero = some z ∧ (k z).run s w l F = some r := by
  unfold zeroOf at h; split at h
  · exact ⟨_, by assumption, h⟩
  · cases h
theorem newL_inv {d : Option Nat} {b : Blk} {k : AV → Prog α} (h : (newL d b k).run s w l F = some r) : ∃ e l', d = some e ∧ s.own e = none ∧ b.pos = true ∧ (k (.sl e)).run (s.blk e b) w l' F = some r := by
  unfold newL at h; split at h
  · simp only [Prog.run] at h
    split at h
    · obtain ⟨hp, h⟩ := pchk_inv h
      exact ⟨_, _, rfl, by assumption, hp, h⟩
    · cases h
  · cases h
theorem newB_inv {d : Option Nat} {b : Blk} {k : AV → Prog α} (h : (newB d b k).run s w l F = some r) : ∃ e l', d = some e ∧ s.own e = none ∧ (k (.pt e 0)).run (s.blk e b) w l' F = some r := by
  unfold newB at h; split at h
  · simp only [Prog.run] at h
    split at h
    · exact ⟨_, _, rfl, by assumption, h⟩
    · cases h
  · cases h
theorem lLst_inv {x : CV} {k : List CV → Prog α} (h : (Prog.look _ (lLst x) k).run s w l F = some r) : ∃ xs, (k xs).run s w l F = some r ∧ (x = .im xs ∨ (x = .nils ∧ xs = []) ∨ (x = .em ∧ xs = []) ∨ x = .ic xs) := lst_inv (x := x) h
theorem lLen_inv {x : CV} {k : Nat → Prog α} (h : (Prog.look _ (lLen x) k).run s w l F = some r) : ∃ n, (k n).run s w l F = some r ∧ ((∃ xs, n = xs.length ∧ (x = .im xs ∨ (x = .nils ∧ xs = []) ∨ (x = .em ∧ xs = []) ∨ x = .ic xs)) ∨ x = .ln n) := len_inv (x := x) h
theorem lOpen_inv {x : CV} {n : Nat} {k : List CV → Prog α} (h : (Prog.look _ (lOpen x n) k).run s w l F = some r) : ∃ cs, x = .ag cs ∧ cs.length = n ∧ (k cs).run s w l F = some r := open_inv (x := x) (n := n) h
theorem lLd_inv {x : CV} {o : Nat} {k : CV → Prog α} (h : (Prog.look _ (lLd x o) k).run s w l F = some r) : ∃ y, x.cells[o]? = some y ∧ (k y).run s w l F = some r := ld_inv (x := x) (o := o) h
theorem lLdAg_inv {x : CV} {o n : Nat} {k : CV → Prog α} (h : (Prog.look _ (lLdAg x o n) k).run s w l F = some r) : ∃ cs, x = .ag cs ∧ o + n ≤ cs.length ∧ (k (.ag ((cs.drop o).take n))).run s w l F = some r := by
  have h : x.ldAg o n (fun b => (k b).run s w l F) = some r := h
  exact ldAg_inv h
theorem lB_inv {x : CV} {k : Bool → Prog α} (h : (Prog.look _ (lB x) k).run s w l F = some r) : ∃ b, x = .bool b ∧ (k b).run s w l F = some r := asB_inv (x := x) h
theorem lInt_inv {x : CV} {i : IntKind} {k : Int → Prog α} (h : (Prog.look _ (lInt x i) k).run s w l F = some r) : ∃ n, x = .int i n ∧ (k n).run s w l F = some r := intOf_inv (x := x) (k := i) h
theorem lAny_inv {x : CV} {k : IntKind × Int → Prog α} (h : (Prog.look _ (lAny x) k).run s w l F = some r) : ∃ i n, x = .int i n ∧ (k (i, n)).run s w l F = some r := anyInt_inv (x := x) h
theorem lStr_inv {x : CV} {k : ByteArray → Prog α} (h : (Prog.look _ (lStr x) k).run s w l F = some r) : ∃ t, x = .str t ∧ (k t).run s w l F = some r := asStr_inv (x := x) h
theorem lNth_inv {xs : List CV} {i : Int} {k : CV → Prog α} (h : (Prog.look _ (lNth xs i) k).run s w l F = some r) : ∃ n x, i = (n : Nat) ∧ xs[n]? = some x ∧ (k x).run s w l F = some r := nth_inv (xs := xs) (i := i) h
theorem lUpto_inv {i : Int} {m : Nat} {k : Nat → Prog α} (h : (Prog.look _ (lUpto i m) k).run s w l F = some r) : ∃ n : Nat, i = (n : Nat) ∧ n ≤ m ∧ (k n).run s w l F = some r := upto_inv (i := i) (m := m) h
theorem lIx_inv {i : Int} {m : Nat} {k : Nat → Prog α} (h : (Prog.look _ (lIx i m) k).run s w l F = some r) : ∃ n : Nat, i = (n : Nat) ∧ n < m ∧ (k n).run s w l F = some r := idx_inv (i := i) (m := m) h
theorem lIfb_inv {t : Bool} {k : Bool → Prog α} (h : (Prog.look _ (lIfb t) k).run s w l F = some r) : (k t).run s w l F = some r := by
  rcases ifb_inv (t := t) h with ⟨rfl, h⟩ | ⟨rfl, h⟩ <;> exact h
theorem lShp_inv {o : Option Shp} {x : CV} {k : CV → Prog α} (h : (Prog.look _ (lShp o x) k).run s w l F = some r) : (k x).run s w l F = some r := by
  cases o with
  | none => exact h
  | some q =>
    have h : chk (conf q x) ((k (canon q x)).run s w l F) = some r := h
    obtain ⟨h1, h2⟩ := chkS h
    rw [canon_eq h1] at h2
    exact h2
theorem lShq_inv {o : Option (Asp × List Bsp)} {x : AV × O} {k : AV × O → Prog α} (h : (Prog.look _ (lShq o x) k).run s w l F = some r) : (k x).run s w l F = some r := by
  cases o with
  | none => exact h
  | some q =>
    have h : chk (confQ q.1 x.1 && confO q.2 x.2) ((k (canonQ q.1 x.1, canonO q.2 x.2)).run s w l F) = some r := h
    obtain ⟨h1, h2⟩ := chkS h
    rw [Bool.and_eq_true] at h1
    rw [canonQ_eq h1.1, canonO_eq h1.2] at h2
    exact h2
theorem lForce_inv {t : ByteArray} {k : ByteArray → Prog α} (h : (Prog.look _ (lForce t) k).run s w l F = some r) : (k t).run s w l F = some r := by
  have h : cond Glob.force (forceL t.data.toList (fun l' => (k ⟨⟨l'⟩⟩).run s w l F)) ((k t).run s w l F) = some r := h
  rw [forceL_eq] at h
  cases hf : (Glob.force : Bool) <;> rw [hf] at h <;> exact h
theorem lForceA_inv {β : Type} {t : List β} {k : List β → Prog α} (h : (Prog.look _ (lForceA t) k).run s w l F = some r) : (k t).run s w l F = some r := by
  have h : cond Glob.force (forceL t (fun l' => (k l').run s w l F)) ((k t).run s w l F) = some r := h
  rw [forceL_eq] at h
  cases hf : (Glob.force : Bool) <;> rw [hf] at h <;> exact h
theorem lEmp_inv {xs : List CV} {k : Bool → Prog α} (h : (Prog.look _ (lEmp xs) k).run s w l F = some r) : (k xs.isEmpty).run s w l F = some r := by cases xs <;> exact h
theorem lNilS_inv {x : CV} {k : Bool → Prog α} (h : (Prog.look _ (lNilS x) k).run s w l F = some r) : ∃ t, (k t).run s w l F = some r ∧ (t = true ∧ x = .nils ∨ t = false ∧ ((∃ y ys, x = .im (y :: ys)) ∨ x = .em)) := by
  have h : x.nilS (fun t => (k t).run s w l F) = some r := h
  unfold CV.nilS at h
  split at h
  · exact ⟨_, h, .inl ⟨rfl, rfl⟩⟩
  · exact ⟨_, h, .inr ⟨rfl, .inr rfl⟩⟩
  · split at h
    · cases h
    · exact ⟨_, h, .inr ⟨rfl, .inl ⟨_, _, rfl⟩⟩⟩
  · cases h
theorem lNilP_inv {x : CV} {k : Bool → Prog α} (h : (Prog.look _ (lNilP x) k).run s w l F = some r) : ∃ t, (k t).run s w l F = some r ∧ (t = true ∧ x = .nilp ∨ t = false ∧ ∃ a y o, x = .ep a y o) := by
  have h : x.nilP (fun t => (k t).run s w l F) = some r := h
  unfold CV.nilP at h
  split at h
  · exact ⟨_, h, .inl ⟨rfl, rfl⟩⟩
  · exact ⟨_, h, .inr ⟨rfl, _, _, _, rfl⟩⟩
  · cases h
theorem lNilF_inv {x : CV} {k : Bool → Prog α} (h : (Prog.look _ (lNilF x) k).run s w l F = some r) : ∃ t, (k t).run s w l F = some r ∧ (t = true ∧ x = .nilf ∨ t = false ∧ ∃ f a b, x = .fn f a b) := by
  have h : x.nilF (fun t => (k t).run s w l F) = some r := h
  unfold CV.nilF at h
  split at h
  · exact ⟨_, h, .inl ⟨rfl, rfl⟩⟩
  · exact ⟨_, h, .inr ⟨rfl, _, _, _, rfl⟩⟩
  · cases h
theorem lNilI_inv {x : CV} {k : Bool → Prog α} (h : (Prog.look _ (lNilI x) k).run s w l F = some r) : ∃ t, (k t).run s w l F = some r ∧ (t = true ∧ x = .nili ∨ t = false ∧ ∃ a y, x = .ifc a y) := by
  have h : x.nilI (fun t => (k t).run s w l F) = some r := h
  unfold CV.nilI at h
  split at h
  · exact ⟨_, h, .inl ⟨rfl, rfl⟩⟩
  · exact ⟨_, h, .inr ⟨rfl, _, _, rfl⟩⟩
  · cases h
theorem lOk_inv {x : CV} {k : Unit → Prog α} (h : (Prog.look _ (lOk x) k).run s w l F = some r) : (k ()).run s w l F = some r ∧ ((∃ a y o, x = .ep a y o) ∨ (∃ f a b, x = .fn (.func f) a b) ∨ ∃ t y, x = .ifc t y) := by
  have h : x.okPtr ((k ()).run s w l F) = some r := h
  unfold CV.okPtr at h
  split at h
  · exact ⟨h, .inl ⟨_, _, _, rfl⟩⟩
  · exact ⟨h, .inr (.inl ⟨_, _, _, rfl⟩)⟩
  · exact ⟨h, .inr (.inr ⟨_, _, rfl⟩)⟩
  · cases h
theorem lAg_inv {x : CV} {k : List CV → Prog α} (h : (Prog.look _ (lAg x) k).run s w l F = some r) : ∃ cs, x = .ag cs ∧ (k cs).run s w l F = some r := by
  have h : x.agOf (fun t => (k t).run s w l F) = some r := h
  unfold CV.agOf at h
  split at h
  · exact ⟨_, rfl, h⟩
  · cases h
theorem lTp_inv {x : CV} {k : List CV → Prog α} (h : (Prog.look _ (lTp x) k).run s w l F = some r) : ∃ xs, x = .tp xs ∧ (k xs).run s w l F = some r := by
  have h : x.tpl (fun t => (k t).run s w l F) = some r := h
  unfold CV.tpl at h
  split at h
  · exact ⟨_, rfl, h⟩
  · cases h
theorem lIfc_inv {x : CV} {k : Nat × CV → Prog α} (h : (Prog.look _ (lIfc x) k).run s w l F = some r) : ∃ t y, x = .ifc t y ∧ (k (t, y)).run s w l F = some r := by
  have h : x.ifcOf (fun t y => (k (t, y)).run s w l F) = some r := h
  unfold CV.ifcOf at h
  split at h
  · exact ⟨_, _, rfl, h⟩
  · cases h
end
end Go.Ev
/- Operands: what the interpreter reads stands for what the model reads. -/
namespace Go.Ev
open Go Go.RowKit
variable [Glob]

theorem cvOf_nils {v : Value} {x : CV} (h : cvOf v = some x) : (x = .nils ∧ v = .slice none 0 0) ∨ (x ≠ .nils ∧ ∀ w I, VR w I x v) := by
  unfold cvOf at h
  split at h <;> first | (injection h with h; subst h) | cases h
  all_goals first
    | exact .inl ⟨rfl, rfl⟩
    | exact .inr ⟨(by simp), fun w I => by constructor⟩
theorem zAV_of {w : World} {G : Gh} {U : Used} {v : Value} {x : CV} (h : cvOf v = some x) : AVR w G U (zAV x) v := by
  rcases cvOf_nils h with ⟨rfl, rfl⟩ | ⟨hn, hv⟩
  · exact .nl
  · have : zAV x = .c x := by cases x <;> first | rfl | exact absurd rfl hn
    rw [this]; exact .c x v (hv _ _)
theorem zAVs_of {w : World} {G : Gh} {U : Used} : ∀ {l : List Value} {xs : List CV}, cvsOf l = some xs → AVRs w G U (xs.map zAV) l
  | [], xs, h => by injection h with h; subst h; exact .nil
  | v :: l, xs, h => by
    unfold cvsOf at h
    cases hx : cvOf v with
    | none => rw [hx] at h; cases h
    | some x =>
      rw [hx] at h
      cases hl : cvsOf l with
      | none => simp only [hl] at h; cases h
      | some ys =>
        simp only [hl] at h
        injection h with h
        subst h
        exact .cons _ _ _ _ (zAV_of hx) (zAVs_of hl)
theorem allCC_of {w : World} {G : Gh} {U : Used} : ∀ {l : List AV} {xs : List CV} {vs : List Value}, allCC l = some xs → AVRs w G U l vs → VRs w G.I xs vs
  | [], xs, vs, h, hv => by injection h with h; subst h; cases hv; exact .nil
  | v :: l, xs, vs, h, hv => by
    cases hv with
    | cons _ u _ us h1 h2 =>
      cases v with
      | c x =>
        unfold allCC at h
        cases hl : allCC l with
        | none => simp only [hl] at h; cases h
        | some ys =>
          simp only [hl] at h
          injection h with h
          subst h
          cases h1 with | c _ _ h1 => exact .cons _ _ _ _ h1 (allCC_of hl h2)
      | _ => cases h
theorem cvOf_flat {v : Value} {x : CV} (h : cvOf v = some x) : v.oneCell' = true := by
  unfold cvOf at h
  split at h <;> first | rfl | cases h
theorem Flat.nil : Flat [] := fun k v h => by simp at h
theorem Flat.cons {v : Value} {vs : List Value} (h : v.oneCell' = true) (hs : Flat vs) : Flat (v :: vs) := fun k u hu => by
  cases k with
  | zero => simp at hu; subst hu; exact h
  | succ k => simp at hu; exact hs k u hu
theorem Flat.tail {v : Value} {vs : List Value} (h : Flat (v :: vs)) : Flat vs := fun k u hu => h (k + 1) u (by simpa using hu)
theorem Flat.drop {vs : List Value} (h : Flat vs) (n : Nat) : Flat (vs.drop n) := fun k u hu => h (n + k) u (by rwa [List.getElem?_drop] at hu)
theorem Flat.take {vs : List Value} (h : Flat vs) (n : Nat) : Flat (vs.take n) := fun k u hu => by
  rw [List.getElem?_take] at hu
  split at hu
  · exact h k u hu
  · cases hu
theorem Flat.append {vs us : List Value} (h : Flat vs) (h' : Flat us) : Flat (vs ++ us) := fun k u hu => by
  rw [List.getElem?_append] at hu
  split at hu
  · exact h k u hu
  · exact h' _ u hu
theorem Flat.mem {vs : List Value} (h : Flat vs) : ∀ v ∈ vs, v.oneCell' = true := fun v hv => by
  obtain ⟨k, hk⟩ := List.mem_iff_getElem?.mp hv
  exact h k v hk
theorem flat_of {vs : List Value} (h : ∀ v ∈ vs, v.oneCell' = true) : Flat vs := fun k v hk => h v (List.mem_of_getElem? hk)
theorem MemAt.flat {w : World} {r off : Nat} {vs : List Value} (h : MemAt w r off vs) : Flat vs := fun k v hk => (h k v hk).2
theorem cvsOf_flat : ∀ {l : List Value} {xs : List CV}, cvsOf l = some xs → Flat l
  | [], xs, h => Flat.nil
  | v :: l, xs, h => by
    unfold cvsOf at h
    cases hx : cvOf v with
    | none => rw [hx] at h; cases h
    | some x =>
      rw [hx] at h
      cases hl : cvsOf l with
      | none => simp only [hl] at h; cases h
      | some ys => exact (cvsOf_flat hl).cons (cvOf_flat hx)
theorem mkAg_of {w : World} {G : Gh} {U : Used} {l : List AV} {vs : List Value} (h : AVRs w G U l vs) (hf : Flat vs) : AVR w G U (mkAg l) (.agg vs.toArray) := by
  unfold mkAg
  split
  · rename_i xs hx; exact .c _ _ (.ag _ _ (allCC_of hx h) hf)
  · exact .ag _ _ h hf
theorem constAV_of {w : World} {G : Gh} {U : Used} {ny : Bool} {v : Value} {x : AV} (h : constAV ny v = some x) : AVR w G U x v := by
  unfold constAV at h
  split at h
  all_goals first
    | (injection h with h; subst h; first | exact .c _ _ (by constructor))
    | skip
  · injection h with h; subst h
    cases ny
    · exact .nl
    · exact .c _ _ .nils
  · rename_i cs
    split at h
    · rename_i xs hx
      injection h with h; subst h
      have := mkAg_of (zAVs_of (w := w) (G := G) (U := U) hx) (cvsOf_flat hx)
      simpa using this
    · cases h
  · cases h
theorem opd_of {w : World} {G : Gh} {s : S} {o : O} {a : Act} (h : St w G s o a.tmps) {ny : Bool} {x : Operand} {v : AV} (hx : opdS ny s x = some v) : AVR w G (used w G s o) v (a.eval x) := by
  cases x with
  | tmp t => exact (h.env t v hx).2
  | const u => exact constAV_of hx
  | global g =>
    simp only [opdS] at hx
    split at hx
    · rename_i p hp
      injection hx with hx; subst hx
      obtain ⟨h1, vs, h2, h3⟩ := h.base g p hp
      exact .c _ _ (.ep p.1 p.2 0 g 0 vs h3 (by rw [h1]; trivial) h2)
    · cases hx
  | func f => injection hx with hx; subst hx; exact .c _ _ (.fn (.func f) [] [] [] [] .nil .nil)
end Go.Ev
/- What single steps of the model do, where the interpreter takes them. -/
namespace Go.Ev
open Go Go.RowKit
variable [Glob]
section
variable {P : Program} {w : World}

theorem add_at (r off j : Nat) : (⟨r, off, none⟩ : Addr).add j = ⟨r, off + j, none⟩ := by
  unfold Addr.add; split
  · rename_i h; subst h; rfl
  · rfl
theorem run_load_at {a : Addr} {v : Value} (h : w.cell? a = some v) : (load a).run P w = .ok v w := by
  simp only [load, Sem.run, h]
theorem run_size {t : Nat} {i : TI} (h : TyIs P t i) : (sizeOf t).run P w = .ok i.size w := by
  obtain ⟨⟨ti, h1, h2, _, _⟩, _⟩ := h
  simp only [sizeOf, typeInfo, program, Sem.run_bind, Sem.run, Result.andThen, h1, Sem.run_pure, h2]
theorem run_under {t : Nat} {d : TypeDesc} (h : P.underlying t = some d) : (underlying t).run P w = .ok d w := by
  simp only [underlying, program, Sem.run_bind, Sem.run, Result.andThen, h, Sem.run_pure]
theorem run_info {t : Nat} {ti : TypeInfo} (h : P.info? t = some ti) : (typeInfo t).run P w = .ok ti w := by
  simp only [typeInfo, program, Sem.run_bind, Sem.run, Result.andThen, h, Sem.run_pure]
theorem run_zero {t : Nat} {ti : TypeInfo} {v : Value} (h : P.info? t = some ti) (hz : ti.zero = some v) : (zeroValue t).run P w = .ok v w := by
  simp only [zeroValue, Sem.run_bind, run_info h, Result.andThen, hz, Sem.run_pure]
theorem run_isAgg {t : Nat} {i : TI} (h : TyIs P t i) : (isAgg t).run P w = .ok i.agg w := by
  obtain ⟨d, h1, h2⟩ := h.under
  simp only [isAgg, Sem.run_bind, run_under h1, Result.andThen, TI.agg, ← h2]
  cases d <;> rfl
theorem run_loadCellsFrom (r off : Nat) (vs : List Value) (hm : MemAt w r off vs) : ∀ (n i : Nat) (acc : Array Value), i + n = vs.length →
    (loadCellsFrom ⟨r, off, none⟩ i n acc).run P w = .ok (acc ++ (vs.drop i).toArray) w
  | 0, i, acc, h => by
    simp only [loadCellsFrom, Sem.run_pure]
    rw [List.drop_of_length_le (by omega)]
    simp
  | n + 1, i, acc, h => by
    have hi : i < vs.length := by omega
    have hv : vs[i]? = some vs[i] := List.getElem?_eq_getElem hi
    simp only [loadCellsFrom, Sem.run_bind, add_at, run_load_at (hm i _ hv).1, Result.andThen]
    rw [run_loadCellsFrom r off vs hm n (i + 1) _ (by omega)]
    rw [List.drop_eq_getElem_cons hi]
    simp
theorem run_loadCells {r off : Nat} {vs : List Value} (hm : MemAt w r off vs) : (loadCells ⟨r, off, none⟩ vs.length).run P w = .ok vs.toArray w := by
  unfold loadCells
  rw [run_loadCellsFrom r off vs hm vs.length 0 #[] (by omega)]
  simp
theorem MemAt.part {r off : Nat} {vs : List Value} (h : MemAt w r off vs) (o n : Nat) : MemAt w r (off + o) ((vs.drop o).take n) := by
  intro k v hk
  have hk' : vs[o + k]? = some v := by
    rw [List.getElem?_take] at hk
    split at hk
    · rwa [List.getElem?_drop] at hk
    · cases hk
  have := h (o + k) v hk'
  rwa [← Nat.add_assoc] at this
/-- A struct's load, a scalar's. -/
theorem run_loadAgg {t : Nat} {i : TI} (ht : TyIs P t i) (ha : i.agg = true) {r off : Nat} {vs : List Value} (hm : MemAt w r off vs) (hl : vs.length = i.size) :
    (loadVar t ⟨r, off, none⟩).run P w = .ok (.agg vs.toArray) w := by
  simp only [loadVar, Sem.run_bind, run_isAgg ht, Result.andThen, ha, if_true, run_size ht, ← hl, run_loadCells hm, Sem.run_pure]
theorem run_loadOne {t : Nat} {i : TI} (ht : TyIs P t i) (ha : i.agg = false) {a : Addr} {v : Value} (hm : w.cell? a = some v) :
    (loadVar t a).run P w = .ok v w := by
  simp only [loadVar, Sem.run_bind, run_isAgg ht, Result.andThen, ha, Bool.false_eq_true, if_false, run_load_at hm]
end
end Go.Ev
/- What stands for something still does, where its memory is let alone. -/
namespace Go.Ev
open Go Go.RowKit
variable [Glob]

theorem VRs.single {w : World} {I : Nat → Role} {x : CV} {v : Value} (h : VR w I x v) : VRs w I [x] [v] := .cons _ _ _ _ h .nil
/-- A list whose block, and what is never written, stays. -/
theorem LstR.frame {w w' : World} {I J : Nat → Role} {k : Key} {r m : Nat} {xs : List CV} {hd : Value} (h : LstR w I k r m xs hd) (hi : Stays I J w w')
    (hs : I r = .key k → w'.heap[r]? = w.heap[r]? ∧ J r = .key k) : LstR w' J k r m xs hd := by
  refine ⟨h.1, h.2.imp id ?_⟩
  rintro ⟨cap, vs, c, ty, h1, h2, h3, h4, h5, h6, h7⟩
  exact ⟨cap, vs, c, ty, h1, h2, h3.mono hi, (hs h4).2, (hs h4).1.trans h5, h6, h7⟩
theorem LstP.frame {w w' : World} {I J : Nat → Role} {k : Key} {r m : Nat} {xs : List CV} {hd : Value} (h : LstP w I k r m xs hd) (hi : Stays I J w w')
    (hs : ∀ n, I r = .keyp n k → w'.heap[r]? = w.heap[r]? ∧ J r = .keyp n k) : LstP w' J k r m xs hd := by
  refine ⟨h.1, h.2.imp id ?_⟩
  rintro ⟨cap, n, vs, c, ty, h1, h2, h3, h4, h8, h5, h6, h7⟩
  exact ⟨cap, n, vs, c, ty, h1, h2, h3.mono hi, (hs n h4).2, h8, (hs n h4).1.trans h5, h6, h7⟩
theorem RlsR.frame {w w' : World} {G G' : Gh} {U U' : Used} {k : Key} {r : Nat} {xs : List AV} {hd : Value} (h : RlsR w G U k r xs hd) (hk : G.Keeps G' U U') (hi : Stays G.I G'.I w w')
    (hs : G.I r = .key k → w'.heap[r]? = w.heap[r]? ∧ G'.I r = .key k) : RlsR w' G' U' k r xs hd := by
  refine h.imp id ?_
  rintro ⟨cap, vs, c, ty, h1, h2, h3, h4, h5, h6, h7⟩
  exact ⟨cap, vs, c, ty, h1, h2, h3.mono hk hi, (hs h4).2, (hs h4).1.trans h5, h6, h7⟩
/-- Which of the own names are lists: not more of them. -/
def Wk (G G' : Gh) (own own' : Nat → Option Blk) : Prop := ∀ n, isL (own n) → isL (own' n) ∧ G'.hd n = G.hd n ∧ (∀ a ys, own' n = some (.lst a ys) → ∃ ys', own n = some (.lst a ys')) ∧
  (∀ ys, own' n = some (.fls ys) → (∃ a ys', own n = some (.lst a ys')) ∨ ∃ ys', own n = some (.fls ys'))
theorem ElR.frame {w w' : World} {G G' : Gh} {own own' : Nat → Option Blk} {b m k : Nat} {x : CV} {out : Option (Nat × Nat)} {v : Value} (h : ElR w G own b m k x out v)
    (hi : Stays G.I G'.I w w') (hs : ∀ r, G.I r = .key (.el b k) → w'.heap[r]? = w.heap[r]? ∧ G'.I r = .key (.el b k)) (hU : ∀ j n, out = some (j, n) → isL (own n)) (hw : Wk G G' own own') : ElR w' G' own' b m k x out v := by
  unfold ElR at h ⊢
  split at h
  · rename_i j n
    by_cases e : j = k
    · rw [if_pos e] at h ⊢
      obtain ⟨h1, h2⟩ := h
      obtain ⟨_, w0, w1, w2⟩ := hw n (hU j n rfl)
      refine ⟨fun a ys hy => ?_, fun ys hy => ?_⟩
      · obtain ⟨ys', hy'⟩ := w1 a ys hy
        exact ⟨(h1 a ys' hy').1, by rw [w0]; exact (h1 a ys' hy').2⟩
      · rw [w0]
        rcases w2 ys hy with ⟨a, ys', hy'⟩ | ⟨ys', hy'⟩
        · exact (h1 a ys' hy').2
        · exact h2 ys' hy'
    · rw [if_neg e] at h ⊢
      obtain ⟨ys, r, hx, hl⟩ := h
      exact ⟨ys, r, hx, hl.frame hi (hs r)⟩
  · obtain ⟨ys, r, hx, hl⟩ := h
    exact ⟨ys, r, hx, hl.frame hi (hs r)⟩
theorem OwnR.frame {w w' : World} {G G' : Gh} {U U' : Used} {own own' : Nat → Option Blk} {b : Nat} {k : Blk} (h : OwnR w G U own b k) (hb : U.own b) (hk : G.Keeps G' U U') (hi : Stays G.I G'.I w w')
    (hs : ∀ r, (G.I r = .key (.own b) ∨ ∃ j, G.I r = .key (.el b j)) → w'.heap[r]? = w.heap[r]? ∧ G'.I r = G.I r) (hw : Wk G G' own own') : OwnR w' G' U' own' b k := by
  obtain ⟨_, ha, hh, hm⟩ := hk.a b hb
  have hs1 : ∀ r, G.I r = .key (.own b) → w'.heap[r]? = w.heap[r]? ∧ G'.I r = .key (.own b) := fun r hr => ⟨(hs r (.inl hr)).1, (hs r (.inl hr)).2.trans hr⟩
  cases k with
  | box agg cs =>
    obtain ⟨h1, vs, ty, h2, h3, h4⟩ := h
    refine ⟨?_, vs, ty, ?_, h3.mono hk hi, h4⟩
    · rw [ha]; exact (hs1 _ h1).2
    · rw [ha, (hs1 _ h1).1]; exact h2
  | frz agg cs =>
    obtain ⟨h1, vs, h2, h3, h4⟩ := h
    refine ⟨?_, vs, ?_, h3.mono hk.outer hi, h4⟩
    · rw [ha]; exact hi.imm h1
    · rw [ha]; exact h2.stays hi (by rw [h1]; trivial)
  | lst m xs =>
    obtain ⟨h1, h2, h3⟩ := h
    refine ⟨hm.trans h1, h2, ?_⟩
    rw [ha, hh]
    exact h3.frame hi (hs1 _)
  | fls xs =>
    obtain ⟨h1, h2, h3⟩ := h
    unfold OwnR
    rw [ha, hh, hm]
    exact ⟨h1.mono hi, h2, h3⟩
  | nst m xs out =>
    obtain ⟨h1, h2, h0, h3⟩ := h
    unfold OwnR
    rw [ha, hh, hm]
    refine ⟨h1, h2, fun j n e => (hw n (h0 j n e)).1, h3.imp id ?_⟩
    rintro ⟨cap, c, ty, k1, k2, k3, k4, k5, k6⟩
    refine ⟨cap, c, ty, k1, k2, (hs1 _ k3).2, (hs1 _ k3).1.trans k4, k5, fun k x hx => ?_⟩
    obtain ⟨v, hv, hfl, hel⟩ := k6 k x hx
    exact ⟨v, hv, hfl, hel.frame hi (fun r hr => ⟨(hs r (.inr ⟨k, hr⟩)).1, (hs r (.inr ⟨k, hr⟩)).2.trans hr⟩) h0 hw⟩
  | moved id =>
    obtain ⟨h1, h2⟩ := h
    obtain ⟨k1, k2⟩ := hk.o id h1
    exact ⟨k1, by rw [ha, k2]; exact h2⟩
  | movedL id =>
    obtain ⟨h1, h2⟩ := h
    exact ⟨(hk.o id h1).1, by rw [hh, hk.oh id h1]; exact h2⟩
  | dead => trivial
  | rls => exact h
  | map => exact h
  | iter => exact h
  | lsp => exact h
theorem outU_le (w : World) (G : Gh) (s : S) (o : O) : G.Keeps G (outU o) (used w G s o) := ⟨fun _ h => h.elim, fun _ h => ⟨h, rfl⟩, fun _ _ => rfl, fun _ _ _ _ h => h.elim⟩
theorem outU_keeps {G G' : Gh} {o o' : O} (ho : ∀ id, id < o.length → id < o'.length ∧ G'.o id = G.o id) (hoh : ∀ id, id < o.length → G'.oh id = G.oh id := by intros; rfl) : G.Keeps G' (outU o) (outU o') := ⟨fun _ h => h.elim, ho, hoh, fun _ _ _ _ h => h.elim⟩
theorem OutC.frame {w w' : World} {G G' : Gh} {o o' : O} {id j : Nat} {x : AV} {v : Value} (h : OutC w G (outU o) id j x v) (hk : G.Keeps G' (outU o) (outU o')) (hi : Stays G.I G'.I w w')
    (hs : ∀ r, G.I r = .key (.hl id j) → w'.heap[r]? = w.heap[r]? ∧ G'.I r = .key (.hl id j)) : OutC w' G' (outU o') id j x v := by
  unfold OutC at h ⊢
  split at h
  · obtain ⟨h1, r, h2⟩ := h; exact ⟨h1, r, h2.frame hi (hs r)⟩
  · trivial
  · exact h.mono hk hi
theorem OutR.frame {w w' : World} {G G' : Gh} {o o' : O} {id : Nat} (h : OutR w G o id) (hid : id < o.length) (hk : G.Keeps G' (outU o) (outU o')) (hi : Stays G.I G'.I w w')
    (hg : O.get o' id = O.get o id) (hs : ∀ r, (G.I r = .key (.out id) ∨ (∃ j, G.I r = .key (.hl id j)) ∨ ∃ j, G.I r = .keyp j (.out id)) → w'.heap[r]? = w.heap[r]? ∧ G'.I r = G.I r) : OutR w' G' o' id := by
  obtain ⟨b, h1, h⟩ := h
  have ho := (hk.o id hid).2
  have hoh := hk.oh id hid
  refine ⟨b, hg.trans h1, ?_⟩
  cases b with
  | box agg cs =>
    obtain ⟨vs, ty, h2, h3, h4, hfl, h5⟩ := h
    refine ⟨vs, ty, ?_, ?_, h4, hfl, fun j x hx => ?_⟩
    · rw [ho]; exact (hs _ (.inl h2)).2.trans h2
    · rw [ho]; exact (hs _ (.inl h2)).1.trans h3
    · obtain ⟨v, hv, hc⟩ := h5 j x hx
      exact ⟨v, hv, hc.frame hk hi (fun r hr => ⟨(hs r (.inr (.inl ⟨j, hr⟩))).1, (hs r (.inr (.inl ⟨j, hr⟩))).2.trans hr⟩)⟩
  | lst m xs =>
    obtain ⟨h2, h3, h4⟩ := h
    unfold OutB
    rw [ho, hoh]
    exact ⟨h2, h3, h4.frame hi (fun hr => ⟨(hs _ (.inl hr)).1, (hs _ (.inl hr)).2.trans hr⟩)⟩
  | fls xs =>
    obtain ⟨h2, h3, h4⟩ := h
    unfold OutB
    rw [ho, hoh]
    exact ⟨h2.mono hi, h3, h4⟩
  | lsp m xs =>
    obtain ⟨h2, h3, h4⟩ := h
    unfold OutB
    rw [ho, hoh]
    exact ⟨h2, h3, h4.frame hi (fun n hr => ⟨(hs _ (.inr (.inr ⟨n, hr⟩))).1, (hs _ (.inr (.inr ⟨n, hr⟩))).2.trans hr⟩)⟩
  | dead => trivial
  | frz => exact h
  | nst => exact h
  | moved => exact h
  | movedL => exact h
  | rls xs =>
    obtain ⟨h2, h3⟩ := h
    unfold OutB
    rw [ho, hoh]
    exact ⟨h2, h3.frame hk hi (fun hr => ⟨(hs _ (.inl hr)).1, (hs _ (.inl hr)).2.trans hr⟩)⟩
  | iter t pos =>
    obtain ⟨h2, h3⟩ := h
    exact ⟨by rw [ho]; exact (hs _ (.inl h2)).2.trans h2, by rw [ho]; exact (hs _ (.inl h2)).1.trans h3⟩
  | map ks vs =>
    obtain ⟨es, clock, h2, h3, h4, h5⟩ := h
    exact ⟨es, clock, by rw [ho]; exact (hs _ (.inl h2)).2.trans h2, by rw [ho]; exact (hs _ (.inl h2)).1.trans h3, h4.mono hi, h5.mono hk hi⟩
end Go.Ev
/- One state to the next: what is let alone goes on standing for what it stood for. -/
namespace Go.Ev
open Go Go.RowKit
variable [Glob]
section
variable {w w' : World} {G G' : Gh} {s s' : S} {o o' : O} {tmps : Array Value}

theorem St.step (h : St w G s o tmps) (to : To w G s o w' G' s' o') (env : s'.env = s.env) (C Co : Nat → Prop)
    (same : ∀ b, ¬ C b → s'.own b = s.own b)
    (hs : ∀ r b, ¬ C b → s.own b ≠ none → s.own b ≠ some .dead → (G.I r = .key (.own b) ∨ ∃ j, G.I r = .key (.el b j)) → w'.heap[r]? = w.heap[r]? ∧ G'.I r = G.I r)
    (hw : Wk G G' s.own s'.own)
    (hC : ∀ b k, C b → s'.own b = some k → OwnR w' G' (used w' G' s' o') s'.own b k)
    (ho : ∀ id, id < o.length → id < o'.length)
    (sameO : ∀ id, ¬ Co id → id < o'.length → id < o.length ∧ O.get o' id = O.get o id)
    (hsO : ∀ r id, ¬ Co id → id < o.length → (G.I r = .key (.out id) ∨ (∃ j, G.I r = .key (.hl id j)) ∨ ∃ j, G.I r = .keyp j (.out id)) → w'.heap[r]? = w.heap[r]? ∧ G'.I r = G.I r)
    (hCo : ∀ id, Co id → id < o'.length → OutR w' G' o' id)
    (heap : ∀ r, G'.I r ≠ .no → r < w'.heap.size) : St w' G' s' o' tmps := by
  refine ⟨fun t v hv => ?_, fun b k hb => ?_, fun id hid => ?_, heap, h.base.mono to.stays⟩
  · rw [env] at hv
    exact ⟨(h.env t v hv).1, to.val (h.env t v hv).2⟩
  · by_cases hc : C b
    · exact hC b k hc hb
    · have e := same b hc
      rw [e] at hb
      by_cases hd : k = .dead
      · subst hd; trivial
      · exact (h.own b k hb).frame (by show s.own b ≠ none; rw [hb]; simp) to.keeps to.stays (fun r hr => hs r b hc (by rw [hb]; simp) (by rw [hb]; simpa using hd) hr) hw
  · by_cases hc : Co id
    · exact hCo id hc hid
    · obtain ⟨h1, h2⟩ := sameO id hc hid
      exact (h.out id h1).frame h1 (outU_keeps (fun id hid => ⟨ho id hid, (to.keeps.o id hid).2⟩) (fun id hid => to.keeps.oh id hid)) to.stays h2 (fun r hr => hsO r id hc h1 hr)
theorem own_key {a b : Nat} (h : Role.key (.own a) = Role.key (.own b)) : a = b := by injection h with h; injection h
theorem blk_own (s : S) (b : Nat) (k : Blk) (n : Nat) : (s.blk b k).own n = if n = b then some k else s.own n := upd_env _ _ _ _
theorem get_lt {o : O} {id : Nat} {x : Blk} (h : O.get o id = some x) : id < o.length := by
  unfold O.get at h
  cases hb : Nat.blt id o.length with
  | true => simpa [Nat.blt_eq] using hb
  | false => rw [hb] at h; cases h
/-- what is held of an outer variable's list stays, where outer memory does -/
theorem lo_keeps (hg : s.gen = s'.gen) (ho : ∀ id, id < o.length → G'.o id = G.o id) (hget : ∀ id, O.get o' id = O.get o id)
    (hh : ∀ id a cs, O.get o id = some (.box a cs) → w'.heap[G.o id]? = w.heap[G.o id]?) : ∀ id j e v, (used w G s o).lo id j e v → (used w' G' s' o').lo id j e v := by
  rintro id j e v ⟨h1, h2⟩
  refine ⟨by rw [← hg]; exact h1, fun he => ?_⟩
  obtain ⟨m, xs, a, cs, k1, k2, k3⟩ := h2 (he.trans hg.symm)
  have hid := get_lt k1
  refine ⟨m, xs, a, cs, (hget id).trans k1, k2, ?_⟩
  rw [ho id hid]
  exact (World.cell?_of_block (w := w) (a := ⟨G.o id, j, none⟩) (hh id a cs k1)).trans k3
/-- An own block changes: it, and its memory. -/
theorem St.own1 (h : St w G s o tmps) {I' : Nat → Role} {b : Nat} {k : Blk} (old : s.own b ≠ none) (hext : Ext G.I I' w w')
    (hs : ∀ r, G.I r ≠ .no → G.I r ≠ .key (.own b) → (∀ j, G.I r ≠ .key (.el b j)) → w'.heap[r]? = w.heap[r]? ∧ I' r = G.I r)
    (hw : isL (s.own b) → isL (some k) ∧ (∀ a ys, k = .lst a ys → ∃ ys', s.own b = some (.lst a ys')) ∧
      (∀ ys, k = .fls ys → (∃ a ys', s.own b = some (.lst a ys')) ∨ ∃ ys', s.own b = some (.fls ys')))
    (hk : To w G s o w' { G with I := I' } (s.blk b k) o → OwnR w' { G with I := I' } (used w' { G with I := I' } (s.blk b k) o) (s.blk b k).own b k)
    (heap : ∀ r, I' r ≠ .no → r < w'.heap.size) : St w' { G with I := I' } (s.blk b k) o tmps ∧ To w G s o w' { G with I := I' } (s.blk b k) o := by
  have hout : ∀ id a cs, O.get o id = some (.box a cs) → w'.heap[G.o id]? = w.heap[G.o id]? := by
    intro id a cs hid
    obtain ⟨_, _, h2, _⟩ := (h.out id (get_lt hid)).var hid
    exact (hs _ (by rw [h2]; simp) (by rw [h2]; simp) (by rw [h2]; simp)).1
  have to : To w G s o w' { G with I := I' } (s.blk b k) o := ⟨hext, ⟨fun n hn => ⟨by
    show (s.blk b k).own n ≠ none
    rw [blk_own]; split
    · simp
    · exact hn, rfl, rfl, rfl⟩, fun n hn => ⟨hn, rfl⟩, fun _ _ => rfl, lo_keeps rfl (fun _ _ => rfl) (fun _ => rfl) hout⟩, h.imm⟩
  refine ⟨h.step to rfl (fun n => n = b) (fun _ => False) (fun n hn => by rw [blk_own, if_neg hn]) ?_ ?_ ?_ (fun _ h => h) (fun _ _ h => ⟨h, rfl⟩) ?_ (fun _ h => h.elim) heap, to⟩
  · rintro r n hn _ _ (hr | ⟨j, hr⟩)
    · exact hs r (by rw [hr]; simp) (by rw [hr]; intro e; exact hn (own_key e)) (by rw [hr]; simp)
    · exact hs r (by rw [hr]; simp) (by rw [hr]; simp) (by rw [hr]; intro j' e; injection e with e; injection e with e; exact hn e)
  · intro n hn
    by_cases e : n = b
    · subst e
      rw [blk_own, if_pos rfl]
      obtain ⟨h1, h2, h3⟩ := hw hn
      exact ⟨h1, rfl, fun a ys hy => h2 a ys (by injection hy), fun ys hy => h3 ys (by injection hy)⟩
    · rw [blk_own, if_neg e]
      exact ⟨hn, rfl, fun a ys hy => ⟨ys, hy⟩, fun ys hy => .inr ⟨ys, hy⟩⟩
  · rintro n k' rfl hn
    rw [blk_own, if_pos rfl] at hn
    injection hn with hn; subst hn
    exact hk to
  · rintro r id _ hid (hr | ⟨j, hr⟩ | ⟨j, hr⟩) <;> exact hs r (by rw [hr]; simp) (by rw [hr]; simp) (by rw [hr]; simp)
/-- A new name; its memory is new, or of names that are gone. -/
theorem St.new (h : St w G s o tmps) {d : Nat} {k : Blk} (fresh : s.own d = none) (hext : Ext G.I G'.I w w')
    (hs : ∀ r, G.I r ≠ .no → (∀ n, s.own n = some .dead → G.I r ≠ .key (.own n)) → w'.heap[r]? = w.heap[r]? ∧ G'.I r = G.I r)
    (ha : ∀ n, n ≠ d → G'.a n = G.a n ∧ G'.hd n = G.hd n ∧ G'.m n = G.m n) (ho : G'.o = G.o)
    (hk : To w G s o w' G' (s.blk d k) o → OwnR w' G' (used w' G' (s.blk d k) o) (s.blk d k).own d k)
    (heap : ∀ r, G'.I r ≠ .no → r < w'.heap.size) (hoh : G'.oh = G.oh := by rfl) : St w' G' (s.blk d k) o tmps ∧ To w G s o w' G' (s.blk d k) o := by
  have hout : ∀ id a cs, O.get o id = some (.box a cs) → w'.heap[G.o id]? = w.heap[G.o id]? := by
    intro id a cs hid
    obtain ⟨_, _, h2, _⟩ := (h.out id (get_lt hid)).var hid
    exact (hs _ (by rw [h2]; simp) (by rw [h2]; simp)).1
  have hne : ∀ n, s.own n ≠ none → n ≠ d := fun n hn e => hn (by rw [e]; exact fresh)
  have to : To w G s o w' G' (s.blk d k) o := ⟨hext, ⟨fun n hn => ⟨by
    show (s.blk d k).own n ≠ none
    rw [blk_own, if_neg (hne n hn)]; exact hn, ha n (hne n hn)⟩, fun n hn => ⟨hn, by rw [ho]⟩, fun _ _ => by rw [hoh], lo_keeps rfl (fun _ _ => by rw [ho]) (fun _ => rfl) hout⟩, h.imm⟩
  refine ⟨h.step to rfl (fun n => n = d) (fun _ => False) (fun n hn => by rw [blk_own, if_neg hn]) ?_ ?_ ?_ (fun _ h => h) (fun _ _ h => ⟨h, rfl⟩) ?_ (fun _ h => h.elim) heap, to⟩
  · rintro r n hn _ hd (hr | ⟨j, hr⟩)
    · exact hs r (by rw [hr]; simp) (fun m hm e => hd (by rw [hr] at e; rw [own_key e]; exact hm))
    · exact hs r (by rw [hr]; simp) (by rw [hr]; simp)
  · intro n hn
    have e : n ≠ d := by rintro rfl; rw [fresh] at hn; exact hn
    rw [blk_own, if_neg e]
    exact ⟨hn, (ha n e).2.1, fun a ys hy => ⟨ys, hy⟩, fun ys hy => .inr ⟨ys, hy⟩⟩
  · rintro n k' rfl hn
    rw [blk_own, if_pos rfl] at hn
    injection hn with hn; subst hn
    exact hk to
  · rintro r id _ hid (hr | ⟨j, hr⟩ | ⟨j, hr⟩) <;> exact hs r (by rw [hr]; simp) (by rw [hr]; simp)
/-- A name is gone; its memory is kept, as it was. -/
theorem St.kill (h : St w G s o tmps) {b : Nat} (old : s.own b ≠ none) : St w G (s.blk b .dead) o tmps ∧ To w G s o w G (s.blk b .dead) o :=
  h.own1 (I' := G.I) old (.refl _ _) (fun _ _ _ _ => ⟨rfl, rfl⟩) (fun _ => ⟨trivial, by simp, by simp⟩) (fun _ => trivial) h.heap
end
end Go.Ev
/- Freezing: what is ours becomes what is never written. -/
namespace Go.Ev
open Go Go.RowKit
variable [Glob]
section
variable {w : World} {G G' G'' : Gh} {s s' s'' : S} {o o' o'' : O} {tmps : Array Value}

/-- A step of the interpreter alone. -/
structure Gs (w : World) (G : Gh) (s : S) (o : O) (tmps : Array Value) (G' : Gh) (s' : S) (o' : O) : Prop where
  st : St w G' s' o' tmps
  to : To w G s o w G' s' o'
  env : s'.env = s.env
  len : o'.length = o.length
theorem Gs.refl (h : St w G s o tmps) : Gs w G s o tmps G s o := ⟨h, .refl h, rfl, rfl⟩
theorem Gs.trans (h : Gs w G s o tmps G' s' o') (k : Gs w G' s' o' tmps G'' s'' o'') : Gs w G s o tmps G'' s'' o'' := ⟨k.st, h.to.trans k.to, k.env.trans h.env, k.len.trans h.len⟩
theorem Gs.val (h : Gs w G s o tmps G' s' o') {x : AV} {v : Value} (hv : AVR w G (used w G s o) x v) : AVR w G' (used w G' s' o') x v := h.to.val hv
theorem Gs.out (h : Gs w G s o tmps G' s' o') {x : AV} {v : Value} (hv : AVR w G (outU o) x v) : AVR w G' (outU o') x v :=
  hv.mono (outU_keeps (fun id hid => ⟨by rw [h.len]; exact hid, (h.to.keeps.o id hid).2⟩) fun id hid => h.to.keeps.oh id hid) h.to.stays
theorem Gs.outs (h : Gs w G s o tmps G' s' o') {x : List AV} {v : List Value} (hv : AVRs w G (outU o) x v) : AVRs w G' (outU o') x v :=
  hv.mono (outU_keeps (fun id hid => ⟨by rw [h.len]; exact hid, (h.to.keeps.o id hid).2⟩) fun id hid => h.to.keeps.oh id hid) h.to.stays
theorem Gs.vals (h : Gs w G s o tmps G' s' o') {x : List AV} {v : List Value} (hv : AVRs w G (used w G s o) x v) : AVRs w G' (used w G' s' o') x v := hv.mono h.to.keeps h.to.stays
theorem out_used {x : AV} {v : Value} (hv : AVR w G (outU o) x v) : AVR w G (used w G s o) x v := hv.mono (outU_le w G s o) (.refl _ _)
theorem outs_used {x : List AV} {v : List Value} (hv : AVRs w G (outU o) x v) : AVRs w G (used w G s o) x v := hv.mono (outU_le w G s o) (.refl _ _)

theorem memAt_of {r : Nat} {c : Array Value} {ty : TypeId} {f : Nat × Nat} {vs : List Value} (h : w.heap[r]? = some (.cells c ty f)) (hc : ∀ (k : Nat) (v : Value), vs[k]? = some v → c[k]? = some v ∧ v.oneCell' = true) : MemAt w r 0 vs := by
  intro k v hk
  simp only [World.cell?, h, Nat.zero_add, Option.isSome_none, Bool.false_eq_true, if_false]
  exact hc k v hk
theorem memAt_own {r : Nat} {ty : TypeId} {f : Nat × Nat} {vs : List Value} (h : w.heap[r]? = some (.cells vs.toArray ty f)) (hf : Flat vs) : MemAt w r 0 vs := memAt_of h fun k v hk => ⟨by simpa using hk, hf k v hk⟩
theorem lt_of_heap {r : Nat} {x : Obj} (h : w.heap[r]? = some x) : r < w.heap.size := by
  by_cases e : r < w.heap.size
  · exact e
  · rw [Array.getElem?_eq_none (by omega)] at h; cases h
theorem LstR.imm {I J : Nat → Role} {k : Key} {r m : Nat} {xs : List CV} {hd : Value} (h : LstR w I k r m xs hd) (hi : Stays I J w w) (hr : I r = .key k → J r = .imm) : VR w J (.im xs) hd := by
  rcases h with ⟨hm, ⟨rfl, rfl⟩ | ⟨cap, vs, c, ty, rfl, hc, hv, hI, hh, hsz, hp⟩⟩
  · exact .im0
  · exact .im xs r 0 cap m vs (hv.mono hi) hm (by rw [hr hI]; trivial) (memAt_of hh hp) hc
/-- The roles, when an own name's memory is written no more. -/
def frzI (I : Nat → Role) (b : Nat) : Nat → Role := fun r => match I r with
  | .key (.own b') => if b' = b then .imm else I r
  | .key (.el b' _) => if b' = b then .imm else I r
  | _ => I r
theorem frzI_own {I : Nat → Role} {b r : Nat} (h : I r = .key (.own b)) : frzI I b r = .imm := by simp [frzI, h]
theorem frzI_el {I : Nat → Role} {b r j : Nat} (h : I r = .key (.el b j)) : frzI I b r = .imm := by simp [frzI, h]
theorem frzI_else {I : Nat → Role} {b r : Nat} (h : I r ≠ .key (.own b)) (h' : ∀ j, I r ≠ .key (.el b j)) : frzI I b r = I r := by
  unfold frzI
  split
  · rename_i b' e; rw [if_neg]; rintro rfl; exact h e
  · rename_i b' j e; rw [if_neg]; rintro rfl; exact h' j e
  · rfl
theorem frzI_ext (I : Nat → Role) (b : Nat) (w : World) : Ext I (frzI I b) w w := .mk' rfl rfl rfl (Nat.le_refl _) fun _ _ hn => ⟨rfl, frzI_else (hn _) (fun _ => hn _)⟩
theorem frzI_heap {b : Nat} (h : St w G s o tmps) (r : Nat) (hr : frzI G.I b r ≠ .no) : r < w.heap.size := by
  apply h.heap r
  intro e
  apply hr
  simp [frzI, e]
/-- An own block is frozen. -/
theorem St.frz1 (h : St w G s o tmps) {b : Nat} {k : Blk} (old : s.own b ≠ none) (hw : isL (s.own b) → isL (some k) ∧ (∀ a ys, k ≠ .lst a ys)) (hf : isL (s.own b) → (∃ a ys', s.own b = some (.lst a ys')) ∨ ∃ ys', s.own b = some (.fls ys'))
    (hk : Stays G.I (frzI G.I b) w w → To w G s o w { G with I := frzI G.I b } (s.blk b k) o → OwnR w { G with I := frzI G.I b } (used w { G with I := frzI G.I b } (s.blk b k) o) (s.blk b k).own b k) :
    Gs w G s o tmps { G with I := frzI G.I b } (s.blk b k) o := by
  obtain ⟨h1, h2⟩ := h.own1 (k := k) (I' := frzI G.I b) old (frzI_ext _ _ _) (fun _ _ h1 h2 => ⟨rfl, frzI_else h1 h2⟩) (fun hl => ⟨(hw hl).1, fun a ys e => absurd e ((hw hl).2 a ys), fun ys e => hf hl⟩) (fun to => hk to.stays to) (frzI_heap h)
  exact ⟨h1, h2, rfl, rfl⟩
theorem frz_lst (h : St w G s o tmps) {b m : Nat} {xs : List CV} (hb : s.own b = some (.lst m xs)) :
    Gs w G s o tmps { G with I := frzI G.I b } (s.blk b (.fls xs)) o ∧ VR w (frzI G.I b) (.im xs) (G.hd b) := by
  obtain ⟨hm, hpos, hl⟩ := h.own b _ hb
  have hst : Stays G.I (frzI G.I b) w w := .mk fun r hr => ⟨rfl, frzI_else (hr.key _) fun j => hr.key _⟩
  have hv : VR w (frzI G.I b) (.im xs) (G.hd b) := hl.imm hst frzI_own
  refine ⟨h.frz1 (k := .fls xs) (by rw [hb]; simp) (fun _ => ⟨trivial, by simp⟩) (fun _ => .inl ⟨m, xs, hb⟩) (fun _ _ => ⟨hv, fun x hx => (hl.1 x hx).trans hm.symm, fun hne => ?_⟩), hv⟩
  rcases hl.2 with ⟨_, e⟩ | ⟨cap, _, _, _, e, _⟩
  · exact absurd e hne
  · exact ⟨cap, e⟩
theorem VRs.of_get {I : Nat → Role} : ∀ {xs : List CV} {vs : List Value}, xs.length = vs.length → (∀ (k : Nat) (x : CV) (v : Value), xs[k]? = some x → vs[k]? = some v → VR w I x v) → VRs w I xs vs
  | [], [], _, _ => .nil
  | [], _ :: _, h, _ => by simp at h
  | _ :: _, [], h, _ => by simp at h
  | x :: xs, v :: vs, h, hv => .cons _ _ _ _ (hv 0 x v rfl rfl) (VRs.of_get (by simpa using h) (fun k x v h1 h2 => hv (k + 1) x v (by simpa using h1) (by simpa using h2)))
theorem flat_ims : ∀ {xs : List CV}, (∀ x, x ∈ xs → ∃ ys, x = .im ys) → xs.flatMap CV.cells = xs
  | [], _ => rfl
  | x :: xs, h => by
    obtain ⟨ys, rfl⟩ := h x (by simp)
    rw [List.flatMap_cons, flat_ims (fun y hy => h y (by simp [hy]))]
    rfl
theorem take_get {c : Array Value} {n k : Nat} {v : Value} (h : (c.toList.take n)[k]? = some v) : c[k]? = some v := by
  rw [List.getElem?_take] at h
  split at h
  · simpa using h
  · cases h
theorem frz_nst (h : St w G s o tmps) {b m : Nat} {xs ys : List CV} {out : Option (Nat × Nat)} (hb : s.own b = some (.nst m xs out))
    (hy : (out = none ∧ ys = xs) ∨ ∃ k n zs, out = some (k, n) ∧ s.own n = some (.fls zs) ∧ ys = xs.set k (.im zs)) :
    Gs w G s o tmps { G with I := frzI G.I b } (s.blk b (.fls ys)) o ∧ VR w (frzI G.I b) (.im ys) (G.hd b) := by
  suffices hs : OwnR w { G with I := frzI G.I b } (used w { G with I := frzI G.I b } (s.blk b (.fls ys)) o) (s.blk b (.fls ys)).own b (.fls ys) ∧ VR w (frzI G.I b) (.im ys) (G.hd b) by
    exact ⟨h.frz1 (k := .fls ys) (by rw [hb]; simp) (fun hn => by rw [hb] at hn; exact hn.elim) (fun hn => by rw [hb] at hn; exact hn.elim) (fun _ _ => hs.1), hs.2⟩
  obtain ⟨hm, hpos, h0, hl⟩ := h.own b _ hb
  have hst : Stays G.I (frzI G.I b) w w := .mk fun r hr => ⟨rfl, frzI_else (hr.key _) fun j => hr.key _⟩
  have hlen : ys.length = xs.length := by rcases hy with ⟨_, rfl⟩ | ⟨k, n, zs, _, _, rfl⟩ <;> simp
  rcases hl with ⟨e1, rfl⟩ | ⟨cap, c, ty, e1, e2, e3, e4, e5, e6⟩
  · have : ys = [] := List.eq_nil_of_length_eq_zero hlen
    subst this
    have hv : VR w (frzI G.I b) (.im []) (G.hd b) := by rw [e1]; exact .im0
    exact ⟨⟨hv, by simp, by simp⟩, hv⟩
  · have hel : ∀ (k : Nat) (y : CV) (v : Value), ys[k]? = some y → c[k]? = some v → (∃ zs, y = .im zs) ∧ VR w (frzI G.I b) y v := by
      intro k y v hk hv
      rcases hy with ⟨rfl, rfl⟩ | ⟨j, n, zs, rfl, hn, rfl⟩
      · obtain ⟨v', hv', _, zs, r, rfl, hl⟩ := e6 k y hk
        rw [hv] at hv'; injection hv' with hv'; subst hv'
        exact ⟨⟨zs, rfl⟩, hl.imm hst frzI_el⟩
      · have hkx : ∃ x, xs[k]? = some x := by
          have : k < xs.length := by
            have := (List.getElem?_eq_some_iff.mp hk).1
            simpa using this
          exact ⟨xs[k], List.getElem?_eq_getElem this⟩
        obtain ⟨x, hx⟩ := hkx
        obtain ⟨v', hv', _, hE⟩ := e6 k x hx
        rw [hv] at hv'; injection hv' with hv'; subst hv'
        unfold ElR at hE
        simp only at hE
        by_cases e : j = k
        · rw [if_pos e] at hE
          subst e
          rw [List.getElem?_set] at hk
          simp only [if_true] at hk
          split at hk
          · injection hk with hk; subst hk
            rw [hE.2 zs hn]
            exact ⟨⟨zs, rfl⟩, (h.own n _ hn).1.mono hst⟩
          · cases hk
        · rw [if_neg e] at hE
          rw [List.getElem?_set_ne e] at hk
          rw [hx] at hk; injection hk with hk; subst hk
          obtain ⟨zs', r, rfl, hl⟩ := hE
          exact ⟨⟨zs', rfl⟩, hl.imm hst frzI_el⟩
    have hcs : xs.length ≤ c.size := Nat.le_trans e2 e5
    have hims : ∀ y, y ∈ ys → ∃ zs, y = .im zs := by
      intro y hy'
      obtain ⟨k, hk, rfl⟩ := List.getElem_of_mem hy'
      exact (hel k _ _ (List.getElem?_eq_getElem hk) (Array.getElem?_eq_getElem (show k < c.size by have : k < ys.length := hk; omega))).1
    have hmm : ∀ y, y ∈ ys → y.cells.length = 1 := by
      intro y hy'; obtain ⟨zs, rfl⟩ := hims y hy'; rfl
    have hcf : Flat (c.toList.take ys.length) := fun k v hk => by
      have hkl : k < xs.length := by
        have := (List.getElem?_eq_some_iff.mp hk).1
        rw [List.length_take] at this; omega
      obtain ⟨v', hv', h1, _⟩ := e6 k _ (List.getElem?_eq_getElem hkl)
      have := take_get hk
      rw [hv'] at this; injection this with this; subst this; exact h1
    have hv : VR w (frzI G.I b) (.im ys) (G.hd b) := by
      rw [e1, ← hlen]
      refine .im ys (G.a b) 0 cap 1 (c.toList.take ys.length) ?_ hmm (by rw [frzI_own e3]; trivial) (memAt_of e4 fun k v hk => ⟨take_get hk, hcf k v hk⟩) (by omega)
      rw [flat_ims hims]
      refine VRs.of_get ?_ fun k y v hk hv => (hel k y v hk (take_get hv)).2
      have hc : c.toList.length = c.size := Array.length_toList
      rw [List.length_take]; omega
    refine ⟨⟨hv, fun x hx => ?_, fun _ => ⟨cap, ?_⟩⟩, hv⟩
    · show _ = G.m b; rw [hm]; exact hmm x hx
    · show G.hd b = _; rw [hlen]; exact e1
/-- An own variable, its cells made what may stand anywhere. -/
theorem frz_box (h : St w G s o tmps) {b : Nat} {a a' : Bool} {cs us : List AV} {vs : List Value} {ty : TypeId} (hb : s.own b = some (.box a' cs)) (hh : w.heap[G.a b]? = some (.cells vs.toArray ty (0, 0)))
    (hu : AVRs w G (outU o) us vs) (hl : a = false → us.length = 1) (hf : Flat vs) :
    Gs w G s o tmps { G with I := frzI G.I b } (s.blk b (.frz a us)) o ∧ MemAt w (G.a b) 0 vs ∧ frzI G.I b (G.a b) = .imm := by
  obtain ⟨hI, _⟩ := h.own b _ hb
  have hm : MemAt w (G.a b) 0 vs := memAt_own hh hf
  refine ⟨h.frz1 (k := .frz a us) (by rw [hb]; simp) (fun hn => by rw [hb] at hn; exact hn.elim) (fun hn => by rw [hb] at hn; exact hn.elim) (fun hst to => ⟨frzI_own hI, vs, hm, ?_, hl⟩), hm, frzI_own hI⟩
  exact hu.mono (G' := { G with I := frzI G.I b }) (U' := (used w { G with I := frzI G.I b } (s.blk b (.frz a us)) o).outer) to.keeps.outer hst
/-- An outer variable's list is written no more. -/
def frzO (I : Nat → Role) (id j : Nat) : Nat → Role := fun r => match I r with
  | .key (.hl id' j') => if id' = id ∧ j' = j then .imm else I r
  | _ => I r
theorem frzO_hl {I : Nat → Role} {id j r : Nat} (h : I r = .key (.hl id j)) : frzO I id j r = .imm := by simp [frzO, h]
theorem frzO_else {I : Nat → Role} {id j r : Nat} (h : I r ≠ .key (.hl id j)) : frzO I id j r = I r := by
  unfold frzO
  split
  · rename_i e; rw [if_neg]; rintro ⟨rfl, rfl⟩; exact h e
  · rfl
theorem put_len (o : O) (id : Nat) (b : Blk) : (o.put id b).length = o.length := by
  unfold O.put; cases Nat.blt id o.length <;> simp
theorem put_get {o : O} {id id' : Nat} {b : Blk} (h : id < o.length) : (o.put id b).get id' = if id' = id then some b else o.get id' := by
  have hb : Nat.blt id o.length = true := by simpa [Nat.blt_eq] using h
  unfold O.get
  rw [put_len]
  unfold O.put
  rw [hb]
  by_cases hi : Nat.blt id' o.length = true
  · have hi' : id' < o.length := by simpa [Nat.blt_eq] using hi
    simp only [hi, cond_true]
    by_cases e : id' = id
    · subst e; rw [if_pos rfl, List.getElem?_set_self (by omega)]
    · rw [if_neg e, List.getElem?_set_ne (by omega)]
  · have hf : Nat.blt id' o.length = false := by cases hc : Nat.blt id' o.length <;> simp_all
    have e : id' ≠ id := by rintro rfl; exact hi hb
    simp only [hf, cond_false, if_neg e]
/-- An outer variable changes: cells, and what they lead to. -/
theorem St.outerP (h : St w G s o tmps) {I' : Nat → Role} {id : Nat} {k : Blk} (hid : id < o.length) {w' : World} (hext : Ext G.I I' w w')
    (hs : ∀ r, G.I r ≠ .no → G.I r ≠ .key (.out id) → (∀ j, G.I r ≠ .key (.hl id j)) → (∀ n, G.I r ≠ .keyp n (.out id)) → w'.heap[r]? = w.heap[r]? ∧ I' r = G.I r)
    (hk : To w G s o w' { G with I := I' } s.tick (o.put id k) → OutR w' { G with I := I' } (o.put id k) id) (heap : ∀ r, I' r ≠ .no → r < w'.heap.size) :
    St w' { G with I := I' } s.tick (o.put id k) tmps ∧ To w G s o w' { G with I := I' } s.tick (o.put id k) := by
  have to : To w G s o w' { G with I := I' } s.tick (o.put id k) := ⟨hext, ⟨fun n hn => ⟨hn, rfl, rfl, rfl⟩, fun n hn => ⟨by show n < (o.put id k).length; rw [put_len]; exact hn, rfl⟩, fun _ _ => rfl, fun id' j e v hl =>
    ⟨by show e ≤ s.gen + 1; have := hl.1; omega, fun he => by have := hl.1; have he : e = s.gen + 1 := he; omega⟩⟩, h.imm⟩
  refine ⟨h.step to rfl (fun _ => False) (fun n => n = id) (fun _ _ => rfl) ?_ (fun n hn => ⟨hn, rfl, fun a ys hy => ⟨ys, hy⟩, fun ys hy => .inr ⟨ys, hy⟩⟩) (fun _ _ h => h.elim) (fun n hn => by rw [put_len]; exact hn)
    (fun n hn hl => ?_) ?_ ?_ heap, to⟩
  · rintro r n _ _ _ (hr | ⟨j, hr⟩) <;> exact hs r (by rw [hr]; simp) (by rw [hr]; simp) (by rw [hr]; simp) (by rw [hr]; simp)
  · rw [put_len] at hl; exact ⟨hl, by rw [put_get hid, if_neg hn]⟩
  · rintro r n hn _ (hr | ⟨j, hr⟩ | ⟨j, hr⟩)
    · exact hs r (by rw [hr]; simp) (by rw [hr]; intro e; injection e with e; injection e with e; exact hn e) (by rw [hr]; simp) (by rw [hr]; simp)
    · exact hs r (by rw [hr]; simp) (by rw [hr]; simp) (by rw [hr]; intro j' e; injection e with e; injection e with e; exact hn e) (by rw [hr]; simp)
    · exact hs r (by rw [hr]; simp) (by rw [hr]; simp) (by rw [hr]; simp) (by rw [hr]; intro j' e; injection e with _ e; injection e with e; exact hn e)
  · rintro n rfl _; exact hk to
theorem St.outer (h : St w G s o tmps) {I' : Nat → Role} {id : Nat} {k : Blk} (hid : id < o.length) {w' : World} (hext : Ext G.I I' w w')
    (hs : ∀ r, G.I r ≠ .no → G.I r ≠ .key (.out id) → (∀ j, G.I r ≠ .key (.hl id j)) → w'.heap[r]? = w.heap[r]? ∧ I' r = G.I r)
    (hk : To w G s o w' { G with I := I' } s.tick (o.put id k) → OutR w' { G with I := I' } (o.put id k) id) (heap : ∀ r, I' r ≠ .no → r < w'.heap.size) :
    St w' { G with I := I' } s.tick (o.put id k) tmps ∧ To w G s o w' { G with I := I' } s.tick (o.put id k) := h.outerP hid hext (fun r h1 h2 h3 _ => hs r h1 h2 h3) hk heap
/-- an outer block that is no variable changes: what is held of variables' lists stays -/
theorem St.outerB (h : St w G s o tmps) {I' : Nat → Role} {id : Nat} {k : Blk} (hid : id < o.length) (hnb : ∀ a cs, O.get o id ≠ some (.box a cs)) {w' : World} (hext : Ext G.I I' w w')
    (hs : ∀ r, G.I r ≠ .no → G.I r ≠ .key (.out id) → (∀ j, G.I r ≠ .key (.hl id j)) → w'.heap[r]? = w.heap[r]? ∧ I' r = G.I r)
    (hk : To w G s o w' { G with I := I' } s (o.put id k) → OutR w' { G with I := I' } (o.put id k) id) (heap : ∀ r, I' r ≠ .no → r < w'.heap.size) :
    St w' { G with I := I' } s (o.put id k) tmps ∧ To w G s o w' { G with I := I' } s (o.put id k) := by
  have to : To w G s o w' { G with I := I' } s (o.put id k) := ⟨hext, ⟨fun n hn => ⟨hn, rfl, rfl, rfl⟩, fun n hn => ⟨by show n < (o.put id k).length; rw [put_len]; exact hn, rfl⟩, fun _ _ => rfl, fun id' j e v hl =>
    ⟨hl.1, fun he => by
      obtain ⟨m, xs, a, cs, k1, k2, k3⟩ := hl.2 he
      have hne : id' ≠ id := by rintro rfl; exact hnb _ _ k1
      refine ⟨m, xs, a, cs, by rw [put_get hid, if_neg hne]; exact k1, k2, ?_⟩
      obtain ⟨_, _, r1, _⟩ := (h.out id' (get_lt k1)).var k1
      exact (World.cell?_of_block (w := w) (a := ⟨G.o id', j, none⟩) (hs _ (by rw [r1]; simp) (by rw [r1]; intro e; injection e with e; injection e with e; exact hne e) (by rw [r1]; simp)).1).trans k3⟩⟩, h.imm⟩
  refine ⟨h.step to rfl (fun _ => False) (fun n => n = id) (fun _ _ => rfl) ?_ (fun n hn => ⟨hn, rfl, fun a ys hy => ⟨ys, hy⟩, fun ys hy => .inr ⟨ys, hy⟩⟩) (fun _ _ h => h.elim) (fun n hn => by rw [put_len]; exact hn)
    (fun n hn hl => ?_) ?_ ?_ heap, to⟩
  · rintro r n _ _ _ (hr | ⟨j, hr⟩) <;> exact hs r (by rw [hr]; simp) (by rw [hr]; simp) (by rw [hr]; simp)
  · rw [put_len] at hl; exact ⟨hl, by rw [put_get hid, if_neg hn]⟩
  · rintro r n hn _ (hr | ⟨j, hr⟩ | ⟨j, hr⟩)
    · exact hs r (by rw [hr]; simp) (by rw [hr]; intro e; injection e with e; injection e with e; exact hn e) (by rw [hr]; simp)
    · exact hs r (by rw [hr]; simp) (by rw [hr]; simp) (by rw [hr]; intro j' e; injection e with e; injection e with e; exact hn e)
    · exact hs r (by rw [hr]; simp) (by rw [hr]; simp) (by rw [hr]; simp)
  · rintro n rfl _; exact hk to
theorem held_inv {α R : Type} {id j e : Nat} {k : O → Bool → List AV → Nat → List CV → Prog α} {l : Log} {F : α → S → O → Log → Option R} {r : R} (h : (held id j e k).run s o l F = some r) :
    ∃ a cs m xs l', e = s.gen ∧ o.get id = some (.box a cs) ∧ cs[j]? = some (.hl m xs) ∧ (k o a cs m xs).run s o l' F = some r := by
  simp only [held, Prog.run] at h
  split at h
  · rename_i he
    split at h
    · split at h
      · exact ⟨_, _, _, _, _, Nat.eq_of_beq_eq_true he, by assumption, by assumption, h⟩
      · cases h
    · cases h
  · cases h
/-- what is held is the list -/
theorem held_is (h : St w G s o tmps) {id j : Nat} {a : Bool} {cs : List AV} {m : Nat} {xs : List CV} {x : Value} (hx : AVR w G (used w G s o) (.lo id j s.gen) x) (h1 : o.get id = some (.box a cs)) (h2 : cs[j]? = some (.hl m xs)) :
    ∃ vs ty, G.I (G.o id) = .key (.out id) ∧ w.heap[G.o id]? = some (.cells (List.toArray vs) ty (0, 0)) ∧ vs.length = cs.length ∧ vs[j]? = some x ∧ 0 < m ∧ (∃ r, LstR w G.I (.hl id j) r m xs x) ∧ Flat vs ∧
      ∀ (j : Nat) (x : AV), cs[j]? = some x → ∃ v, vs[j]? = some v ∧ OutC w G (outU o) id j x v := by
  have hid := get_lt h1
  obtain ⟨vs, ty, k2, k3, k4, hfl, k5⟩ := (h.out id hid).var h1
  cases hx with
  | lo _ _ _ _ hl =>
    obtain ⟨_, hl⟩ := hl
    obtain ⟨m', xs', a', cs', l1, l2, l3⟩ := hl rfl
    obtain ⟨v, hv, hp, hc⟩ := k5 j _ h2
    have : v = x := by
      simp only [World.cell?, k3, Option.isSome_none, Bool.false_eq_true, if_false] at l3
      rw [List.getElem?_toArray, hv] at l3
      injection l3
    subst this
    exact ⟨vs, ty, k2, k3, k4, hv, hp, hc, hfl, k5⟩
theorem frz_lo (h : St w G s o tmps) {id j : Nat} {a : Bool} {cs : List AV} {m : Nat} {xs : List CV} {x : Value} (hx : AVR w G (used w G s o) (.lo id j s.gen) x) (h1 : o.get id = some (.box a cs)) (h2 : cs[j]? = some (.hl m xs)) :
    Gs w G s o tmps { G with I := frzO G.I id j } s.tick (o.put id (.box a (cs.set j (.c (.im xs))))) ∧ VR w (frzO G.I id j) (.im xs) x := by
  obtain ⟨vs, ty, k1, k2, k3, k4, hp, ⟨r, hl⟩, hfl, k5⟩ := held_is h hx h1 h2
  have hst : Stays G.I (frzO G.I id j) w w := .mk fun r hr => ⟨rfl, frzO_else (hr.key _)⟩
  have hv : VR w (frzO G.I id j) (.im xs) x := hl.imm hst frzO_hl
  have hid := get_lt h1
  have hnew : OutR w { G with I := frzO G.I id j } (o.put id (.box a (cs.set j (.c (.im xs))))) id := by
    refine OutR.mk' (b := .box a (cs.set j (.c (.im xs)))) (by rw [put_get hid, if_pos rfl]) ⟨vs, ty, (frzO_else (by rw [k1]; simp)).trans k1, k2, by simp [k3], hfl, fun i y hy => ?_⟩
    by_cases e : j = i
    · subst e
      rw [List.getElem?_set_self (List.getElem?_eq_some_iff.mp h2).1] at hy
      injection hy with hy; subst hy
      exact ⟨x, k4, .c _ _ hv⟩
    · rw [List.getElem?_set_ne e] at hy
      obtain ⟨v, hv1, hv2⟩ := k5 i y hy
      refine ⟨v, hv1, hv2.frame (outU_keeps fun n hn => ⟨by rw [put_len]; exact hn, rfl⟩) hst (fun r hr => ⟨rfl, (frzO_else ?_).trans hr⟩)⟩
      rw [hr]; intro e'; injection e' with e'; injection e' with _ e'; exact e e'.symm
  obtain ⟨s1, s2⟩ := h.outer (I' := frzO G.I id j) (k := .box a (cs.set j (.c (.im xs)))) hid (w' := w) (.mk' rfl rfl rfl (Nat.le_refl _) fun _ _ hn => ⟨rfl, frzO_else (hn _)⟩) (fun _ _ _ h3 => ⟨rfl, frzO_else (h3 _)⟩)
    (fun _ => hnew) (fun r hr => h.heap r (fun e => hr (by simp [frzO, e])))
  exact ⟨⟨s1, s2, rfl, put_len _ _ _⟩, hv⟩
theorem flat_len {m : Nat} : ∀ {xs : List CV}, (∀ x, x ∈ xs → x.cells.length = m) → (xs.flatMap CV.cells).length = xs.length * m
  | [], _ => by simp
  | x :: xs, h => by
    rw [List.flatMap_cons, List.length_append, flat_len (fun y hy => h y (by simp [hy])), h x (by simp), List.length_cons, Nat.succ_mul]
    omega
/-- The roles, when a block's first n cells are written no more. -/
def frzP (I : Nat → Role) (r n : Nat) (k : Key) : Nat → Role := fun q => if q = r then .keyp n k else I q
theorem frzP_at {I : Nat → Role} {r n : Nat} {k : Key} : frzP I r n k r = .keyp n k := if_pos rfl
theorem frzP_else {I : Nat → Role} {r n q : Nat} {k : Key} (h : q ≠ r) : frzP I r n k q = I q := if_neg h
theorem frzP_stays {I : Nat → Role} {r n : Nat} {k : Key} (h : (I r = .key k) ∨ ∃ n', I r = .keyp n' k ∧ n' ≤ n) : Stays I (frzP I r n k) w w := Stays.up fun q hi hq => by
  by_cases e : q = r
  · subst e
    rw [frzP_at]
    rcases h with h | ⟨n', h, hn⟩
    · rw [h] at hq; exact hq.elim
    · rw [h] at hq ⊢; exact ⟨Nat.le_trans hq hn, fun e => by cases e⟩
  · rw [frzP_else e]; exact ⟨hq, id⟩
theorem frzP_ext {I : Nat → Role} {r n : Nat} {k : Key} (h : (I r = .key k) ∨ ∃ n', I r = .keyp n' k ∧ n' ≤ n) : Ext I (frzP I r n k) w w :=
  ⟨rfl, rfl, rfl, Nat.le_refl _, fun q _ h1 h2 => ⟨rfl, frzP_else (by rintro rfl; rcases h with h | ⟨n', h, _⟩; exact h1 _ h; exact h2 _ _ h)⟩, fun q n' k' _ e => by
    obtain ⟨q1, _, q2⟩ := frzP_stays (w := w) h q n' (by rw [e]; exact Nat.le_refl _)
    exact ⟨q1, q2⟩⟩
theorem frzP_heap {r n : Nat} {k : Key} (h : St w G s o tmps) (hr : r < w.heap.size) (q : Nat) (hq : frzP G.I r n k q ≠ .no) : q < w.heap.size := by
  by_cases e : q = r
  · rw [e]; exact hr
  · rw [frzP_else e] at hq; exact h.heap q hq
theorem LstR.part {I : Nat → Role} {k : Key} {r m : Nat} {xs : List CV} {hd : Value} (h : LstR w I k r m xs hd) : (hd = .slice none 0 0 ∧ xs = []) ∨
    (I r = .key k ∧ r < w.heap.size ∧ LstP w (frzP I r (xs.length * m) k) k r m xs hd ∧ VR w (frzP I r (xs.length * m) k) (.im xs) hd) := by
  rcases h with ⟨hm, ⟨rfl, rfl⟩ | ⟨cap, vs, c, ty, rfl, hc, hv, hI, hh, hsz, hp⟩⟩
  · exact .inl ⟨rfl, rfl⟩
  · refine .inr ⟨hI, lt_of_heap hh, ⟨hm, .inr ⟨cap, _, vs, c, ty, rfl, hc, hv.mono (frzP_stays (.inl hI)), frzP_at, Nat.le_refl _, hh, hsz, hp⟩⟩, ?_⟩
    exact .im xs r 0 cap m vs (hv.mono (frzP_stays (.inl hI))) hm (by rw [frzP_at, ← hv.length, flat_len hm]; show 0 + _ ≤ _; omega) (memAt_of hh hp) hc
theorem LstP.part {I : Nat → Role} {k : Key} {r m : Nat} {xs : List CV} {hd : Value} (h : LstP w I k r m xs hd) : (hd = .slice none 0 0 ∧ xs = []) ∨
    ((∃ n', I r = .keyp n' k ∧ n' ≤ xs.length * m) ∧ r < w.heap.size ∧ LstP w (frzP I r (xs.length * m) k) k r m xs hd ∧ VR w (frzP I r (xs.length * m) k) (.im xs) hd) := by
  rcases h with ⟨hm, ⟨rfl, rfl⟩ | ⟨cap, n, vs, c, ty, rfl, hc, hv, hI, hn, hh, hsz, hp⟩⟩
  · exact .inl ⟨rfl, rfl⟩
  · have hst : Stays I (frzP I r (xs.length * m) k) w w := frzP_stays (.inr ⟨n, hI, hn⟩)
    refine .inr ⟨⟨n, hI, hn⟩, lt_of_heap hh, ⟨hm, .inr ⟨cap, _, vs, c, ty, rfl, hc, hv.mono hst, frzP_at, Nat.le_refl _, hh, hsz, hp⟩⟩, ?_⟩
    exact .im xs r 0 cap m vs (hv.mono hst) hm (by rw [frzP_at, ← hv.length, flat_len hm]; show 0 + _ ≤ _; omega) (memAt_of hh hp) hc
/-- An outer list's elements are written no more. -/
theorem frz_ol (h : St w G s o tmps) {id m : Nat} {xs : List CV} (h1 : o.get id = some (.lst m xs)) :
    ∃ I', Gs w G s o tmps { G with I := I' } s.tick (o.put id (.lsp m xs)) ∧ VR w I' (.im xs) (G.oh id).1 := by
  have hid := get_lt h1
  obtain ⟨hm, hpos, hl⟩ := (h.out id hid).is h1
  rcases hl.part with ⟨e1, rfl⟩ | ⟨e1, e2, e3, e4⟩
  · obtain ⟨s1, s2⟩ := h.outer (I' := G.I) (k := .lsp m []) hid (w' := w) (.refl _ _) (fun _ _ _ _ => ⟨rfl, rfl⟩)
      (fun _ => OutR.mk' (b := .lsp m []) (by rw [put_get hid, if_pos rfl]) ⟨hm, hpos, by simp, .inl ⟨e1, rfl⟩⟩) h.heap
    exact ⟨G.I, ⟨s1, s2, rfl, put_len _ _ _⟩, by rw [e1]; exact .im0⟩
  · obtain ⟨s1, s2⟩ := h.outer (I' := frzP G.I (G.o id) (xs.length * m) (.out id)) (k := .lsp m xs) hid (w' := w) (frzP_ext (.inl e1)) (fun r _ h2 _ => ⟨rfl, frzP_else (by rintro rfl; exact h2 e1)⟩)
      (fun _ => OutR.mk' (b := .lsp m xs) (by rw [put_get hid, if_pos rfl]) ⟨hm, hpos, e3⟩) (frzP_heap h e2)
    exact ⟨_, ⟨s1, s2, rfl, put_len _ _ _⟩, e4⟩
theorem frz_olp (h : St w G s o tmps) {id m : Nat} {xs : List CV} (h1 : o.get id = some (.lsp m xs)) :
    ∃ I', Gs w G s o tmps { G with I := I' } s o ∧ VR w I' (.im xs) (G.oh id).1 := by
  have hid := get_lt h1
  obtain ⟨hm, hpos, hl⟩ := (h.out id hid).is h1
  rcases hl.part with ⟨e1, rfl⟩ | ⟨e1, e2, e3, e4⟩
  · exact ⟨G.I, .refl h, by rw [e1]; exact .im0⟩
  · have hst : Stays G.I (frzP G.I (G.o id) (xs.length * m) (.out id)) w w := frzP_stays (.inr e1)
    have hne : ∀ r, (∀ n, G.I r ≠ .keyp n (.out id)) → frzP G.I (G.o id) (xs.length * m) (.out id) r = G.I r := fun r hr => frzP_else (by rintro rfl; obtain ⟨n, hn, _⟩ := e1; exact hr n hn)
    have to : To w G s o w { G with I := frzP G.I (G.o id) (xs.length * m) (.out id) } s o := ⟨frzP_ext (.inr e1), ⟨fun n hn => ⟨hn, rfl, rfl, rfl⟩, fun n hn => ⟨hn, rfl⟩, fun _ _ => rfl, fun _ _ _ _ h => h⟩, h.imm⟩
    refine ⟨_, ⟨h.step to rfl (fun _ => False) (fun n => n = id) (fun _ _ => rfl) ?_ (fun n hn => ⟨hn, rfl, fun a ys hy => ⟨ys, hy⟩, fun ys hy => .inr ⟨ys, hy⟩⟩) (fun _ _ h => h.elim) (fun n hn => hn)
      (fun n _ hl => ⟨hl, rfl⟩) ?_ ?_ (frzP_heap h e2), to, rfl, rfl⟩, e4⟩
    · rintro r n _ _ _ (hr | ⟨j, hr⟩) <;> exact ⟨rfl, hne r (by rw [hr]; simp)⟩
    · rintro r n hn _ (hr | ⟨j, hr⟩ | ⟨j, hr⟩)
      · exact ⟨rfl, hne r (by rw [hr]; simp)⟩
      · exact ⟨rfl, hne r (by rw [hr]; simp)⟩
      · exact ⟨rfl, hne r (by rw [hr]; intro j' e; injection e with _ e; injection e with e; exact hn e)⟩
    · rintro n rfl _
      exact OutR.mk' (b := .lsp m xs) h1 ⟨hm, hpos, e3⟩
end
end Go.Ev
