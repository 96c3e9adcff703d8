/- An interpreter of the model's code that the kernel can run, and the proof that what it answers the model answers, part 4 of 4. No condition. -/
import Derived.Test.YtkbcnojfibifiaaDoorEvC
import Derived.Below
import Derived.Lib.LaidTab
set_option linter.unusedVariables false
set_option linter.unusedSectionVars false
set_option linter.unusedSimpArgs false
set_option linter.unnecessarySimpa false
/- The interpreter once more, in a form that the kernel runs faster (few and small terms), with the proof that it is the same. -/
namespace Go.Ev
open Go
noncomputable section
variable [Glob]
/-! ### Slots -/
def updA (f : Nat → Option AV) (t : Nat) (x : AV) : Nat → Option AV := fun u => Bool.rec (motive := fun _ => Option AV) (f u) (some x) (Nat.beq u t)
def updB (f : Nat → Option Blk) (t : Nat) (x : Blk) : Nat → Option Blk := fun u => Bool.rec (motive := fun _ => Option Blk) (f u) (some x) (Nat.beq u t)
theorem updA_eq (f : Nat → Option AV) (t : Nat) (x : AV) : updA f t x = upd f t x := funext fun u => by unfold updA upd; cases Nat.beq u t <;> rfl
theorem updB_eq (f : Nat → Option Blk) (t : Nat) (x : Blk) : updB f t x = upd f t x := funext fun u => by unfold updB upd; cases Nat.beq u t <;> rfl
def putF (s : S) (t : Nat) (v : AV) : S := ⟨updA s.env t v, s.own, s.gen⟩
def blkF (s : S) (b : Nat) (x : Blk) : S := ⟨s.env, updB s.own b x, s.gen⟩
theorem putF_eq (s : S) (t : Nat) (v : AV) : putF s t v = s.put t v := by unfold putF S.put; rw [updA_eq]
theorem blkF_eq (s : S) (t : Nat) (v : Blk) : blkF s t v = s.blk t v := by unfold blkF S.blk; rw [updB_eq]
/-! ### Runs -/
abbrev RunT (α R : Type) := S → O → Log → (α → S → O → Log → Option R) → Option R
def rRet {α R : Type} (x : α) : RunT α R := fun s w l K => K x s w l
def rFail {α R : Type} : RunT α R := fun _ _ _ _ => none
def rLook {α R : Type} (β : Type) (f : Look β) (_ : β → Prog α) (ih : β → RunT α R) : RunT α R := fun s w l K => f.f fun b => ih b s w l K
def rEnv {α R : Type} (t : Nat) (_ : AV → Prog α) (ih : AV → RunT α R) : RunT α R := fun s w l K => Option.rec (motive := fun _ => Option R) none (fun v => ih v s w (l.r (.slot t)) K) (s.env t)
def rBlk {α R : Type} (b : Nat) (_ : Option Blk → Prog α) (ih : Option Blk → RunT α R) : RunT α R := fun s w l K => ih (s.own b) s w (l.r (.blk b)) K
def rOut {α R : Type} (_ : Nat → O → Prog α) (ih : Nat → O → RunT α R) : RunT α R := fun s w l K => ih s.gen w s w (l.r .out) K
def rSetE {α R : Type} (t : Nat) (v : AV) (_ : Prog α) (ih : RunT α R) : RunT α R := fun s w l K => ih (putF s t v) w (l.w (.slot t)) K
def rSetB {α R : Type} (b : Nat) (x : Blk) (_ : Prog α) (ih : RunT α R) : RunT α R := fun s w l K => ih (blkF s b x) w (l.w (.blk b)) K
def rSetO {α R : Type} (o : O) (_ : Prog α) (ih : RunT α R) : RunT α R := fun s w l K => ih s.tick o (l.w .out) K
def runF {α R : Type} (p : Prog α) : RunT α R := Prog.rec (motive := fun _ => RunT α R) rRet rFail rLook rEnv rBlk rOut rSetE rSetB rSetO p
theorem runF_eq {α R : Type} (p : Prog α) : ∀ (s : S) (w : O) (l : Log) (K : α → S → O → Log → Option R), runF p s w l K = p.run s w l K := by
  induction p with
  | ret x => intro s w l K; rfl
  | fail => intro s w l K; rfl
  | look β f k ih => intro s w l K; simp only [Prog.run]; exact congrArg f.f (funext fun b => ih b s w l K)
  | env t k ih =>
    intro s w l K
    simp only [Prog.run]
    show Option.rec (motive := fun _ => Option R) none (fun v => runF (k v) s w (l.r (.slot t)) K) (s.env t) = _
    cases s.env t with
    | none => rfl
    | some v => exact ih v s w _ K
  | blk b k ih => intro s w l K; simp only [Prog.run]; exact ih _ s w _ K
  | out k ih => intro s w l K; simp only [Prog.run]; exact ih _ _ s w _ K
  | setE t v k ih => intro s w l K; simp only [Prog.run]; show runF k (putF s t v) w _ K = k.run (s.put t v) w _ K; rw [putF_eq]; exact ih _ _ _ _
  | setB b x k ih => intro s w l K; simp only [Prog.run]; show runF k (blkF s b x) w _ K = k.run (s.blk b x) w _ K; rw [blkF_eq]; exact ih _ _ _ _
  | setO o k ih => intro s w l K; simp only [Prog.run]; exact ih _ _ _ _
/-! ### Operations -/
def rdTmp (t : Nat) (_ : Bool) (K : AV → Prog Unit) : Prog Unit := .env t K
def rdConst (v : Value) (ny : Bool) (K : AV → Prog Unit) : Prog Unit := Option.rec (motive := fun _ => Prog Unit) .fail K (constAV ny v)
def rdGlob (g : Nat) (_ : Bool) (K : AV → Prog Unit) : Prog Unit := (match Glob.glob g with | some p => K (.c (.ep p.1 p.2 0)) | none => .fail)
def rdFunc (f : Nat) (_ : Bool) (K : AV → Prog Unit) : Prog Unit := K (.c (.fn (.func f) [] []))
def rdF (ny : Bool) (x : Operand) (K : AV → Prog Unit) : Prog Unit := Operand.rec (motive := fun _ => Bool → (AV → Prog Unit) → Prog Unit) rdTmp rdConst rdGlob rdFunc x ny K
theorem rdF_eq (ny : Bool) (x : Operand) (K : AV → Prog Unit) : rdF ny x K = rd ny x K := by
  cases x with
  | const v =>
    show Option.rec (motive := fun _ => Prog Unit) .fail K (constAV ny v) = match constAV ny v with | some v => K v | none => .fail
    cases constAV ny v <;> rfl
  | _ => rfl
def rdcF (ny : Bool) (x : Operand) (K : CV → Prog Unit) : Prog Unit := rdF ny x fun v => v.cv K
theorem rdcF_eq (ny : Bool) (x : Operand) (K : CV → Prog Unit) : rdcF ny x K = rdc ny x K := rdF_eq ny x _
def evoMove (x : Operand) (C : Cfg) (Q : Orc) (ny : Bool) (all : List Oper) (o : Oper) (K : AV → Prog Unit) : Prog Unit := rdF ny x K
def evoAssign (x : Operand) (C : Cfg) (Q : Orc) (ny : Bool) (all : List Oper) (o : Oper) (K : AV → Prog Unit) : Prog Unit := rdF ny x K
def evoPick (c : Operand) (a : Operand) (b : Operand) (C : Cfg) (Q : Orc) (ny : Bool) (all : List Oper) (o : Oper) (K : AV → Prog Unit) : Prog Unit := rdcF ny c fun t => .look _ (lB t) fun t => .look _ (lIfb t) fun t => (match t with | true => rdF ny a K | false => rdF ny b K)
def evoAlloc (e : Nat) (C : Cfg) (Q : Orc) (ny : Bool) (all : List Oper) (o : Oper) (K : AV → Prog Unit) : Prog Unit := tyP C e fun i => zeroOf i fun z => (match i.td with
      | .array _ _ => .fail
      | _ => pchk (z.isN i.size && (i.agg || Nat.beq i.size 1)) (newB o.dst (.box i.agg (zCells z)) K))
def evoBox (e : Nat) (x : Operand) (C : Cfg) (Q : Orc) (ny : Bool) (all : List Oper) (o : Oper) (K : AV → Prog Unit) : Prog Unit := tyP C e fun i => (match i.td with
      | .array _ _ => .fail
      | _ => rdF ny x fun v => pchk (noLo v) (v.cellsOf i fun cs => newB o.dst (.box i.agg cs) K))
def evoBuild (t : Nat) (parts : Array (Nat × Operand)) (C : Cfg) (Q : Orc) (ny : Bool) (all : List Oper) (o : Oper) (K : AV → Prog Unit) : Prog Unit := tyP C t fun i => zeroOf i fun z => rdParts ny (parts.toList) fun ps =>
      (match i.td with
      | .struct fs => pchk (fieldsOk C fs && z.isN i.size) (fillParts (fieldPl C fs) (zCells z) ps fun cs => K (mkAg cs))
      | .array _ e => tyP C e fun j => pchk (z.isN i.size) (fillParts (fun k => some (k * j.size, j)) (zCells z) ps fun cs => K (mkAg cs))
      | _ => .fail)
def evoBuildSlice (t : Nat) (len : Nat) (parts : Array (Nat × Operand)) (C : Cfg) (Q : Orc) (ny : Bool) (all : List Oper) (o : Oper) (K : AV → Prog Unit) : Prog Unit := tyP C t fun i => (match i.td with
      | .slice e => tyP C e fun j => zeroOf j fun z => rdParts ny (parts.toList) fun ps => bslA C o.dst len j z ps K
      | _ => .fail)
def evoInsert (_ : Nat) (_ : Operand) (_ : Operand) (_ : Operand) (C : Cfg) (Q : Orc) (ny : Bool) (all : List Oper) (o : Oper) (K : AV → Prog Unit) : Prog Unit := .fail
def evoLoad (t : Nat) (a : Operand) (C : Cfg) (Q : Orc) (ny : Bool) (all : List Oper) (o : Oper) (K : AV → Prog Unit) : Prog Unit := tyP C t fun i => rdF ny a fun v => evLoad i (isTaken all o.dst) o.dst v K
def evoStore (t : Nat) (a : Operand) (x : Operand) (C : Cfg) (Q : Orc) (ny : Bool) (all : List Oper) (o : Oper) (K : AV → Prog Unit) : Prog Unit := tyP C t fun i => rdF ny a fun u => rdF ny x fun v => evStore i u v (K (.c (.tp [])))
def evoReady (_ : Nat) (C : Cfg) (Q : Orc) (ny : Bool) (all : List Oper) (o : Oper) (K : AV → Prog Unit) : Prog Unit := .fail
def evoWaits (_ : Nat) (C : Cfg) (Q : Orc) (ny : Bool) (all : List Oper) (o : Oper) (K : AV → Prog Unit) : Prog Unit := .fail
def evoNilCheck (x : Operand) (C : Cfg) (Q : Orc) (ny : Bool) (all : List Oper) (o : Oper) (K : AV → Prog Unit) : Prog Unit := rdF ny x fun v => okP v K
def evoBinOp (op : BinOp) (t : Nat) (x : Operand) (y : Operand) (_ : Nat) (C : Cfg) (Q : Orc) (ny : Bool) (all : List Oper) (o : Oper) (K : AV → Prog Unit) : Prog Unit := tyP C t fun i => rdF ny x fun a => rdF ny y fun b => binA op i x y a b fun z => K (.c z)
def evoUnOp (op : UnOp) (_ : Nat) (x : Operand) (C : Cfg) (Q : Orc) (ny : Bool) (all : List Oper) (o : Oper) (K : AV → Prog Unit) : Prog Unit := rdcF ny x fun x => unA op x fun z => K (.c z)
def evoConvert (a : Nat) (b : Nat) (x : Operand) (C : Cfg) (Q : Orc) (ny : Bool) (all : List Oper) (o : Oper) (K : AV → Prog Unit) : Prog Unit := tyP C a fun i => tyP C b fun j => rdF ny x fun v =>
      convA i j (match i.td, j.td with
        | .slice e, _ => isByte C e
        | _, .slice e => isByte C e
        | _, _ => false) v K
def evoSliceToArrayPointer (_ : Nat) (_ : Operand) (C : Cfg) (Q : Orc) (ny : Bool) (all : List Oper) (o : Oper) (K : AV → Prog Unit) : Prog Unit := .fail
def evoMakeInterface (t : Nat) (x : Operand) (C : Cfg) (Q : Orc) (ny : Bool) (all : List Oper) (o : Oper) (K : AV → Prog Unit) : Prog Unit := tyP C t fun i => rdF ny x fun v => (match i.td with | .ifc => .fail | _ => pchk (noLo v) (K (mkIfc t v)))
def evoMakeFunc (f : Fn) (first : Array Operand) (capt : Array Operand) (C : Cfg) (Q : Orc) (ny : Bool) (all : List Oper) (o : Oper) (K : AV → Prog Unit) : Prog Unit := rds ny first.toList fun a => rds ny capt.toList fun b => pchk ((a ++ b).all noLo) (K (mkFn f a b))
def evoMakeMap (_ : Nat) (_ : Option Operand) (C : Cfg) (Q : Orc) (ny : Bool) (all : List Oper) (o : Oper) (K : AV → Prog Unit) : Prog Unit := .fail
def evoMakeChan (_ : Nat) (_ : Operand) (C : Cfg) (Q : Orc) (ny : Bool) (all : List Oper) (o : Oper) (K : AV → Prog Unit) : Prog Unit := .fail
def evoMakeSlice (t : Nat) (l : Operand) (cap : Operand) (C : Cfg) (Q : Orc) (ny : Bool) (all : List Oper) (o : Oper) (K : AV → Prog Unit) : Prog Unit := tyP C t fun i => (match i.td with
      | .slice e => tyP C e fun j => pchk (Nat.ble j.bytes 65536) (zeroOf j fun z => rdcF ny l fun l' => .look _ (lAny l') fun (_, n) => (match isZ l with
        | true => rdcF ny cap fun c' => .look _ (lAny c') fun (_, c) => .look _ (lUpto c maxLst) fun _ => pchk (z.isN j.size) (newL o.dst (.lst j.size []) K)
        | false => pchk (sameOpd (some l) (some cap) && z.isN j.size) (.look _ (lUpto n maxLst) fun n => mslA C o.dst n j z K)))
      | _ => .fail)
def evoSlice (t : Nat) (x : Operand) (lo : Option Operand) (hi : Option Operand) (mx : Option Operand) (C : Cfg) (Q : Orc) (ny : Bool) (all : List Oper) (o : Oper) (K : AV → Prog Unit) : Prog Unit := tyP C t fun i => rdF ny x fun v => sliceA C ny i (isCut all o) o.dst v lo hi mx K
def evoFieldAddr (t : Nat) (x : Operand) (f : Nat) (C : Cfg) (Q : Orc) (ny : Bool) (all : List Oper) (o : Oper) (K : AV → Prog Unit) : Prog Unit := tyP C t fun i => rdF ny x fun v => offOf i f fun n ft => tyP C ft fun j => pchk (Nat.blt 0 j.size) (v.plus n K)
def evoField (t : Nat) (x : Operand) (f : Nat) (C : Cfg) (Q : Orc) (ny : Bool) (all : List Oper) (o : Oper) (K : AV → Prog Unit) : Prog Unit := tyP C t fun i => rdF ny x fun v => offOf i f fun n ft => tyP C ft fun j => (match v with
      | .c x => fldCV j x n K
      | .ag l => ldCells j l n K
      | _ => .fail)
def evoIndexAddr (t : Nat) (x : Operand) (k : Operand) (C : Cfg) (Q : Orc) (ny : Bool) (all : List Oper) (o : Oper) (K : AV → Prog Unit) : Prog Unit := tyP C t fun i => rdF ny x fun v => rdcF ny k fun k => .look _ (lAny k) fun (_, k) => (match i.td, v with
      | .slice e, .sl n => tyP C e fun j => .blk n fun b => (match b with
        | some (.lst m xs) => pchk (Nat.beq m j.size) (.look _ (lIx k xs.length) fun k => K (.le n k 0))
        | some (.nst _ xs _) => pchk (Nat.beq j.size 1) (.look _ (lIx k xs.length) fun k => K (.le n k 0))
        | some (.fls xs) => imAddr j xs k K
        | _ => .fail)
      | .slice e, .ol id => tyP C e fun j => .out fun _ w => (match w.get id with
        | some (.lst m xs) => pchk (Nat.beq m j.size) (.look _ (lIx k xs.length) fun k => K (.oe id k 0))
        | some (.fls xs) => imAddr j xs k K
        | _ => .fail)
      | .slice e, .c x => tyP C e fun j => .look _ (lLst x) fun xs => imAddr j xs k K
      | .array len e, .pt n 0 => tyP C e fun j => .blk n fun b => (match b with
        | some (.lst m xs) => pchk (Nat.beq m j.size && Nat.beq len xs.length) (.look _ (lIx k xs.length) fun k => K (.le n k 0))
        | _ => .fail)
      | .array n e, .c (.ep a x o) => tyP C e fun j => .look _ (lIx k n) fun k => K (.c (.ep a x (o + k * j.size)))
      | _, _ => .fail)
def evoIndex (t : Nat) (x : Operand) (k : Operand) (C : Cfg) (Q : Orc) (ny : Bool) (all : List Oper) (o : Oper) (K : AV → Prog Unit) : Prog Unit := tyP C t fun i => rdcF ny x fun x => rdcF ny k fun k => .look _ (lAny k) fun (_, k) => (match i.td with
      | .str => .look _ (lStr x) fun t => .look _ (lIx k t.size) fun k => .look _ (lNth (ofBytes t) k) fun b => K (.c b)
      | .array n e => tyP C e fun j => .look _ (lIx k n) fun k => fldCV j x (k * j.size) K
      | _ => .fail)
def evoLookup (_ : Nat) (_ : Operand) (_ : Operand) (_ : Bool) (C : Cfg) (Q : Orc) (ny : Bool) (all : List Oper) (o : Oper) (K : AV → Prog Unit) : Prog Unit := .fail
def evoMapUpdate (_ : Nat) (_ : Operand) (_ : Operand) (_ : Operand) (C : Cfg) (Q : Orc) (ny : Bool) (all : List Oper) (o : Oper) (K : AV → Prog Unit) : Prog Unit := .fail
def evoMapEntry (_ : Nat) (_ : Operand) (_ : Operand) (C : Cfg) (Q : Orc) (ny : Bool) (all : List Oper) (o : Oper) (K : AV → Prog Unit) : Prog Unit := .fail
def evoEntryStore (_ : Nat) (_ : Operand) (_ : Operand) (_ : Operand) (C : Cfg) (Q : Orc) (ny : Bool) (all : List Oper) (o : Oper) (K : AV → Prog Unit) : Prog Unit := .fail
def evoRange (_ : Nat) (_ : Operand) (C : Cfg) (Q : Orc) (ny : Bool) (all : List Oper) (o : Oper) (K : AV → Prog Unit) : Prog Unit := .fail
def evoNext (_ : Operand) (_ : Bool) (C : Cfg) (Q : Orc) (ny : Bool) (all : List Oper) (o : Oper) (K : AV → Prog Unit) : Prog Unit := .fail
def evoEntry (_ : Operand) (C : Cfg) (Q : Orc) (ny : Bool) (all : List Oper) (o : Oper) (K : AV → Prog Unit) : Prog Unit := .fail
def evoTypeAssert (x : Operand) (_ : Nat) (a : Nat) (ok : Bool) (C : Cfg) (Q : Orc) (ny : Bool) (all : List Oper) (o : Oper) (K : AV → Prog Unit) : Prog Unit := tyP C a fun i => rdF ny x fun v => taA i a v ok K
def evoExtract (x : Operand) (k : Nat) (C : Cfg) (Q : Orc) (ny : Bool) (all : List Oper) (o : Oper) (K : AV → Prog Unit) : Prog Unit := rdF ny x fun v => (match v with
      | .c x => .look _ (lTp x) fun xs => popt xs[k]? fun y => K (.c y)
      | .tp l => (match l[k]? with | some v => K v | none => .fail)
      | _ => .fail)
def evoCall (c : Call) (C : Cfg) (Q : Orc) (ny : Bool) (all : List Oper) (o : Oper) (K : AV → Prog Unit) : Prog Unit := (match c.callee with
      | .builtin .len => (match c.args.toList, c.argTypes.toList with
        | [x], t :: _ => tyP C t fun i => rdF ny x fun v => (match i.td with
          | .array n _ => K (.c (.int .i64 n))
          | .str => v.cv fun x => .look _ (lStr x) fun t => K (.c (.int .i64 t.size))
          | .slice _ => lenA v fun k => K (.c (.int .i64 k))
          | _ => .fail)
        | _, _ => .fail)
      | .builtin .append => (match c.args.toList, c.argTypes.toList with
        | [x, y], [t, t'] => tyP C t fun i => tyP C t' fun i' => (match i.td with
          | .slice e => tyP C e fun j => zeroOf j fun z => pchk (Nat.ble j.bytes 65536 && noInt i'.td && z.isN j.size) (rdF ny x fun v => rdF ny y fun u => appendA o.dst j v u K)
          | _ => .fail)
        | _, _ => .fail)
      | .builtin .max => (match c.args.toList with
        | [x, y] => rdcF ny x fun x => rdcF ny y fun y => .look _ (lAny x) fun (k, a) => .look _ (lInt y k) fun b => K (.c (.int k (cond (decide (a < b)) b a)))
        | _ => .fail)
      | .builtin .min => (match c.args.toList with
        | [x, y] => rdcF ny x fun x => rdcF ny y fun y => .look _ (lAny x) fun (k, a) => .look _ (lInt y k) fun b => K (.c (.int k (cond (decide (b < a)) b a)))
        | _ => .fail)
      | .builtin _ => .fail
      | .value f => rdF ny f fun f => rds ny c.args.toList fun args => callV C Q f args K
      | .invoke rv name => rdF ny rv fun v => rds ny c.args.toList fun args => (match v with
        | .c z => .look _ (lIfc z) fun (t, x) => invA C Q t (.c x) name args K
        | .ifc t x => invA C Q t x name args K
        | _ => .fail))
def evoGo (_ : Call) (C : Cfg) (Q : Orc) (ny : Bool) (all : List Oper) (o : Oper) (K : AV → Prog Unit) : Prog Unit := .fail
def evoDefer (_ : Call) (C : Cfg) (Q : Orc) (ny : Bool) (all : List Oper) (o : Oper) (K : AV → Prog Unit) : Prog Unit := .fail
def evoPanic (_ : Operand) (C : Cfg) (Q : Orc) (ny : Bool) (all : List Oper) (o : Oper) (K : AV → Prog Unit) : Prog Unit := .fail
def evoSend (_ : Operand) (_ : Operand) (C : Cfg) (Q : Orc) (ny : Bool) (all : List Oper) (o : Oper) (K : AV → Prog Unit) : Prog Unit := .fail
def evoRecv (_ : Nat) (_ : Operand) (_ : Bool) (C : Cfg) (Q : Orc) (ny : Bool) (all : List Oper) (o : Oper) (K : AV → Prog Unit) : Prog Unit := .fail
def evoSelect (_ : Array SelectCase) (_ : Bool) (C : Cfg) (Q : Orc) (ny : Bool) (all : List Oper) (o : Oper) (K : AV → Prog Unit) : Prog Unit := .fail
abbrev OpT := Cfg → Orc → Bool → List Oper → Oper → (AV → Prog Unit) → Prog Unit
def evOpF (C : Cfg) (Q : Orc) (ny : Bool) (all : List Oper) (o : Oper) (K : AV → Prog Unit) : Prog Unit := Op.rec (motive := fun _ => OpT) evoMove evoAssign evoPick evoAlloc evoBox evoBuild evoBuildSlice evoInsert evoLoad evoStore evoReady evoWaits evoNilCheck evoBinOp evoUnOp evoConvert evoSliceToArrayPointer evoMakeInterface evoMakeFunc evoMakeMap evoMakeChan evoMakeSlice evoSlice evoFieldAddr evoField evoIndexAddr evoIndex evoLookup evoMapUpdate evoMapEntry evoEntryStore evoRange evoNext evoEntry evoTypeAssert evoExtract evoCall evoGo evoDefer evoPanic evoSend evoRecv evoSelect o.op C Q ny all o K
theorem evOpF_eq (C : Cfg) (Q : Orc) (ny : Bool) (all : List Oper) (o : Oper) (K : AV → Prog Unit) : evOpF C Q ny all o K = evOp C Q ny all o K := by
  have h1 : rdF = rd (α := Unit) := by funext a b c; exact rdF_eq a b c
  have h2 : rdcF = rdc (α := Unit) := by funext a b c; exact rdcF_eq a b c
  unfold evOp evOpF
  cases o.op <;> first | rfl | (dsimp only; simp only [evoMove, evoAssign, evoPick, evoAlloc, evoBox, evoBuild, evoBuildSlice, evoInsert, evoLoad, evoStore, evoReady, evoWaits, evoNilCheck, evoBinOp, evoUnOp, evoConvert, evoSliceToArrayPointer, evoMakeInterface, evoMakeFunc, evoMakeMap, evoMakeChan, evoMakeSlice, evoSlice, evoFieldAddr, evoField, evoIndexAddr, evoIndex, evoLookup, evoMapUpdate, evoMapEntry, evoEntryStore, evoRange, evoNext, evoEntry, evoTypeAssert, evoExtract, evoCall, evoGo, evoDefer, evoPanic, evoSend, evoRecv, evoSelect, h1, h2]; done) | (dsimp only; simp only [evoMove, evoAssign, evoPick, evoAlloc, evoBox, evoBuild, evoBuildSlice, evoInsert, evoLoad, evoStore, evoReady, evoWaits, evoNilCheck, evoBinOp, evoUnOp, evoConvert, evoSliceToArrayPointer, evoMakeInterface, evoMakeFunc, evoMakeMap, evoMakeChan, evoMakeSlice, evoSlice, evoFieldAddr, evoField, evoIndexAddr, evoIndex, evoLookup, evoMapUpdate, evoMapEntry, evoEntryStore, evoRange, evoNext, evoEntry, evoTypeAssert, evoExtract, evoCall, evoGo, evoDefer, evoPanic, evoSend, evoRecv, evoSelect, h1, h2]; rfl)

def dstK (d : Option Nat) (v : AV) : Prog Unit := Option.rec (motive := fun _ => Prog Unit) (.ret ()) (fun d => .setE d v (.ret ())) d
def opPF (C : Cfg) (Q : Orc) (ny : Bool) (all : List Oper) (o : Oper) : Prog Unit := evOpF C Q ny all o (dstK o.dst)
theorem opPF_eq (C : Cfg) (Q : Orc) (ny : Bool) (all : List Oper) (o : Oper) : opPF C Q ny all o = opP C Q ny all o := by
  unfold opPF opP
  rw [evOpF_eq]
  congr 1
  funext v
  unfold dstK
  cases o.dst <;> rfl
section
variable {R : Type}
abbrev OpsT (R : Type) := Cfg → Orc → Bool → List Oper → S → O → List Log → (S → O → List Log → Option R) → Option R
def opsNil : OpsT R := fun _ _ _ _ s w logs K => K s w logs
/-- an operation that stands under a guard -/
def opsG (o : Oper) (ih : OpsT R) (g : Nat × Bool) : OpsT R := fun C Q ny all s w logs K => match guardDst all g.1 with
      | some d => (match s.env d with
        | some .un => runF (skipP o) s w ⟨[.slot d], []⟩ fun _ s w l => ih C Q ny all s w (l :: logs) K
        | some (.c x) => x.asB fun b => ifb b
          (let s := putF s d (.c (.bool true)); match g.2 with
            | true => runF (opPF C Q ny all o) s w ⟨[.slot d], []⟩ fun _ s w l => ih C Q ny all s w (l :: logs) K
            | false => runF (skipP o) s w ⟨[.slot d], []⟩ fun _ s w l => ih C Q ny all s w (l :: logs) K)
          (let s := putF s d (.c (.bool false)); match g.2 with
            | false => runF (opPF C Q ny all o) s w ⟨[.slot d], []⟩ fun _ s w l => ih C Q ny all s w (l :: logs) K
            | true => runF (skipP o) s w ⟨[.slot d], []⟩ fun _ s w l => ih C Q ny all s w (l :: logs) K)
        | _ => none)
      | none => none
def opsN (o : Oper) (ih : OpsT R) : OpsT R := fun C Q ny all s w logs K => runF (opPF C Q ny all o) s w ⟨[], []⟩ fun _ s w l => ih C Q ny all s w (l :: logs) K
def opsCons (o : Oper) (_ : List Oper) (ih : OpsT R) : OpsT R := Option.rec (motive := fun _ => OpsT R) (opsN o ih) (opsG o ih) o.guard
def evOpsF (C : Cfg) (Q : Orc) (ny : Bool) (all : List Oper) (l : List Oper) : S → O → List Log → (S → O → List Log → Option R) → Option R := List.rec (motive := fun _ => OpsT R) opsNil opsCons l C Q ny all
theorem evOpsF_eq (C : Cfg) (Q : Orc) (ny : Bool) (all : List Oper) : ∀ (l : List Oper) (s : S) (w : O) (logs : List Log) (K : S → O → List Log → Option R), evOpsF C Q ny all l s w logs K = evOps C Q ny all l s w logs K
  | [], s, w, logs, K => rfl
  | o :: r, s, w, logs, K => by
    have ih := evOpsF_eq C Q ny all r
    have hk : (fun (_ : Unit) (s : S) (w : O) (l : Log) => evOpsF C Q ny all r s w (l :: logs) K) = fun _ s w l => evOps C Q ny all r s w (l :: logs) K := by funext _ s w l; exact ih _ _ _ _
    unfold evOps
    show Option.rec (motive := fun _ => OpsT R) (opsN o (fun C Q ny all => evOpsF C Q ny all r)) (opsG o (fun C Q ny all => evOpsF C Q ny all r)) o.guard C Q ny all s w logs K = _
    cases o.guard with
    | none => show runF _ _ _ _ _ = _; rw [runF_eq, opPF_eq, hk]
    | some g =>
      obtain ⟨j, want⟩ := g
      simp only [opsG, runF_eq, opPF_eq, hk, putF_eq]
      rcases guardDst all j with _ | d
      · rfl
      · dsimp only
        rcases s.env d with _ | v
        · rfl
        · cases v <;> first | rfl | (cases want <;> rfl)
def evRegionF (C : Cfg) (Q : Orc) (fid : Nat) (id : Nat) (ops : Array Oper) (draw : Bool) (s : S) (w : O) (K : S → O → Option R) : Option R :=
  match C.join fid id with
  | some ts => (match evOpsF C Q (C.nily fid) ops.toList ops.toList s w [] fun s' _ logs => chk (slotsOnly logs) (logOk draw ops logs (cvs s' ts)) with
      | some xs => K (putCs (s.del ops.toList) ts xs) w
      | none => none)
  | none => evOpsF C Q (C.nily fid) ops.toList ops.toList s w [] fun s w logs => logOk draw ops logs (K s w)
theorem evRegionF_eq (C : Cfg) (Q : Orc) (fid id : Nat) (ops : Array Oper) (draw : Bool) (s : S) (w : O) (K : S → O → Option R) : evRegionF C Q fid id ops draw s w K = evRegion C Q fid id ops draw s w K := by
  unfold evRegionF evRegion
  simp only [evOpsF_eq]
  rfl
/-! ### Code -/
abbrev CodeT (R : Type) := Cfg → Orc → Nat → S → O → (Ex → S → O → Option R) → Option R
def cSkip : CodeT R := fun _ _ _ s w K => K .normal s w
def cRegion (id : Nat) (ops : Array Oper) (draw : Bool) : CodeT R := fun C Q fid s w K => evRegionF C Q fid id ops draw s w fun s w => K .normal s w
def kSeq (ih : CodeT R) (C : Cfg) (Q : Orc) (fid : Nat) (K : Ex → S → O → Option R) (e : Ex) (s : S) (w : O) : Option R :=
  Ex.rec (motive := fun _ => Option R) (ih C Q fid s w K) (fun j => K (.exit j) s w) (K .ret s w) (fun rs => K (.retv rs) s w) e
def cSeq (_ _ : Code) (a b : CodeT R) : CodeT R := fun C Q fid s w K => a C Q fid s w (kSeq b C Q fid K)
def cCond (c : Operand) (_ _ : Code) (a b : CodeT R) : CodeT R := fun C Q fid s w K => (match c with
    | .tmp t => (match s.env t with
      | some (.c x) => x.ifB (a C Q fid s w K) (b C Q fid s w K)
      | _ => none)
    | .const (.bool t) => ifb t (a C Q fid s w K) (b C Q fid s w K)
    | _ => none)
def cLoop (id : Nat) (b : Code) : CodeT R := fun C Q fid s w K => (match C.loop fid id with
    | some h => runF (frzAll C h.2.2) s w ⟨[], []⟩ fun _ s w _ => (match mkT s h with
      | some T => chk T.ok (runF T.back s w ⟨[], []⟩ fun _ s w _ => match T.out s with
        | some xs => (match Q.loop fid b id T xs w with
          | some r => (match r with
            | .brk ys w => K .normal (T.st s.gen ys) w
            | .exi j ys w => (match hasOut id b with | true => K (.exit j) (T.st s.gen ys) w | false => none)
            | .ret rs w => (match hasRet b with | true => K (.retv rs) (T.st s.gen []) w | false => none))
          | none => none)
        | none => none)
      | none => none)
    | none => none)
def kBlock (id : Nat) (K : Ex → S → O → Option R) (e : Ex) (s : S) (w : O) : Option R :=
  Ex.rec (motive := fun _ => Option R) (K .normal s w) (fun j => cond (Nat.beq j id) (K .normal s w) (K (.exit j) s w)) (K .ret s w) (fun rs => K (.retv rs) s w) e
def cBlk (id : Nat) (ih : CodeT R) : CodeT R := fun C Q fid s w K => ih C Q fid s w (kBlock id K)
def loopOf (b : Code) : Option Code := Code.rec (motive := fun _ => Option Code) none (fun _ _ _ => none) (fun _ _ _ _ => none) (fun _ _ _ _ _ => none) (fun _ _ _ => none) (fun b _ => some b) (fun _ _ _ _ _ _ => none) (fun _ => none) (fun _ _ => none) (fun _ => none) (fun _ => none) none (fun _ => none) b
def cBlock (id : Nat) (b : Code) (ih : CodeT R) : CodeT R := Option.rec (motive := fun _ => CodeT R) (cBlk id ih) (cLoop id) (loopOf b)
def cExit (j : Nat) : CodeT R := fun _ _ _ s w K => K (.exit j) s w
def cRet : CodeT R := fun _ _ _ s w K => K .ret s w
def cNo : CodeT R := fun _ _ _ _ _ _ => none
def evCodeF (C : Cfg) (Q : Orc) (fid : Nat) (c : Code) : S → O → (Ex → S → O → Option R) → Option R :=
  Code.rec (motive := fun _ => CodeT R) cSkip cRegion cSeq cCond cBlock (fun _ _ => cNo) (fun _ _ _ _ _ _ => cNo) cExit (fun _ _ => cNo) (fun _ => cNo) (fun _ => cNo) cRet (fun _ => cNo) c C Q fid
theorem kSeq_eq {ih : CodeT R} {C : Cfg} {Q : Orc} {fid : Nat} {b : Code} (h : ∀ s w K, ih C Q fid s w K = evCode C Q fid b s w K) (K : Ex → S → O → Option R) : kSeq ih C Q fid K = fun e s w => match e with
    | .normal => evCode C Q fid b s w K
    | .exit j => K (.exit j) s w
    | .ret => K .ret s w
    | .retv rs => K (.retv rs) s w := by
  funext e s w
  cases e <;> first | rfl | exact h s w K
theorem kBlock_eq (id : Nat) (K : Ex → S → O → Option R) : kBlock id K = fun e s w => match e with
    | .normal => K .normal s w
    | .exit j => cond (Nat.beq j id) (K .normal s w) (K (.exit j) s w)
    | .ret => K .ret s w
    | .retv rs => K (.retv rs) s w := by
  funext e s w
  cases e <;> rfl
theorem blkF_ok {C : Cfg} {Q : Orc} {fid : Nat} {b : Code} (id : Nat) (hb : loopOf b = none) (hb' : ∀ b', b ≠ .loop b') (h : ∀ (s : S) (w : O) (K : Ex → S → O → Option R), evCodeF C Q fid b s w K = evCode C Q fid b s w K) (s : S) (w : O) (K : Ex → S → O → Option R) :
    evCodeF C Q fid (.block id b) s w K = evCode C Q fid (.block id b) s w K := by
  show Option.rec (motive := fun _ => CodeT R) (cBlk id (fun C Q fid => evCodeF C Q fid b)) (cLoop id) (loopOf b) C Q fid s w K = _
  rw [hb, evCode_block hb']
  show evCodeF C Q fid b s w (kBlock id K) = _
  rw [h, kBlock_eq]
  rfl
theorem evCodeF_eq (C : Cfg) (Q : Orc) (fid : Nat) : ∀ (c : Code) (s : S) (w : O) (K : Ex → S → O → Option R), evCodeF C Q fid c s w K = evCode C Q fid c s w K
  | .skip, s, w, K => rfl
  | .region id ops draw, s, w, K => evRegionF_eq C Q fid id ops draw s w _
  | .seq a b, s, w, K => by
    show evCodeF C Q fid a s w (kSeq (fun C Q fid => evCodeF C Q fid b) C Q fid K) = _
    rw [evCodeF_eq C Q fid a, kSeq_eq (ih := fun C Q fid => evCodeF C Q fid b) (b := b) (fun s w K => evCodeF_eq C Q fid b s w K)]
    rfl
  | .cond c a b, s, w, K => by
    show (match c with
      | .tmp t => (match s.env t with
        | some (.c x) => x.ifB (evCodeF C Q fid a s w K) (evCodeF C Q fid b s w K)
        | _ => none)
      | .const (.bool t) => ifb t (evCodeF C Q fid a s w K) (evCodeF C Q fid b s w K)
      | _ => none) = _
    rw [evCodeF_eq C Q fid a, evCodeF_eq C Q fid b]
    rfl
  | .block id (.loop b), s, w, K => by
    show cLoop id b C Q fid s w K = _
    simp only [cLoop, evCode, runF_eq]
    rfl
  | .block id .skip, s, w, K => rfl
  | .block id (.region i ops draw), s, w, K => blkF_ok id rfl (fun _ h => by cases h) (evCodeF_eq C Q fid _) s w K
  | .block id (.seq a b), s, w, K => blkF_ok id rfl (fun _ h => by cases h) (evCodeF_eq C Q fid _) s w K
  | .block id (.cond c a b), s, w, K => blkF_ok id rfl (fun _ h => by cases h) (evCodeF_eq C Q fid _) s w K
  | .block id (.block i b), s, w, K => blkF_ok id rfl (fun _ h => by cases h) (evCodeF_eq C Q fid _) s w K
  | .block id (.rangeFunc f ts a b), s, w, K => rfl
  | .block id (.exit j), s, w, K => rfl
  | .block id (.scope b), s, w, K => rfl
  | .block id (.label l), s, w, K => rfl
  | .block id (.goto l), s, w, K => rfl
  | .block id .ret, s, w, K => rfl
  | .block id (.refuse _), s, w, K => rfl
  | .loop b, s, w, K => rfl
  | .rangeFunc f ts a b, s, w, K => rfl
  | .exit j, s, w, K => rfl
  | .scope b, s, w, K => rfl
  | .label l, s, w, K => rfl
  | .goto l, s, w, K => rfl
  | .ret, s, w, K => rfl
  | .refuse _, s, w, K => rfl
end
/-! ### Loops, functions -/
def evResF {R : Type} (C : Cfg) (fid : Nat) (l : List ResultVar) (s : S) (w : O) (K : List AV → O → Option R) : Option R := runF (resP C (C.res fid) l .ret) s w ⟨[], []⟩ fun xs _ w _ => K xs w
theorem evResF_eq {R : Type} (C : Cfg) (fid : Nat) (l : List ResultVar) (s : S) (w : O) (K : List AV → O → Option R) : evResF C fid l s w K = evRes C fid l s w K := by unfold evResF evRes; rw [runF_eq]
def kLoop (C : Cfg) (Q : Orc) (fid : Nat) (b : Code) (id : Nat) (T : Tmpl) (e : Ex) (s : S) (w : O) : Option LR := match e with
    | .ret => (match C.fn fid with | some fn => evResF C fid fn.results.toList s w fun rs w => some (.ret rs w) | none => none)
    | .retv rs => some (.ret rs w)
    | .normal => runF T.back s w ⟨[], []⟩ fun _ s w _ => (match T.out s with | some ys => Q.loop fid b id T ys w | none => none)
    | .exit j => runF T.back s w ⟨[], []⟩ fun _ s w _ => (match T.out s with | some ys => cond (Nat.beq j id) (some (.brk ys w)) (some (.exi j ys w)) | none => none)
def evLoopF (C : Cfg) (Q : Orc) (fid : Nat) (b : Code) (id : Nat) (T : Tmpl) (xs : List CV) (w : O) : Option LR := evCodeF C Q fid b (T.st 0 xs) w (kLoop C Q fid b id T)
theorem evLoopF_eq (C : Cfg) (Q : Orc) (fid : Nat) (b : Code) (id : Nat) (T : Tmpl) (xs : List CV) (w : O) : evLoopF C Q fid b id T xs w = evLoop C Q fid b id T xs w := by
  unfold evLoopF evLoop
  rw [evCodeF_eq]
  congr 1
  funext e s w
  cases e <;> simp only [kLoop, runF_eq, evResF_eq] <;> rfl
def kBody (C : Cfg) (f : Nat) (n : Nat) (fn : Func) (e : Ex) (s : S) (w' : O) : Option (AV × O) := match e with
      | .exit _ => none
      | .retv rs => evEnd C fn n rs w' fun r w' => some (r, w')
      | _ => evResF C f fn.results.toList s w' fun rs w' => evEnd C fn n rs w' fun r w' => some (r, w')
def evBodyF (C : Cfg) (Q : Orc) (f : Nat) (args : List AV) (w : O) : Option (AV × O) := match C.fn f with
  | some fn => (match fn.body with
    | some c => evCodeF C Q f c ⟨inArgs 0 args, fun _ => none, 0⟩ w (kBody C f w.length fn)
    | none => none)
  | none => none
theorem evBodyF_eq (C : Cfg) (Q : Orc) (f : Nat) (args : List AV) (w : O) : evBodyF C Q f args w = evBody C Q f args w := by
  unfold evBodyF evBody
  cases C.fn f with
  | none => rfl
  | some fn =>
    dsimp only
    cases fn.body with
    | none => rfl
    | some c =>
      dsimp only
      rw [evCodeF_eq]
      congr 1
      funext e s w
      cases e <;> simp only [kBody, evResF_eq]
def orcF (C : Cfg) : Nat → Orc
  | 0 => ⟨fun _ _ => none, fun _ _ _ => none, fun _ _ _ _ _ _ => none⟩
  | n + 1 => ⟨fun f xs => match prmOf C f xs with | some r => some r | none => cond (C.two f) (runTwo (fun xs => closed (evBodyF C (orcF C n) f (xs.map AV.c) [])) xs) (closed (evBodyF C (orcF C n) f (xs.map AV.c) [])),
      fun f as_ w => evBodyF C (orcF C n) f as_ w,
      fun f b id T xs w => evLoopF C (orcF C n) f b id T xs w⟩
theorem orcF_eq (C : Cfg) : ∀ n, orcF C n = orc C n
  | 0 => rfl
  | n + 1 => by
    unfold orcF orc
    rw [orcF_eq C n]
    simp only [evBodyF_eq, evLoopF_eq]
    rfl
end
end Go.Ev
/- Tables of sixteen: what a kernel's run over the numbers says of every number. -/
namespace Go.Ev
open Go
theorem tab_lt {α : Type} {rows : List (List α)} {n : Nat} {x : α} (h : tab rows n = some x) : n < 16 * rows.length := by
  unfold tab at h
  split at h
  · rename_i r hr
    have := (List.getElem?_eq_some_iff.mp hr).1
    omega
  · cases h
theorem tab_mem {α : Type} {rows : List (List α)} {n : Nat} {x : α} (h : tab rows n = some x) : x ∈ rows.flatten := by
  unfold tab at h
  split at h
  · rename_i r hr
    exact List.mem_flatten.mpr ⟨r, List.mem_of_getElem? hr, List.mem_of_getElem? h⟩
  · cases h
theorem range_same {β : Type} {f g : Nat → β} {n : Nat} (h : (List.range n).map f = (List.range n).map g) {k : Nat} (hk : k < n) : f k = g k := by
  have := congrArg (fun l => l[k]?) h
  simp only [List.getElem?_map, List.getElem?_range hk, Option.map_some] at this
  injection this
theorem clo_of [Glob] {C : Cfg} {n f : Nat} {xs : List CV} {r : CV} (hp : prmOf C f xs = none) (h2 : C.two f = false) (h : closed (evBodyF C (orcF C n) f (xs.map AV.c) []) = some r) : (orcF C (n + 1)).clo f xs = some r := by
  show (match prmOf C f xs with | some r => some r | none => cond (C.two f) (runTwo (fun xs => closed (evBodyF C (orcF C n) f (xs.map AV.c) [])) xs) (closed (evBodyF C (orcF C n) f (xs.map AV.c) []))) = some r
  rw [hp, h2]
  exact h
def goOk (fn : Func) : Bool := !(fn.name == "runtime.NumGoroutine") && match fn.body with | some c => codeOk fn.ntmps c | none => true
/-- What is known of the program, by the kernel's runs over its tables. -/
theorem ok_of [Glob] {P : Program} {C : Cfg} {types : List (List TypeInfo)} {funcs : List (List Func)} {n m : Nat} (h1 : C.ty = mkTI (tab types)) (h2 : C.fn = tab funcs) (hn : n = 16 * types.length) (hm : m = 16 * funcs.length)
    (hty : (List.range n).map (tab types) = (List.range n).map (fun t => P.info? t)) (hfn : (List.range m).map (tab funcs) = (List.range m).map (fun t => P.funcs[t]?))
    (hok : funcs.flatten.all goOk = true) (hmix : P.follows .mixedOrders = true) : Ok P C ∧ CodesOk C := by
  have key : ∀ f fn, tab funcs f = some fn → goOk fn = true := fun f fn h => List.all_eq_true.mp hok fn (tab_mem h)
  refine ⟨⟨?_, ?_, hmix⟩, ?_⟩
  · intro t i h
    rw [h1] at h
    exact mkTI_is (fun t i h => (range_same hty (by rw [hn]; exact tab_lt h)).symm.trans h) t i h
  · intro f fn h
    rw [h2] at h
    have k := key f fn h
    unfold goOk at k
    rw [Bool.and_eq_true] at k
    exact ⟨(range_same hfn (by rw [hm]; exact tab_lt h)).symm.trans h, by simpa using k.1⟩
  · intro f fn c h hc
    rw [h2] at h
    have k := key f fn h
    unfold goOk at k
    rw [Bool.and_eq_true, hc] at k
    exact k.2
end Go.Ev
/- From the interpreter's contract to what a row asks of a call: it returns true, and nothing that was there is turned. -/
namespace Go.Ev
open Go Go.RowKit
variable [Glob]
def immI (w : World) : Nat → Role := fun r => if r < w.heap.size then .imm else .no
theorem CloC.law {P : Program} {f : Nat} {xs : List CV} (h : CloC P f xs (.bool true)) (w : World) (args : List Value) (hb : Base w (immI w)) (hv : VRs w (immI w) xs args) :
    Calls P f args.toArray w fun e w' => e = .returned (.bool true) ∧ Below w.heap.size w w' := by
  refine Calls.mono (h w (immI w) args (fun r hr => ?_) (fun r k hk => ?_) hb hv) ?_
  · unfold immI at hr; split at hr
    · assumption
    · exact absurd rfl hr
  · unfold immI at hk; split at hk <;> cases hk
  · rintro e w' ⟨v, J, he, _, _, _, hx, hv⟩
    cases hv
    exact ⟨he, hx.os, hx.tape, hx.output, hx.size, fun k hk => (hx.block k hk fun j e => by unfold immI at e; rw [if_pos hk] at e; cases e).1⟩
theorem immI_lt {w : World} {r : Nat} (h : r < w.heap.size) : immI w r = .imm := if_pos h
/-- A table of numbers holds them. -/
theorem memAt_tab {w : World} {g : Nat} {k : IntKind} {zs : List Int} (h : ∀ i, i < zs.length → w.cell? ⟨g, i, none⟩ = some (.int k (zs.getD i 0))) : MemAt w g 0 (zs.map fun z => Value.int k z) := fun i v hv => by
  rw [List.getElem?_map, Option.map_eq_some_iff] at hv
  obtain ⟨z, hz, rfl⟩ := hv
  obtain ⟨hi, hz'⟩ := List.getElem?_eq_some_iff.mp hz
  rw [Nat.zero_add]
  refine ⟨?_, rfl⟩
  rw [h i hi, List.getD_eq_getElem?_getD, hz]; rfl
theorem vrs_tab {w : World} {I : Nat → Role} {k : IntKind} : ∀ (zs : List Int), VRs w I (zs.map fun z => CV.int k z) (zs.map fun z => Value.int k z)
  | [] => .nil
  | z :: zs => .cons _ _ _ _ (.int k z) (vrs_tab zs)
theorem block_lt {w : World} {g i : Nat} {v : Value} (h : w.cell? ⟨g, i, none⟩ = some v) : g < w.heap.size := by
  apply Classical.byContradiction
  intro hn
  have : w.heap[g]? = none := Array.getElem?_eq_none (by omega)
  unfold World.cell? at h
  simp [this] at h
end Go.Ev
