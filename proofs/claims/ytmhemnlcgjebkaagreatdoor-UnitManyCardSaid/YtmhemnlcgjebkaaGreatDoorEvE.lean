/- An interpreter of the model's code that the kernel can run, and the proof that what it answers the model answers, part 5 of 5. No condition. -/
import Derived.Test.YtmhemnlcgjebkaaGreatDoorEvD
import Derived.Below
import Derived.Lib.LaidTab
set_option linter.unusedVariables false
set_option linter.unusedSectionVars false
set_option linter.unusedSimpArgs false
set_option linter.unnecessarySimpa false
/- The interpreter once more, in a form that the kernel runs faster (few and small terms), with the proof that it is the same. -/
namespace Go.Ev
open Go
noncomputable section
variable [Glob]
/-! ### Slots -/
def updA (f : Nat → Option AV) (t : Nat) (x : AV) : Nat → Option AV := fun u => Bool.rec (motive := fun _ => Option AV) (f u) (some x) (Nat.beq u t)
def updB (f : Nat → Option Blk) (t : Nat) (x : Blk) : Nat → Option Blk := fun u => Bool.rec (motive := fun _ => Option Blk) (f u) (some x) (Nat.beq u t)
theorem updA_eq (f : Nat → Option AV) (t : Nat) (x : AV) : updA f t x = upd f t x := funext fun u => by unfold updA upd; cases Nat.beq u t <;> rfl
theorem updB_eq (f : Nat → Option Blk) (t : Nat) (x : Blk) : updB f t x = upd f t x := funext fun u => by unfold updB upd; cases Nat.beq u t <;> rfl
def putF (s : S) (t : Nat) (v : AV) : S := ⟨updA s.env t v, s.own, s.gen⟩
def blkF (s : S) (b : Nat) (x : Blk) : S := ⟨s.env, updB s.own b x, s.gen⟩
theorem putF_eq (s : S) (t : Nat) (v : AV) : putF s t v = s.put t v := by unfold putF S.put; rw [updA_eq]
theorem blkF_eq (s : S) (t : Nat) (v : Blk) : blkF s t v = s.blk t v := by unfold blkF S.blk; rw [updB_eq]
/-! ### States of templates -/
abbrev SlT := List CV → (Nat → Option AV) × List CV
def slNil : SlT := fun xs => (fun _ => none, xs)
def slTwo (t : Nat) (ih : SlT) (c : AV × List CV) : (Nat → Option AV) × List CV := (updA (ih c.2).1 t c.1, (ih c.2).2)
def slCons (p : Nat × Sh) (_ : List (Nat × Sh)) (ih : SlT) : SlT := fun xs => slTwo p.1 ih (inOne p.2 xs)
def inSlotsF (l : List (Nat × Sh)) : SlT := List.rec (motive := fun _ => SlT) slNil slCons l
theorem inSlotsF_eq : ∀ (l : List (Nat × Sh)) (xs : List CV), inSlotsF l xs = inSlots l xs
  | [], xs => rfl
  | (t, h) :: l, xs => by
    show (updA (inSlotsF l (inOne h xs).2).1 t (inOne h xs).1, (inSlotsF l (inOne h xs).2).2) = _
    rw [inSlotsF_eq l, updA_eq]; rfl
abbrev LsT := Nat → List CV → (Nat → Option Blk) → (Nat → Option Blk)
def lsNil : LsT := fun _ _ f => f
def lsCons (m : Nat × Bool) (_ : List (Nat × Bool)) (ih : LsT) : LsT := fun k xs f => updB (ih (k + 1) xs.tail f) (lname k) (inList m.1 m.2 (lstOf (g xs 0)))
def inListsF (k : Nat) (l : List (Nat × Bool)) : List CV → (Nat → Option Blk) → (Nat → Option Blk) := List.rec (motive := fun _ => LsT) lsNil lsCons l k
theorem inListsF_eq : ∀ (l : List (Nat × Bool)) (k : Nat) (xs : List CV) (f : Nat → Option Blk), inListsF k l xs f = inLists k l xs f
  | [], k, xs, f => rfl
  | m :: l, k, xs, f => by
    show updB (inListsF (k + 1) l xs.tail f) _ _ = _
    rw [inListsF_eq l, updB_eq]; rfl
abbrev BxT := List (Nat × Nat) → List (Nat × Bool) → List CV → (Nat → Option Blk)
def bxNil : BxT := fun st ls xs => inListsF 0 ls xs (inStay st)
def bxTwo (b : Nat) (a : Bool) (ih : BxT) (st : List (Nat × Nat)) (ls : List (Nat × Bool)) (c : List AV × List CV) : Nat → Option Blk := updB (ih st ls c.2) b (.box a c.1)
def bxCons (p : Nat × Bool × List Sh) (_ : List (Nat × Bool × List Sh)) (ih : BxT) : BxT := fun st ls xs => bxTwo p.1 p.2.1 ih st ls (inCells p.2.2 xs)
def inBoxesF (st : List (Nat × Nat)) (ls : List (Nat × Bool)) (l : List (Nat × Bool × List Sh)) : List CV → (Nat → Option Blk) := List.rec (motive := fun _ => BxT) bxNil bxCons l st ls
theorem inBoxesF_eq (st : List (Nat × Nat)) (ls : List (Nat × Bool)) : ∀ (l : List (Nat × Bool × List Sh)) (xs : List CV), inBoxesF st ls l xs = inBoxes st ls l xs
  | [], xs => inListsF_eq _ _ _ _
  | (b, a, h) :: l, xs => by
    show updB (inBoxesF st ls l (inCells h xs).2) b (.box a (inCells h xs).1) = _
    rw [inBoxesF_eq st ls l, updB_eq]; rfl
def stTwo (T : Tmpl) (gen : Nat) (a : (Nat → Option AV) × List CV) : S := ⟨a.1, inBoxesF T.stay T.lists T.boxes a.2, gen⟩
def stF (T : Tmpl) (gen : Nat) (xs : List CV) : S := stTwo T gen (inSlotsF T.slots xs)
theorem stF_eq (T : Tmpl) (gen : Nat) (xs : List CV) : stF T gen xs = T.st gen xs := by
  unfold stF stTwo Tmpl.st
  rw [inSlotsF_eq, inBoxesF_eq]
abbrev ArT := Nat → (Nat → Option AV)
def arNil : ArT := fun _ _ => none
def arCons (v : AV) (_ : List AV) (ih : ArT) : ArT := fun t => updA (ih (t + 1)) t v
def inArgsF (t : Nat) (l : List AV) : Nat → Option AV := List.rec (motive := fun _ => ArT) arNil arCons l t
theorem inArgsF_eq : ∀ (l : List AV) (t : Nat), inArgsF t l = inArgs t l
  | [], t => rfl
  | v :: l, t => by
    show updA (inArgsF (t + 1) l) t v = _
    rw [inArgsF_eq l, updA_eq]; rfl
/-! ### Runs -/
abbrev RunT (α R : Type) := S → O → Log → (α → S → O → Log → Option R) → Option R
def rRet {α R : Type} (x : α) : RunT α R := fun s w l K => K x s w l
def rFail {α R : Type} : RunT α R := fun _ _ _ _ => none
def rLook {α R : Type} (β : Type) (f : Look β) (_ : β → Prog α) (ih : β → RunT α R) : RunT α R := fun s w l K => f.f fun b => ih b s w l K
def rEnv {α R : Type} (t : Nat) (_ : AV → Prog α) (ih : AV → RunT α R) : RunT α R := fun s w l K => Option.rec (motive := fun _ => Option R) none (fun v => ih v s w (l.r (.slot t)) K) (s.env t)
def rBlk {α R : Type} (b : Nat) (_ : Option Blk → Prog α) (ih : Option Blk → RunT α R) : RunT α R := fun s w l K => ih (s.own b) s w (l.r (.blk b)) K
def rOut {α R : Type} (_ : Nat → O → Prog α) (ih : Nat → O → RunT α R) : RunT α R := fun s w l K => ih s.gen w s w ((l.r .out).rs (outLs w.length)) K
def rSetE {α R : Type} (t : Nat) (v : AV) (_ : Prog α) (ih : RunT α R) : RunT α R := fun s w l K => ih (putF s t v) w (l.w (.slot t)) K
def rSetB {α R : Type} (b : Nat) (x : Blk) (_ : Prog α) (ih : RunT α R) : RunT α R := fun s w l K => ih (blkF s b x) w ((l.w (.blk b)).w (.kind b)) K
def rKind {α R : Type} (b : Nat) (_ : Option Nat → Prog α) (ih : Option Nat → RunT α R) : RunT α R := fun s w l K => ih (kindOf (s.own b)) s w (l.r (.kind b)) K
def rSetL {α R : Type} (b : Nat) (xs : List CV) (_ : Prog α) (ih : RunT α R) : RunT α R := fun s w l K => Option.rec (motive := fun _ => Option R) none (fun m => ih (blkF s b (.lst m xs)) w ((l.r (.kind b)).w (.blk b)) K) (kindOf (s.own b))
def rSetO {α R : Type} (o : O) (_ : Prog α) (ih : RunT α R) : RunT α R := fun s w l K => ih s.tick o ((l.w .out).ws (outLs (Nat.max w.length o.length))) K
def rOutB {α R : Type} (id : Nat) (_ : Option Blk → Prog α) (ih : Option Blk → RunT α R) : RunT α R := fun s w l K => ih (w.get id) s w (l.r (.outB id)) K
def rSetOB {α R : Type} (id : Nat) (b : Blk) (_ : Prog α) (ih : RunT α R) : RunT α R := fun s w l K => Option.rec (motive := fun _ => Option R) none (fun _ => ih s (w.put id b) ((l.r (.outB id)).w (.outB id)) K) (w.get id)
def runF {α R : Type} (p : Prog α) : RunT α R := Prog.rec (motive := fun _ => RunT α R) rRet rFail rLook rEnv rBlk rOut rSetE rSetB rKind rSetL rSetO rOutB rSetOB p
theorem runF_eq {α R : Type} (p : Prog α) : ∀ (s : S) (w : O) (l : Log) (K : α → S → O → Log → Option R), runF p s w l K = p.run s w l K := by
  induction p with
  | ret x => intro s w l K; rfl
  | fail => intro s w l K; rfl
  | look β f k ih => intro s w l K; simp only [Prog.run]; exact congrArg f.f (funext fun b => ih b s w l K)
  | env t k ih =>
    intro s w l K
    simp only [Prog.run]
    show Option.rec (motive := fun _ => Option R) none (fun v => runF (k v) s w (l.r (.slot t)) K) (s.env t) = _
    cases s.env t with
    | none => rfl
    | some v => exact ih v s w _ K
  | blk b k ih => intro s w l K; simp only [Prog.run]; exact ih _ s w _ K
  | out k ih => intro s w l K; simp only [Prog.run]; exact ih _ _ s w _ K
  | setE t v k ih => intro s w l K; simp only [Prog.run]; show runF k (putF s t v) w _ K = k.run (s.put t v) w _ K; rw [putF_eq]; exact ih _ _ _ _
  | setB b x k ih => intro s w l K; simp only [Prog.run]; show runF k (blkF s b x) w _ K = k.run (s.blk b x) w _ K; rw [blkF_eq]; exact ih _ _ _ _
  | kind b k ih => intro s w l K; simp only [Prog.run]; exact ih _ s w _ K
  | setL b xs k ih =>
    intro s w l K
    simp only [Prog.run]
    show Option.rec (motive := fun _ => Option R) none (fun m => runF k (blkF s b (.lst m xs)) w _ K) (kindOf (s.own b)) = _
    cases kindOf (s.own b) with
    | none => rfl
    | some m => show runF k (blkF s b (.lst m xs)) w _ K = _; rw [blkF_eq]; exact ih _ _ _ _
  | setO o k ih => intro s w l K; simp only [Prog.run]; exact ih _ _ _ _
  | outB id k ih => intro s w l K; simp only [Prog.run]; exact ih _ s w _ K
  | setOB id b k ih =>
    intro s w l K
    simp only [Prog.run]
    show Option.rec (motive := fun _ => Option R) none (fun _ => runF k s (w.put id b) _ K) (w.get id) = _
    cases w.get id with
    | none => rfl
    | some m => exact ih _ _ _ _
/-! ### Operations -/
def rdTmp (t : Nat) (_ : Bool) (K : AV → Prog Unit) : Prog Unit := .env t K
def rdConst (v : Value) (ny : Bool) (K : AV → Prog Unit) : Prog Unit := Option.rec (motive := fun _ => Prog Unit) .fail K (constAV ny v)
def rdGlob (g : Nat) (_ : Bool) (K : AV → Prog Unit) : Prog Unit := (match Glob.glob g with | some p => K (.c (.ep p.1 p.2 0)) | none => .fail)
def rdFunc (f : Nat) (_ : Bool) (K : AV → Prog Unit) : Prog Unit := K (.c (.fn (.func f) [] []))
def rdF (ny : Bool) (x : Operand) (K : AV → Prog Unit) : Prog Unit := Operand.rec (motive := fun _ => Bool → (AV → Prog Unit) → Prog Unit) rdTmp rdConst rdGlob rdFunc x ny K
theorem rdF_eq (ny : Bool) (x : Operand) (K : AV → Prog Unit) : rdF ny x K = rd ny x K := by
  cases x with
  | const v =>
    show Option.rec (motive := fun _ => Prog Unit) .fail K (constAV ny v) = match constAV ny v with | some v => K v | none => .fail
    cases constAV ny v <;> rfl
  | _ => rfl
def rdcF (ny : Bool) (x : Operand) (K : CV → Prog Unit) : Prog Unit := rdF ny x fun v => v.cv K
theorem rdcF_eq (ny : Bool) (x : Operand) (K : CV → Prog Unit) : rdcF ny x K = rdc ny x K := rdF_eq ny x _
def evoMove (x : Operand) (C : Cfg) (Q : Orc) (ny : Bool) (all : List Oper) (o : Oper) (K : AV → Prog Unit) : Prog Unit := rdF ny x K
def evoAssign (x : Operand) (C : Cfg) (Q : Orc) (ny : Bool) (all : List Oper) (o : Oper) (K : AV → Prog Unit) : Prog Unit := rdF ny x K
def evoPick (c : Operand) (a : Operand) (b : Operand) (C : Cfg) (Q : Orc) (ny : Bool) (all : List Oper) (o : Oper) (K : AV → Prog Unit) : Prog Unit := rdcF ny c fun t => .look _ (lB t) fun t => .look _ (lIfb t) fun t => (match t with | true => rdF ny a K | false => rdF ny b K)
def evoAlloc (e : Nat) (C : Cfg) (Q : Orc) (ny : Bool) (all : List Oper) (o : Oper) (K : AV → Prog Unit) : Prog Unit := tyP C e fun i => zeroOf i fun z => pchk (z.isN i.size && (i.agg || Nat.beq i.size 1)) (newB o.dst (.box i.agg (zCells z)) K)
def evoBox (e : Nat) (x : Operand) (C : Cfg) (Q : Orc) (ny : Bool) (all : List Oper) (o : Oper) (K : AV → Prog Unit) : Prog Unit := tyP C e fun i => rdF ny x fun v => pchk (noLo v) (v.cellsOf i fun cs => newB o.dst (.box i.agg cs) K)
def evoBuild (t : Nat) (parts : Array (Nat × Operand)) (C : Cfg) (Q : Orc) (ny : Bool) (all : List Oper) (o : Oper) (K : AV → Prog Unit) : Prog Unit := tyP C t fun i => zeroOf i fun z => rdParts ny (parts.toList) fun ps =>
      (match i.td with
      | .struct fs => pchk (fieldsOk C fs && z.isN i.size) (fillParts (fieldPl C fs) (zCells z) ps fun cs => K (mkAg cs))
      | .array _ e => tyP C e fun j => pchk (z.isN i.size) (fillParts (fun k => some (k * j.size, j)) (zCells z) ps fun cs => K (mkAg cs))
      | _ => .fail)
def evoBuildSlice (t : Nat) (len : Nat) (parts : Array (Nat × Operand)) (C : Cfg) (Q : Orc) (ny : Bool) (all : List Oper) (o : Oper) (K : AV → Prog Unit) : Prog Unit := tyP C t fun i => (match i.td with
      | .slice e => tyP C e fun j => zeroOf j fun z => rdParts ny (parts.toList) fun ps => bslA C o.dst len j z ps K
      | _ => .fail)
def evoInsert (t : Nat) (m : Operand) (k : Operand) (v : Operand) (C : Cfg) (Q : Orc) (ny : Bool) (all : List Oper) (o : Oper) (K : AV → Prog Unit) : Prog Unit := tyP C t fun i => rdF ny m fun m => rdcF ny k fun k => rdF ny v fun v => insA C i m k v K
def evoLoad (t : Nat) (a : Operand) (C : Cfg) (Q : Orc) (ny : Bool) (all : List Oper) (o : Oper) (K : AV → Prog Unit) : Prog Unit := tyP C t fun i => rdF ny a fun v => evLoad i (isTaken all o.dst) o.dst v K
def evoStore (t : Nat) (a : Operand) (x : Operand) (C : Cfg) (Q : Orc) (ny : Bool) (all : List Oper) (o : Oper) (K : AV → Prog Unit) : Prog Unit := tyP C t fun i => rdF ny a fun u => rdF ny x fun v => evStore i u v (K (.c (.tp [])))
def evoReady (_ : Nat) (C : Cfg) (Q : Orc) (ny : Bool) (all : List Oper) (o : Oper) (K : AV → Prog Unit) : Prog Unit := .fail
def evoWaits (_ : Nat) (C : Cfg) (Q : Orc) (ny : Bool) (all : List Oper) (o : Oper) (K : AV → Prog Unit) : Prog Unit := .fail
def evoNilCheck (x : Operand) (C : Cfg) (Q : Orc) (ny : Bool) (all : List Oper) (o : Oper) (K : AV → Prog Unit) : Prog Unit := rdF ny x fun v => okP v K
def evoBinOp (op : BinOp) (t : Nat) (x : Operand) (y : Operand) (_ : Nat) (C : Cfg) (Q : Orc) (ny : Bool) (all : List Oper) (o : Oper) (K : AV → Prog Unit) : Prog Unit := tyP C t fun i => rdF ny x fun a => rdF ny y fun b => binA op i x y a b fun z => K (.c z)
def evoUnOp (op : UnOp) (_ : Nat) (x : Operand) (C : Cfg) (Q : Orc) (ny : Bool) (all : List Oper) (o : Oper) (K : AV → Prog Unit) : Prog Unit := rdcF ny x fun x => unA op x fun z => K (.c z)
def evoConvert (a : Nat) (b : Nat) (x : Operand) (C : Cfg) (Q : Orc) (ny : Bool) (all : List Oper) (o : Oper) (K : AV → Prog Unit) : Prog Unit := tyP C a fun i => tyP C b fun j => rdF ny x fun v =>
      convA i j (match i.td, j.td with
        | .slice e, _ => isByte C e
        | _, .slice e => isByte C e
        | _, _ => false) v K
def evoSliceToArrayPointer (_ : Nat) (_ : Operand) (C : Cfg) (Q : Orc) (ny : Bool) (all : List Oper) (o : Oper) (K : AV → Prog Unit) : Prog Unit := .fail
def evoMakeInterface (t : Nat) (x : Operand) (C : Cfg) (Q : Orc) (ny : Bool) (all : List Oper) (o : Oper) (K : AV → Prog Unit) : Prog Unit := tyP C t fun i => rdF ny x fun v => (match i.td with | .ifc => .fail | _ => pchk (noLo v) (K (mkIfc t v)))
def evoMakeFunc (f : Fn) (first : Array Operand) (capt : Array Operand) (C : Cfg) (Q : Orc) (ny : Bool) (all : List Oper) (o : Oper) (K : AV → Prog Unit) : Prog Unit := rds ny first.toList fun a => rds ny capt.toList fun b => pchk ((a ++ b).all noLo) (K (mkFn f a b))
def evoMakeMap (_ : Nat) (r : Option Operand) (C : Cfg) (Q : Orc) (ny : Bool) (all : List Oper) (o : Oper) (K : AV → Prog Unit) : Prog Unit := newM r K
def evoMakeChan (_ : Nat) (_ : Operand) (C : Cfg) (Q : Orc) (ny : Bool) (all : List Oper) (o : Oper) (K : AV → Prog Unit) : Prog Unit := .fail
def evoMakeSlice (t : Nat) (l : Operand) (cap : Operand) (C : Cfg) (Q : Orc) (ny : Bool) (all : List Oper) (o : Oper) (K : AV → Prog Unit) : Prog Unit := tyP C t fun i => (match i.td with
      | .slice e => tyP C e fun j => pchk (Nat.ble j.bytes 65536) (zeroOf j fun z => rdcF ny l fun l' => .look _ (lAny l') fun (_, n) => (match isZ l with
        | true => rdcF ny cap fun c' => .look _ (lAny c') fun (_, c) => .look _ (lUpto c maxLst) fun _ => pchk (z.isN j.size) (newL o.dst (.lst j.size []) K)
        | false => pchk (sameOpd (some l) (some cap) && z.isN j.size) (.look _ (lUpto n maxLst) fun n => mslA C o.dst n j z K)))
      | _ => .fail)
def evoSlice (t : Nat) (x : Operand) (lo : Option Operand) (hi : Option Operand) (mx : Option Operand) (C : Cfg) (Q : Orc) (ny : Bool) (all : List Oper) (o : Oper) (K : AV → Prog Unit) : Prog Unit := tyP C t fun i => rdF ny x fun v => sliceB C ny i (isCut all o) o.dst v lo hi mx K
def evoFieldAddr (t : Nat) (x : Operand) (f : Nat) (C : Cfg) (Q : Orc) (ny : Bool) (all : List Oper) (o : Oper) (K : AV → Prog Unit) : Prog Unit := tyP C t fun i => rdF ny x fun v => offOf i f fun n ft => tyP C ft fun j => pchk (Nat.blt 0 j.size) (v.plus n K)
def evoField (t : Nat) (x : Operand) (f : Nat) (C : Cfg) (Q : Orc) (ny : Bool) (all : List Oper) (o : Oper) (K : AV → Prog Unit) : Prog Unit := tyP C t fun i => rdF ny x fun v => offOf i f fun n ft => tyP C ft fun j => (match v with
      | .c x => fldCV j x n K
      | .ag l => ldCells j l n K
      | _ => .fail)
def evoIndexAddr (t : Nat) (x : Operand) (k : Operand) (C : Cfg) (Q : Orc) (ny : Bool) (all : List Oper) (o : Oper) (K : AV → Prog Unit) : Prog Unit := tyP C t fun i => rdF ny x fun v => rdcF ny k fun k => .look _ (lAny k) fun (_, k) => (match i.td, v with
      | .slice e, .sl n => tyP C e fun j => .blk n fun b => (match b with
        | some (.lst m xs) => pchk (Nat.beq m j.size) (.look _ (lIx k xs.length) fun k => K (.le n k 0))
        | some (.nst _ xs _) => pchk (Nat.beq j.size 1) (.look _ (lIx k xs.length) fun k => K (.le n k 0))
        | some (.fls xs) => imAddr j xs k K
        | some (.movedL id) => .outB id fun q => (match q with
          | some (.lst m xs) => pchk (Nat.beq m j.size) (.look _ (lIx k xs.length) fun k => K (.oe id k 0))
          | _ => .fail)
        | _ => .fail)
      | .slice e, .ol id => tyP C e fun j => .outB id fun q => (match q with
        | some (.lst m xs) => pchk (Nat.beq m j.size) (.look _ (lIx k xs.length) fun k => K (.oe id k 0))
        | some (.fls xs) => imAddr j xs k K
        | some (.lsp _ xs) => imAddr j xs k K
        | some (.rls xs) => pchk (Nat.beq j.size 1) (.look _ (lIx k xs.length) fun k => K (.oe id k 0))
        | _ => .fail)
      | .slice e, .ov id q => tyP C e fun j => .out fun _ w => (match w.get id with
        | some (.lst m xs) => pchk (Nat.beq m j.size) (.look _ (lIx k (xs.length - q)) fun k => K (.oe id (q + k) 0))
        | _ => .fail)
      | .slice e, .c x => tyP C e fun j => .look _ (lLst x) fun xs => imAddr j xs k K
      | .array len e, .pt n o => tyP C e fun j => .look _ (lIx k len) fun k => K (.pt n (o + k * j.size))
      | .array len e, .po id o => tyP C e fun j => .look _ (lIx k len) fun k => K (.po id (o + k * j.size))
      | .array n e, .c (.ep a x o) => tyP C e fun j => .look _ (lIx k n) fun k => K (.c (.ep a x (o + k * j.size)))
      | _, _ => .fail)
def evoIndex (t : Nat) (x : Operand) (k : Operand) (C : Cfg) (Q : Orc) (ny : Bool) (all : List Oper) (o : Oper) (K : AV → Prog Unit) : Prog Unit := tyP C t fun i => rdcF ny x fun x => rdcF ny k fun k => .look _ (lAny k) fun (_, k) => (match i.td with
      | .str => .look _ (lStr x) fun t => .look _ (lIx k t.size) fun k => popt t.data.toList[k]? fun b => K (.c (.int .u8 (Int.ofNat b.toNat)))
      | .array n e => tyP C e fun j => .look _ (lIx k n) fun k => fldCV j x (k * j.size) K
      | _ => .fail)
def evoLookup (t : Nat) (x : Operand) (k : Operand) (ok : Bool) (C : Cfg) (Q : Orc) (ny : Bool) (all : List Oper) (o : Oper) (K : AV → Prog Unit) : Prog Unit := tyP C t fun i => rdF ny x fun m => rdcF ny k fun k => lookA C i m k ok K
def evoMapUpdate (t : Nat) (m : Operand) (k : Operand) (v : Operand) (C : Cfg) (Q : Orc) (ny : Bool) (all : List Oper) (o : Oper) (K : AV → Prog Unit) : Prog Unit := tyP C t fun i => rdF ny m fun m => rdcF ny k fun k => rdF ny v fun v => insA C i m k v K
def evoMapEntry (_ : Nat) (_ : Operand) (_ : Operand) (C : Cfg) (Q : Orc) (ny : Bool) (all : List Oper) (o : Oper) (K : AV → Prog Unit) : Prog Unit := .fail
def evoEntryStore (_ : Nat) (_ : Operand) (_ : Operand) (_ : Operand) (C : Cfg) (Q : Orc) (ny : Bool) (all : List Oper) (o : Oper) (K : AV → Prog Unit) : Prog Unit := .fail
def evoRange (t : Nat) (x : Operand) (C : Cfg) (Q : Orc) (ny : Bool) (all : List Oper) (o : Oper) (K : AV → Prog Unit) : Prog Unit := tyP C t fun i => rdF ny x fun v => rangeA i v K
def evoNext (x : Operand) (isS : Bool) (C : Cfg) (Q : Orc) (ny : Bool) (all : List Oper) (o : Oper) (K : AV → Prog Unit) : Prog Unit := rdF ny x fun v => nextA v isS K
def evoEntry (_ : Operand) (C : Cfg) (Q : Orc) (ny : Bool) (all : List Oper) (o : Oper) (K : AV → Prog Unit) : Prog Unit := .fail
def evoTypeAssert (x : Operand) (_ : Nat) (a : Nat) (ok : Bool) (C : Cfg) (Q : Orc) (ny : Bool) (all : List Oper) (o : Oper) (K : AV → Prog Unit) : Prog Unit := tyP C a fun i => rdF ny x fun v => taA i a v ok K
def evoExtract (x : Operand) (k : Nat) (C : Cfg) (Q : Orc) (ny : Bool) (all : List Oper) (o : Oper) (K : AV → Prog Unit) : Prog Unit := rdF ny x fun v => (match v with
      | .c x => .look _ (lTp x) fun xs => popt xs[k]? fun y => K (.c y)
      | .tp l => (match l[k]? with | some v => K v | none => .fail)
      | _ => .fail)
def evoCall (c : Call) (C : Cfg) (Q : Orc) (ny : Bool) (all : List Oper) (o : Oper) (K : AV → Prog Unit) : Prog Unit := (match c.callee with
      | .builtin .len => (match c.args.toList, c.argTypes.toList with
        | [x], t :: _ => tyP C t fun i => rdF ny x fun v => (match i.td with
          | .array n _ => K (.c (.int .i64 n))
          | .str => v.cv fun x => .look _ (lStr x) fun t => K (.c (.int .i64 t.size))
          | .slice _ => lenA v fun k => K (.c (.int .i64 k))
          | _ => .fail)
        | _, _ => .fail)
      | .builtin .append => (match c.args.toList, c.argTypes.toList with
        | [x, y], [t, t'] => tyP C t fun i => tyP C t' fun i' => (match i.td with
          | .slice e => tyP C e fun j => zeroOf j fun z => pchk (Nat.ble j.bytes 65536 && noInt i'.td && z.isN j.size) (rdF ny x fun v => rdF ny y fun u => appendA o.dst j v u K)
          | _ => .fail)
        | _, _ => .fail)
      | .builtin .max => (match c.args.toList with
        | [x, y] => rdcF ny x fun x => rdcF ny y fun y => .look _ (lAny x) fun (k, a) => .look _ (lInt y k) fun b => K (.c (.int k (cond (decide (a < b)) b a)))
        | _ => .fail)
      | .builtin .min => (match c.args.toList with
        | [x, y] => rdcF ny x fun x => rdcF ny y fun y => .look _ (lAny x) fun (k, a) => .look _ (lInt y k) fun b => K (.c (.int k (cond (decide (b < a)) b a)))
        | _ => .fail)
      | .builtin .clear => (match c.args.toList, c.argTypes.toList with
        | [x], t :: _ => tyP C t fun i => rdF ny x fun v => clearA C i v K
        | _, _ => .fail)
      | .builtin _ => .fail
      | .value f => rdF ny f fun f => rds ny c.args.toList fun args => callV C Q f args K
      | .invoke rv name => rdF ny rv fun v => rds ny c.args.toList fun args => (match v with
        | .c z => .look _ (lIfc z) fun (t, x) => invA C Q t (.c x) name args K
        | .ifc t x => invA C Q t x name args K
        | _ => .fail))
def evoGo (_ : Call) (C : Cfg) (Q : Orc) (ny : Bool) (all : List Oper) (o : Oper) (K : AV → Prog Unit) : Prog Unit := .fail
def evoDefer (_ : Call) (C : Cfg) (Q : Orc) (ny : Bool) (all : List Oper) (o : Oper) (K : AV → Prog Unit) : Prog Unit := .fail
def evoPanic (_ : Operand) (C : Cfg) (Q : Orc) (ny : Bool) (all : List Oper) (o : Oper) (K : AV → Prog Unit) : Prog Unit := .fail
def evoSend (_ : Operand) (_ : Operand) (C : Cfg) (Q : Orc) (ny : Bool) (all : List Oper) (o : Oper) (K : AV → Prog Unit) : Prog Unit := .fail
def evoRecv (_ : Nat) (_ : Operand) (_ : Bool) (C : Cfg) (Q : Orc) (ny : Bool) (all : List Oper) (o : Oper) (K : AV → Prog Unit) : Prog Unit := .fail
def evoSelect (_ : Array SelectCase) (_ : Bool) (C : Cfg) (Q : Orc) (ny : Bool) (all : List Oper) (o : Oper) (K : AV → Prog Unit) : Prog Unit := .fail
abbrev OpT := Cfg → Orc → Bool → List Oper → Oper → (AV → Prog Unit) → Prog Unit
def evOpF (C : Cfg) (Q : Orc) (ny : Bool) (all : List Oper) (o : Oper) (K : AV → Prog Unit) : Prog Unit := Op.rec (motive := fun _ => OpT) evoMove evoAssign evoPick evoAlloc evoBox evoBuild evoBuildSlice evoInsert evoLoad evoStore evoReady evoWaits evoNilCheck evoBinOp evoUnOp evoConvert evoSliceToArrayPointer evoMakeInterface evoMakeFunc evoMakeMap evoMakeChan evoMakeSlice evoSlice evoFieldAddr evoField evoIndexAddr evoIndex evoLookup evoMapUpdate evoMapEntry evoEntryStore evoRange evoNext evoEntry evoTypeAssert evoExtract evoCall evoGo evoDefer evoPanic evoSend evoRecv evoSelect o.op C Q ny all o K
theorem evOpF_eq (C : Cfg) (Q : Orc) (ny : Bool) (all : List Oper) (o : Oper) (K : AV → Prog Unit) : evOpF C Q ny all o K = evOp C Q ny all o K := by
  have h1 : rdF = rd (α := Unit) := by funext a b c; exact rdF_eq a b c
  have h2 : rdcF = rdc (α := Unit) := by funext a b c; exact rdcF_eq a b c
  unfold evOp evOpF
  cases o.op <;> first | rfl | (dsimp only; simp only [evoMove, evoAssign, evoPick, evoAlloc, evoBox, evoBuild, evoBuildSlice, evoInsert, evoLoad, evoStore, evoReady, evoWaits, evoNilCheck, evoBinOp, evoUnOp, evoConvert, evoSliceToArrayPointer, evoMakeInterface, evoMakeFunc, evoMakeMap, evoMakeChan, evoMakeSlice, evoSlice, evoFieldAddr, evoField, evoIndexAddr, evoIndex, evoLookup, evoMapUpdate, evoMapEntry, evoEntryStore, evoRange, evoNext, evoEntry, evoTypeAssert, evoExtract, evoCall, evoGo, evoDefer, evoPanic, evoSend, evoRecv, evoSelect, h1, h2]; done) | (dsimp only; simp only [evoMove, evoAssign, evoPick, evoAlloc, evoBox, evoBuild, evoBuildSlice, evoInsert, evoLoad, evoStore, evoReady, evoWaits, evoNilCheck, evoBinOp, evoUnOp, evoConvert, evoSliceToArrayPointer, evoMakeInterface, evoMakeFunc, evoMakeMap, evoMakeChan, evoMakeSlice, evoSlice, evoFieldAddr, evoField, evoIndexAddr, evoIndex, evoLookup, evoMapUpdate, evoMapEntry, evoEntryStore, evoRange, evoNext, evoEntry, evoTypeAssert, evoExtract, evoCall, evoGo, evoDefer, evoPanic, evoSend, evoRecv, evoSelect, h1, h2]; rfl)

def dstK (d : Option Nat) (v : AV) : Prog Unit := Option.rec (motive := fun _ => Prog Unit) (.ret ()) (fun d => .setE d v (.ret ())) d
def opPF (C : Cfg) (Q : Orc) (ny : Bool) (all : List Oper) (o : Oper) : Prog Unit := evOpF C Q ny all o (dstK o.dst)
theorem opPF_eq (C : Cfg) (Q : Orc) (ny : Bool) (all : List Oper) (o : Oper) : opPF C Q ny all o = opP C Q ny all o := by
  unfold opPF opP
  rw [evOpF_eq]
  congr 1
  funext v
  unfold dstK
  cases o.dst <;> rfl
section
variable {R : Type}
abbrev OpsT (R : Type) := Cfg → Orc → Bool → List Oper → S → O → List Log → (S → O → List Log → Option R) → Option R
def opsNil : OpsT R := fun _ _ _ _ s w logs K => K s w logs
/-- an operation that stands under a guard -/
def opsG (o : Oper) (ih : OpsT R) (g : Nat × Bool) : OpsT R := fun C Q ny all s w logs K => match guardDst all g.1 with
      | some d => (match s.env d with
        | some .un => runF (skipP o) s w ⟨[.slot d], []⟩ fun _ s w l => ih C Q ny all s w (l :: logs) K
        | some (.c x) => x.asB fun b => ifb b
          (let s := putF s d (.c (.bool true)); match g.2 with
            | true => runF (opPF C Q ny all o) s w ⟨[.slot d], []⟩ fun _ s w l => ih C Q ny all s w (l :: logs) K
            | false => runF (skipP o) s w ⟨[.slot d], []⟩ fun _ s w l => ih C Q ny all s w (l :: logs) K)
          (let s := putF s d (.c (.bool false)); match g.2 with
            | false => runF (opPF C Q ny all o) s w ⟨[.slot d], []⟩ fun _ s w l => ih C Q ny all s w (l :: logs) K
            | true => runF (skipP o) s w ⟨[.slot d], []⟩ fun _ s w l => ih C Q ny all s w (l :: logs) K)
        | _ => none)
      | none => none
def opsN (o : Oper) (ih : OpsT R) : OpsT R := fun C Q ny all s w logs K => runF (opPF C Q ny all o) s w ⟨[], []⟩ fun _ s w l => ih C Q ny all s w (l :: logs) K
def opsCons (o : Oper) (_ : List Oper) (ih : OpsT R) : OpsT R := Option.rec (motive := fun _ => OpsT R) (opsN o ih) (opsG o ih) o.guard
def evOpsF (C : Cfg) (Q : Orc) (ny : Bool) (all : List Oper) (l : List Oper) : S → O → List Log → (S → O → List Log → Option R) → Option R := List.rec (motive := fun _ => OpsT R) opsNil opsCons l C Q ny all
theorem evOpsF_eq (C : Cfg) (Q : Orc) (ny : Bool) (all : List Oper) : ∀ (l : List Oper) (s : S) (w : O) (logs : List Log) (K : S → O → List Log → Option R), evOpsF C Q ny all l s w logs K = evOps C Q ny all l s w logs K
  | [], s, w, logs, K => rfl
  | o :: r, s, w, logs, K => by
    have ih := evOpsF_eq C Q ny all r
    have hk : (fun (_ : Unit) (s : S) (w : O) (l : Log) => evOpsF C Q ny all r s w (l :: logs) K) = fun _ s w l => evOps C Q ny all r s w (l :: logs) K := by funext _ s w l; exact ih _ _ _ _
    unfold evOps
    show Option.rec (motive := fun _ => OpsT R) (opsN o (fun C Q ny all => evOpsF C Q ny all r)) (opsG o (fun C Q ny all => evOpsF C Q ny all r)) o.guard C Q ny all s w logs K = _
    cases o.guard with
    | none => show runF _ _ _ _ _ = _; rw [runF_eq, opPF_eq, hk]
    | some g =>
      obtain ⟨j, want⟩ := g
      simp only [opsG, runF_eq, opPF_eq, hk, putF_eq]
      rcases guardDst all j with _ | d
      · rfl
      · dsimp only
        rcases s.env d with _ | v
        · rfl
        · cases v <;> first | rfl | (cases want <;> rfl)
def evRegionF (C : Cfg) (Q : Orc) (fid : Nat) (id : Nat) (ops : Array Oper) (draw : Bool) (s : S) (w : O) (K : S → O → Option R) : Option R :=
  match C.join fid id with
  | some ts => (match evOpsF C Q (C.nily fid) ops.toList ops.toList s w [] fun s' _ logs => chk (slotsOnly logs) (logOk draw ops logs (cvs s' ts)) with
      | some xs => K (putCs (s.del ops.toList) ts xs) w
      | none => none)
  | none => evOpsF C Q (C.nily fid) ops.toList ops.toList s w [] fun s w logs => logOk draw ops logs (K s w)
theorem evRegionF_eq (C : Cfg) (Q : Orc) (fid id : Nat) (ops : Array Oper) (draw : Bool) (s : S) (w : O) (K : S → O → Option R) : evRegionF C Q fid id ops draw s w K = evRegion C Q fid id ops draw s w K := by
  unfold evRegionF evRegion
  simp only [evOpsF_eq]
  rfl
/-! ### Code -/
abbrev CodeT (R : Type) := Cfg → Orc → Nat → S → O → (Ex → S → O → Option R) → Option R
def cSkip : CodeT R := fun _ _ _ s w K => K .normal s w
def cRegion (id : Nat) (ops : Array Oper) (draw : Bool) : CodeT R := fun C Q fid s w K => evRegionF C Q fid id ops draw s w fun s w => K .normal s w
def kSeq (ih : CodeT R) (C : Cfg) (Q : Orc) (fid : Nat) (K : Ex → S → O → Option R) (e : Ex) (s : S) (w : O) : Option R :=
  Ex.rec (motive := fun _ => Option R) (ih C Q fid s w K) (fun j => K (.exit j) s w) (K .ret s w) (fun rs => K (.retv rs) s w) e
def kTwo (C : Cfg) (fid : Nat) (h : List (Nat × Nat) × List (Nat × List Nat) × List Nat) (gen : Nat) (K : Ex → S → O → Option R) (sA : S) (wA : O) (e : Ex) (sB : S) (wB : O) : Option R := match e with
  | .normal => meetT h gen sA wA sB wB (K .normal)
  | _ => none
def kOne (b : CodeT R) (C : Cfg) (Q : Orc) (fid : Nat) (p : Array Oper × List (Nat × Nat) × List (Nat × List Nat) × List Nat) (s : S) (w : O) (K : Ex → S → O → Option R) (e : Ex) (sA : S) (wA : O) : Option R := match e with
  | .normal => runIx C Q (C.nily fid) p.1 [0, 2, 1, 3] s w fun sB wB => b C Q fid sB wB (kTwo C fid p.2 s.gen K sA wA)
  | _ => none
def cTwo (b : CodeT R) (C : Cfg) (Q : Orc) (fid : Nat) (s : S) (w : O) (K : Ex → S → O → Option R) (p : Array Oper × List (Nat × Nat) × List (Nat × List Nat) × List Nat) : Option R := runIx C Q (C.nily fid) p.1 [0, 1, 2, 3] s w fun sA wA => b C Q fid sA wA (kOne b C Q fid p s w K)
def cSeq (x _ : Code) (a b : CodeT R) : CodeT R := fun C Q fid s w K => Option.rec (motive := fun _ => Option R) (a C Q fid s w (kSeq b C Q fid K)) (cTwo b C Q fid s w K) (chOf C fid x)
def cCond (c : Operand) (_ _ : Code) (a b : CodeT R) : CodeT R := fun C Q fid s w K => (match c with
    | .tmp t => (match s.env t with
      | some (.c x) => x.ifB (a C Q fid s w K) (b C Q fid s w K)
      | _ => none)
    | .const (.bool t) => ifb t (a C Q fid s w K) (b C Q fid s w K)
    | _ => none)
def cLoop (id : Nat) (b : Code) : CodeT R := fun C Q fid s w K => (match C.loop fid id with
    | some h => runF (frzAll C h.2.2) s w ⟨[], []⟩ fun _ s w _ => (match mkT s h with
      | some T => chk T.ok (runF T.back s w ⟨[], []⟩ fun _ s w _ => match T.out s with
        | some xs => (match Q.loop fid b id T xs w with
          | some r => conR (C.shl fid id) r fun r => (match r with
            | .brk ys w => K .normal (stF T s.gen ys) w
            | .exi j ys w => (match hasOut id b with | true => K (.exit j) (stF T s.gen ys) w | false => none)
            | .ret rs w => (match hasRet b with | true => K (.retv rs) (stF T s.gen []) w | false => none))
          | none => none)
        | none => none)
      | none => none)
    | none => none)
def kBlock (id : Nat) (K : Ex → S → O → Option R) (e : Ex) (s : S) (w : O) : Option R :=
  Ex.rec (motive := fun _ => Option R) (K .normal s w) (fun j => cond (Nat.beq j id) (K .normal s w) (K (.exit j) s w)) (K .ret s w) (fun rs => K (.retv rs) s w) e
def cBlk (id : Nat) (ih : CodeT R) : CodeT R := fun C Q fid s w K => ih C Q fid s w (kBlock id K)
def loopOf (b : Code) : Option Code := Code.rec (motive := fun _ => Option Code) none (fun _ _ _ => none) (fun _ _ _ _ => none) (fun _ _ _ _ _ => none) (fun _ _ _ => none) (fun b _ => some b) (fun _ _ _ _ _ _ => none) (fun _ => none) (fun _ _ => none) (fun _ => none) (fun _ => none) none (fun _ => none) b
def cBlock (id : Nat) (b : Code) (ih : CodeT R) : CodeT R := Option.rec (motive := fun _ => CodeT R) (cBlk id ih) (cLoop id) (loopOf b)
def cExit (j : Nat) : CodeT R := fun _ _ _ s w K => K (.exit j) s w
def cRet : CodeT R := fun _ _ _ s w K => K .ret s w
def cNo : CodeT R := fun _ _ _ _ _ _ => none
def evCodeF (C : Cfg) (Q : Orc) (fid : Nat) (c : Code) : S → O → (Ex → S → O → Option R) → Option R :=
  Code.rec (motive := fun _ => CodeT R) cSkip cRegion cSeq cCond cBlock (fun _ _ => cNo) (fun _ _ _ _ _ _ => cNo) cExit (fun _ ih => ih) (fun _ => cSkip) (fun _ => cNo) cRet (fun _ => cNo) c C Q fid
theorem kSeq_eq {ih : CodeT R} {C : Cfg} {Q : Orc} {fid : Nat} {b : Code} (h : ∀ s w K, ih C Q fid s w K = evCode C Q fid b s w K) (K : Ex → S → O → Option R) : kSeq ih C Q fid K = fun e s w => match e with
    | .normal => evCode C Q fid b s w K
    | .exit j => K (.exit j) s w
    | .ret => K .ret s w
    | .retv rs => K (.retv rs) s w := by
  funext e s w
  cases e <;> first | rfl | exact h s w K
theorem kBlock_eq (id : Nat) (K : Ex → S → O → Option R) : kBlock id K = fun e s w => match e with
    | .normal => K .normal s w
    | .exit j => cond (Nat.beq j id) (K .normal s w) (K (.exit j) s w)
    | .ret => K .ret s w
    | .retv rs => K (.retv rs) s w := by
  funext e s w
  cases e <;> rfl
theorem blkF_ok {C : Cfg} {Q : Orc} {fid : Nat} {b : Code} (id : Nat) (hb : loopOf b = none) (hb' : ∀ b', b ≠ .loop b') (h : ∀ (s : S) (w : O) (K : Ex → S → O → Option R), evCodeF C Q fid b s w K = evCode C Q fid b s w K) (s : S) (w : O) (K : Ex → S → O → Option R) :
    evCodeF C Q fid (.block id b) s w K = evCode C Q fid (.block id b) s w K := by
  show Option.rec (motive := fun _ => CodeT R) (cBlk id (fun C Q fid => evCodeF C Q fid b)) (cLoop id) (loopOf b) C Q fid s w K = _
  rw [hb, evCode_block hb']
  show evCodeF C Q fid b s w (kBlock id K) = _
  rw [h, kBlock_eq]
  all_goals rfl
theorem evCodeF_eq (C : Cfg) (Q : Orc) (fid : Nat) : ∀ (c : Code) (s : S) (w : O) (K : Ex → S → O → Option R), evCodeF C Q fid c s w K = evCode C Q fid c s w K
  | .skip, s, w, K => rfl
  | .region id ops draw, s, w, K => evRegionF_eq C Q fid id ops draw s w _
  | .seq a b, s, w, K => by
    show Option.rec (motive := fun _ => Option R) (evCodeF C Q fid a s w (kSeq (fun C Q fid => evCodeF C Q fid b) C Q fid K)) (cTwo (fun C Q fid => evCodeF C Q fid b) C Q fid s w K) (chOf C fid a) = _
    rw [evCodeF_eq C Q fid a, kSeq_eq (ih := fun C Q fid => evCodeF C Q fid b) (b := b) (fun s w K => evCodeF_eq C Q fid b s w K)]
    simp only [evCode]
    cases chOf C fid a with
    | none => rfl
    | some p =>
      obtain ⟨ops, h⟩ := p
      show runIx C Q (C.nily fid) ops [0, 1, 2, 3] s w (fun sA wA => evCodeF C Q fid b sA wA (kOne (fun C Q fid => evCodeF C Q fid b) C Q fid (ops, h) s w K)) = _
      congr 1
      funext sA wA
      rw [evCodeF_eq C Q fid b]
      congr 1
      funext e sA' wA'
      cases e <;> first | rfl | skip
      show runIx C Q (C.nily fid) ops [0, 2, 1, 3] s w (fun sB wB => evCodeF C Q fid b sB wB (kTwo C fid h s.gen K sA' wA')) = _
      congr 1
      funext sB wB
      rw [evCodeF_eq C Q fid b]
      first
        | done
        | rfl
        | (congr 1; funext e sB' wB'; cases e <;> rfl)
  | .cond c a b, s, w, K => by
    show (match c with
      | .tmp t => (match s.env t with
        | some (.c x) => x.ifB (evCodeF C Q fid a s w K) (evCodeF C Q fid b s w K)
        | _ => none)
      | .const (.bool t) => ifb t (evCodeF C Q fid a s w K) (evCodeF C Q fid b s w K)
      | _ => none) = _
    rw [evCodeF_eq C Q fid a, evCodeF_eq C Q fid b]
    rfl
  | .block id (.loop b), s, w, K => by
    show cLoop id b C Q fid s w K = _
    simp only [cLoop, evCode, runF_eq, stF_eq]
    rfl
  | .block id .skip, s, w, K => rfl
  | .block id (.region i ops draw), s, w, K => blkF_ok id rfl (fun _ h => by cases h) (evCodeF_eq C Q fid _) s w K
  | .block id (.seq a b), s, w, K => blkF_ok id rfl (fun _ h => by cases h) (evCodeF_eq C Q fid _) s w K
  | .block id (.cond c a b), s, w, K => blkF_ok id rfl (fun _ h => by cases h) (evCodeF_eq C Q fid _) s w K
  | .block id (.block i b), s, w, K => blkF_ok id rfl (fun _ h => by cases h) (evCodeF_eq C Q fid _) s w K
  | .block id (.rangeFunc f ts a b), s, w, K => rfl
  | .block id (.exit j), s, w, K => rfl
  | .block id (.scope b), s, w, K => blkF_ok id rfl (fun _ h => by cases h) (evCodeF_eq C Q fid _) s w K
  | .block id (.label l), s, w, K => blkF_ok id rfl (fun _ h => by cases h) (evCodeF_eq C Q fid _) s w K
  | .block id (.goto l), s, w, K => rfl
  | .block id .ret, s, w, K => rfl
  | .block id (.refuse _), s, w, K => rfl
  | .loop b, s, w, K => rfl
  | .rangeFunc f ts a b, s, w, K => rfl
  | .exit j, s, w, K => rfl
  | .scope b, s, w, K => by
    show evCodeF C Q fid b s w K = _
    rw [evCodeF_eq C Q fid b]
    rfl
  | .label l, s, w, K => rfl
  | .goto l, s, w, K => rfl
  | .ret, s, w, K => rfl
  | .refuse _, s, w, K => rfl
end
/-! ### Loops, functions -/
def evResF {R : Type} (C : Cfg) (fid : Nat) (l : List ResultVar) (s : S) (w : O) (K : List AV → O → Option R) : Option R := runF (resP C (C.res fid) l .ret) s w ⟨[], []⟩ fun xs _ w _ => K xs w
theorem evResF_eq {R : Type} (C : Cfg) (fid : Nat) (l : List ResultVar) (s : S) (w : O) (K : List AV → O → Option R) : evResF C fid l s w K = evRes C fid l s w K := by unfold evResF evRes; rw [runF_eq]
def kLoop (C : Cfg) (Q : Orc) (fid : Nat) (b : Code) (id : Nat) (T : Tmpl) (e : Ex) (s : S) (w : O) : Option LR := match e with
    | .ret => (match C.fn fid with | some fn => evResF C fid fn.results.toList s w fun rs w => some (.ret rs w) | none => none)
    | .retv rs => some (.ret rs w)
    | .normal => runF T.back s w ⟨[], []⟩ fun _ s w _ => runF (frzEnd (endsOf C fid id)) s w ⟨[], []⟩ fun _ s w _ => (match T.out s with | some ys => Q.loop fid b id T ys w | none => none)
    | .exit j => runF T.back s w ⟨[], []⟩ fun _ s w _ => runF (frzEnd (endsOf C fid id)) s w ⟨[], []⟩ fun _ s w _ => (match T.out s with | some ys => cond (Nat.beq j id) (some (.brk ys w)) (some (.exi j ys w)) | none => none)
def evLoopF (C : Cfg) (Q : Orc) (fid : Nat) (b : Code) (id : Nat) (T : Tmpl) (xs : List CV) (w : O) : Option LR := evCodeF C Q fid b (stF T 0 xs) w (kLoop C Q fid b id T)
theorem evLoopF_eq (C : Cfg) (Q : Orc) (fid : Nat) (b : Code) (id : Nat) (T : Tmpl) (xs : List CV) (w : O) : evLoopF C Q fid b id T xs w = evLoop C Q fid b id T xs w := by
  unfold evLoopF evLoop
  rw [evCodeF_eq, stF_eq]
  congr 1
  funext e s w
  cases e <;> simp only [kLoop, runF_eq, evResF_eq] <;> rfl
def kBody (C : Cfg) (f : Nat) (n : Nat) (fn : Func) (e : Ex) (s : S) (w' : O) : Option (AV × O) := match e with
      | .exit _ => none
      | .retv rs => evEnd C fn n rs w' fun r w' => some (r, w')
      | _ => evResF C f fn.results.toList s w' fun rs w' => evEnd C fn n rs w' fun r w' => some (r, w')
def evBodyF (C : Cfg) (Q : Orc) (f : Nat) (args : List AV) (w : O) : Option (AV × O) := match C.fn f with
  | some fn => (match fn.body with
    | some c => evCodeF C Q f c ⟨inArgsF 0 args, fun _ => none, 0⟩ w (kBody C f w.length fn)
    | none => none)
  | none => none
theorem evBodyF_eq (C : Cfg) (Q : Orc) (f : Nat) (args : List AV) (w : O) : evBodyF C Q f args w = evBody C Q f args w := by
  unfold evBodyF evBody
  cases C.fn f with
  | none => rfl
  | some fn =>
    dsimp only
    cases fn.body with
    | none => rfl
    | some c =>
      dsimp only
      rw [evCodeF_eq, inArgsF_eq]
      congr 1
      funext e s w
      cases e <;> simp only [kBody, evResF_eq]
def orcF (C : Cfg) : Nat → Orc
  | 0 => ⟨fun _ _ => none, fun _ _ _ => none, fun _ _ _ _ _ _ => none⟩
  | n + 1 => ⟨fun f xs => match prmOf C f xs with | some r => some r | none => cond (C.two f) (runTwo (fun xs => closed (evBodyF C (orcF C n) f (xs.map AV.c) [])) xs) (closed (evBodyF C (orcF C n) f (xs.map AV.c) [])),
      fun f as_ w => cond (C.two f) (runTwoA (fun xs w => evBodyF C (orcF C n) f xs w) as_ w) (evBodyF C (orcF C n) f as_ w),
      fun f b id T xs w => evLoopF C (orcF C n) f b id T xs w⟩
theorem orcF_eq (C : Cfg) : ∀ n, orcF C n = orc C n
  | 0 => rfl
  | n + 1 => by
    unfold orcF orc
    rw [orcF_eq C n]
    simp only [evBodyF_eq, evLoopF_eq]
    rfl
end
end Go.Ev
/- Tables of sixteen: what a kernel's run over the numbers says of every number. -/
namespace Go.Ev
open Go
theorem tab_lt {α : Type} {rows : List (List α)} {n : Nat} {x : α} (h : tab rows n = some x) : n < 16 * rows.length := by
  unfold tab at h
  split at h
  · rename_i r hr
    have := (List.getElem?_eq_some_iff.mp hr).1
    omega
  · cases h
theorem tab_mem {α : Type} {rows : List (List α)} {n : Nat} {x : α} (h : tab rows n = some x) : x ∈ rows.flatten := by
  unfold tab at h
  split at h
  · rename_i r hr
    exact List.mem_flatten.mpr ⟨r, List.mem_of_getElem? hr, List.mem_of_getElem? h⟩
  · cases h
theorem range_same {β : Type} {f g : Nat → β} {n : Nat} (h : (List.range n).map f = (List.range n).map g) {k : Nat} (hk : k < n) : f k = g k := by
  have := congrArg (fun l => l[k]?) h
  simp only [List.getElem?_map, List.getElem?_range hk, Option.map_some] at this
  injection this
theorem clo_of [Glob] {C : Cfg} {n f : Nat} {xs : List CV} {r : CV} (hp : prmOf C f xs = none) (h2 : C.two f = false) (h : closed (evBodyF C (orcF C n) f (xs.map AV.c) []) = some r) : (orcF C (n + 1)).clo f xs = some r := by
  show (match prmOf C f xs with | some r => some r | none => cond (C.two f) (runTwo (fun xs => closed (evBodyF C (orcF C n) f (xs.map AV.c) [])) xs) (closed (evBodyF C (orcF C n) f (xs.map AV.c) []))) = some r
  rw [hp, h2]
  exact h
def goOk (fn : Func) : Bool := !(fn.name == "runtime.NumGoroutine") && match fn.body with | some c => codeOk fn.ntmps c | none => true
/-- What is known of the program, by the kernel's runs over its tables. -/
theorem ok_of [Glob] {P : Program} {C : Cfg} {types : List (List TypeInfo)} {funcs : List (List Func)} {n m : Nat} (h1 : C.ty = mkTI (tab types)) (h2 : C.fn = tab funcs) (hn : n = 16 * types.length) (hm : m = 16 * funcs.length)
    (hty : (List.range n).map (tab types) = (List.range n).map (fun t => P.info? t)) (hfn : (List.range m).map (tab funcs) = (List.range m).map (fun t => P.funcs[t]?))
    (hok : funcs.flatten.all goOk = true) (hmix : P.follows .mixedOrders = true) : Ok P C ∧ CodesOk C := by
  have key : ∀ f fn, tab funcs f = some fn → goOk fn = true := fun f fn h => List.all_eq_true.mp hok fn (tab_mem h)
  refine ⟨⟨?_, ?_, hmix⟩, ?_⟩
  · intro t i h
    rw [h1] at h
    exact mkTI_is (fun t i h => (range_same hty (by rw [hn]; exact tab_lt h)).symm.trans h) t i h
  · intro f fn h
    rw [h2] at h
    have k := key f fn h
    unfold goOk at k
    rw [Bool.and_eq_true] at k
    exact ⟨(range_same hfn (by rw [hm]; exact tab_lt h)).symm.trans h, by simpa using k.1⟩
  · intro f fn c h hc
    rw [h2] at h
    have k := key f fn h
    unfold goOk at k
    rw [Bool.and_eq_true, hc] at k
    exact k.2
end Go.Ev
/- From the interpreter's contract to what a row asks of a call: it returns true, and nothing that was there is turned. -/
namespace Go.Ev
open Go Go.RowKit
variable [Glob]
def immI (w : World) : Nat → Role := fun r => if r < w.heap.size then .imm else .no
theorem CloC.law {P : Program} {f : Nat} {xs : List CV} (h : CloC P f xs (.bool true)) (w : World) (args : List Value) (hb : Base w (immI w)) (hv : VRs w (immI w) xs args) :
    Calls P f args.toArray w fun e w' => e = .returned (.bool true) ∧ Below w.heap.size w w' := by
  refine Calls.mono (h w (immI w) args (fun r hr => ?_) (fun r => ?_) hb hv) ?_
  · unfold immI at hr; split at hr
    · assumption
    · exact absurd rfl hr
  · unfold immI; split <;> trivial
  · rintro e w' ⟨v, J, he, _, _, _, hx, hv⟩
    cases hv
    exact ⟨he, hx.os, hx.tape, hx.output, hx.size, fun k hk => (hx.block k hk (fun j e => by unfold immI at e; rw [if_pos hk] at e; cases e) (fun n j e => by unfold immI at e; rw [if_pos hk] at e; cases e)).1⟩
theorem immI_lt {w : World} {r : Nat} (h : r < w.heap.size) : immI w r = .imm := if_pos h
/-- A table of numbers holds them. -/
theorem memAt_tab {w : World} {g : Nat} {k : IntKind} {zs : List Int} (h : ∀ i, i < zs.length → w.cell? ⟨g, i, none⟩ = some (.int k (zs.getD i 0))) : MemAt w g 0 (zs.map fun z => Value.int k z) := fun i v hv => by
  rw [List.getElem?_map, Option.map_eq_some_iff] at hv
  obtain ⟨z, hz, rfl⟩ := hv
  obtain ⟨hi, hz'⟩ := List.getElem?_eq_some_iff.mp hz
  rw [Nat.zero_add]
  refine ⟨?_, rfl⟩
  rw [h i hi, List.getD_eq_getElem?_getD, hz]; rfl
theorem vrs_tab {w : World} {I : Nat → Role} {k : IntKind} : ∀ (zs : List Int), VRs w I (zs.map fun z => CV.int k z) (zs.map fun z => Value.int k z)
  | [] => .nil
  | z :: zs => .cons _ _ _ _ (.int k z) (vrs_tab zs)
theorem block_lt {w : World} {g i : Nat} {v : Value} (h : w.cell? ⟨g, i, none⟩ = some v) : g < w.heap.size := by
  apply Classical.byContradiction
  intro hn
  have : w.heap[g]? = none := Array.getElem?_eq_none (by omega)
  unfold World.cell? at h
  simp [this] at h
end Go.Ev
/- A function's first pieces of code apart: what they ask of other functions is put in their place. -/
namespace Go.Ev
open Go
noncomputable section
variable [Glob] {R : Type}
/-- n pieces of a row of code; then N takes the rest -/
def evPre (C : Cfg) (Q : Orc) (fid : Nat) : Nat → Code → S → O → (Code → S → O → Option R) → (Ex → S → O → Option R) → Option R
  | n + 1, .seq a b, s, w, N, K => match chOf C fid a with
    | some _ => N (.seq a b) s w
    | none => evCode C Q fid a s w fun e s w => match e with
      | .normal => evPre C Q fid n b s w N K
      | .exit j => K (.exit j) s w
      | .ret => K .ret s w
      | .retv rs => K (.retv rs) s w
  | _, c, s, w, N, _ => N c s w
theorem evPre_eq (C : Cfg) (Q : Orc) (fid : Nat) (K : Ex → S → O → Option R) : ∀ (n : Nat) (c : Code) (s : S) (w : O), evPre C Q fid n c s w (fun c s w => evCode C Q fid c s w K) K = evCode C Q fid c s w K
  | 0, c, s, w => by unfold evPre; cases c <;> rfl
  | n + 1, .seq a b, s, w => by
    unfold evPre
    cases hc : chOf C fid a with
    | some p => rfl
    | none =>
      simp only [evCode, hc]
      congr 1
      funext e s' w'
      cases e with
      | normal => exact evPre_eq C Q fid K n b s' w'
      | _ => rfl
  | n + 1, .skip, s, w => rfl
  | n + 1, .region _ _ _, s, w => rfl
  | n + 1, .cond _ _ _, s, w => rfl
  | n + 1, .block _ _, s, w => rfl
  | n + 1, .loop _, s, w => rfl
  | n + 1, .rangeFunc _ _ _ _, s, w => rfl
  | n + 1, .exit _, s, w => rfl
  | n + 1, .scope _, s, w => rfl
  | n + 1, .label _, s, w => rfl
  | n + 1, .goto _, s, w => rfl
  | n + 1, .ret, s, w => rfl
  | n + 1, .refuse _, s, w => rfl
theorem body_pre {C : Cfg} {Q : Orc} {f : Nat} {fn : Func} {c : Code} (hf : C.fn f = some fn) (hb : fn.body = some c) (j : Nat) (args : List AV) (w : O) :
    evBodyF C Q f args w = evPre C Q f j c ⟨inArgsF 0 args, fun _ => none, 0⟩ w (fun c s w' => evCodeF C Q f c s w' (kBody C f w.length fn)) (kBody C f w.length fn) := by
  unfold evBodyF
  rw [hf]
  dsimp only
  rw [hb]
  dsimp only
  rw [evCodeF_eq]
  have e : (fun c s w' => evCodeF C Q f c s w' (kBody C f w.length fn)) = fun c s w' => evCode C Q f c s w' (kBody C f w.length fn) := by
    funext c s w'; exact evCodeF_eq C Q f c s w' _
  rw [e]
  exact (evPre_eq C Q f _ j c _ w).symm
/-- operations in two parts -/
theorem evOps_app (C : Cfg) (Q : Orc) (ny : Bool) (all : List Oper) (b : List Oper) (K : S → O → List Log → Option R) : ∀ (a : List Oper) (s : S) (w : O) (logs : List Log),
    evOps C Q ny all (a ++ b) s w logs K = evOps C Q ny all a s w logs fun s w logs => evOps C Q ny all b s w logs K
  | [], s, w, logs => rfl
  | o :: r, s, w, logs => by
    have ih : ∀ l, (fun (_ : Unit) (s : S) (w : O) (l' : Log) => evOps C Q ny all (r ++ b) s w (l' :: l) K) = fun _ s w l' => evOps C Q ny all r s w (l' :: l) fun s w logs => evOps C Q ny all b s w logs K := by
      intro l; funext _ s w l'; exact evOps_app C Q ny all b K r s w _
    simp only [List.cons_append, evOps, ih]
theorem evOps_cut (C : Cfg) (Q : Orc) (ny : Bool) (all l : List Oper) (i : Nat) (K : S → O → List Log → Option R) (s : S) (w : O) (logs : List Log) :
    evOps C Q ny all l s w logs K = evOps C Q ny all (l.take i) s w logs fun s w logs => evOps C Q ny all (l.drop i) s w logs K := by
  rw [← evOps_app, List.take_append_drop]
theorem evCode_region {C : Cfg} {Q : Orc} {fid id : Nat} {ops : Array Oper} {d : Bool} {b : Code} (h : chOf C fid (.region id ops d) = none) (s : S) (w : O) (K : Ex → S → O → Option R) :
    evCode C Q fid (.seq (.region id ops d) b) s w K = evRegion C Q fid id ops d s w fun s w => evCode C Q fid b s w K := by
  simp only [evCode, h]
end
end Go.Ev
/- Memos: calls of closed values whose answers are known. -/
namespace Go.Ev
open Go
variable [Glob]
/-- the same arguments? the last ones first -/
def sameArgs : List CV → List CV → Bool
  | [], [] => true
  | a :: l, b :: k => sameArgs l k && sameCV 64 a b
  | _, _ => false
def lookT : List (List CV × CV) → List CV → Option CV
  | [], _ => none
  | e :: l, xs => match sameArgs e.1 xs with | true => some e.2 | false => lookT l xs
/-- by functions: arguments, answers -/
abbrev MT := List (Nat × List (List CV × CV))
def prmsOf (t : MT) : List (Nat × (List CV → Option CV)) := t.map fun p => (p.1, lookT p.2)
def AllE (Q : List CV → CV → Prop) : List (List CV × CV) → Prop
  | [] => True
  | e :: l => Q e.1 e.2 ∧ AllE Q l
def AllT (Q : Nat → List CV → CV → Prop) : MT → Prop
  | [] => True
  | p :: l => AllE (Q p.1) p.2 ∧ AllT Q l
/-- a call's answer -/
def Fact (P : Program) (C : Cfg) (f : Nat) (xs : List CV) (r : CV) : Prop := CloC P f xs r ∧ ∀ fn, C.fn f = some fn → resOk C fn (.c r) = true
theorem sameArgs_eq : ∀ {a b : List CV}, sameArgs a b = true → a = b
  | [], [], _ => rfl
  | [], _ :: _, h => by cases h
  | _ :: _, [], h => by cases h
  | a :: l, b :: k, h => by
    have h : (sameArgs l k && sameCV 64 a b) = true := h
    rw [Bool.and_eq_true] at h
    rw [sameArgs_eq h.1, sameCV_eq 64 a b h.2]
theorem lookT_ok {Q : List CV → CV → Prop} : ∀ {l : List (List CV × CV)} {xs : List CV} {r : CV}, AllE Q l → lookT l xs = some r → Q xs r
  | [], _, _, _, h => by cases h
  | e :: l, xs, r, hq, h => by
    unfold lookT at h
    split at h
    · rename_i he
      injection h with h
      subst h
      rw [← sameArgs_eq he]
      exact hq.1
    · exact lookT_ok hq.2 h
theorem lookP_ok {Q : Nat → List CV → CV → Prop} : ∀ {t : MT} {f : Nat} {p : List CV → Option CV} {xs : List CV} {r : CV}, AllT Q t → List.lookup f (prmsOf t) = some p → p xs = some r → Q f xs r
  | [], _, _, _, _, _, h, _ => by cases h
  | q :: t, f, p, xs, r, hq, h, hx => by
    have h1 : List.lookup f ((q.1, lookT q.2) :: prmsOf t) = some p := h
    unfold List.lookup at h1
    split at h1
    · rename_i he
      obtain rfl : f = q.1 := eq_of_beq he
      injection h1 with h1
      subst h1
      exact lookT_ok hq.1 hx
    · exact lookP_ok hq.2 h1 hx
omit [Glob] in
theorem resOk_eq {C D : Cfg} (ht : C.ty = D.ty) (fn : Func) (r : AV) : resOk C fn r = resOk D fn r := by
  unfold resOk plainRes
  rw [ht]
theorem memo_ok {P : Program} {C D : Cfg} {t : MT} (hp : ∀ f, C.prm f = List.lookup f (prmsOf t)) (hf : C.fn = D.fn) (ht : C.ty = D.ty) (h : AllT (Fact P D) t) : PrmOk P C := fun f p xs r h1 h2 => by
  rw [hp] at h1
  obtain ⟨k1, k2⟩ := lookP_ok h h1 h2
  exact ⟨k1, fun fn hfn => by rw [resOk_eq ht]; exact k2 fn (by rw [← hf]; exact hfn)⟩
theorem memo_fact {P : Program} {C D : Cfg} (hP : Ok P C) (hc : CodesOk C) (hprm : PrmOk P C) (hf : C.fn = D.fn) (ht : C.ty = D.ty) {n f : Nat} {xs : List CV} {r : CV} (h : (orcF C n).clo f xs = some r) : Fact P D f xs r := by
  rw [orcF_eq] at h
  obtain ⟨k1, k2⟩ := (orc_ok hP hc hprm n).f.clo f xs r h
  exact ⟨k1, fun fn hfn => by rw [← resOk_eq ht]; exact k2 fn (by rw [hf]; exact hfn)⟩
end Go.Ev
