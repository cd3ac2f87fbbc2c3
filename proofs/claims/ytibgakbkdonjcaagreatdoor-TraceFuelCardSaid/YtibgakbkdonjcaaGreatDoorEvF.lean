/- The evaluator, as the kernel runs it: the same over trees. -/
import Derived.Test.YtibgakbkdonjcaaGreatDoorEvE
namespace Go.Proofs.YtibgakbkdonjcaaGreatDoor.Ev
open Go Go.RowKit
set_option linter.unusedVariables false
set_option linter.unusedSimpArgs false
set_option linter.unusedSectionVars false
set_option linter.unnecessarySimpa false
noncomputable def ib {α : Type} (c : Bool) (t e : Option α) : Option α := Bool.rec e t c
noncomputable def ob {α β : Type} (x : Option α) (f : α → Option β) : Option β := Option.rec none f x
noncomputable def os2 {α β γ : Type} (x : Option (α × β)) (f : α → β → Option γ) : Option γ := Option.rec none (fun p => Prod.rec f p) x

inductive Pth where
  | e
  | a (p : Pth)
  | b (p : Pth)
  | c (p : Pth)
  | d (p : Pth)
  deriving DecidableEq

inductive Tr (α : Type) where
  | nil
  | node (v : Option α) (x0 x1 x2 x3 : Tr α)

noncomputable def pthF (f : Nat) : Nat → Pth :=
  Nat.rec (fun _ => .e) (fun _ ih k => Nat.rec .e (fun k _ =>
    Nat.rec (.a (ih (Nat.div k 4))) (fun r _ => Nat.rec (.b (ih (Nat.div k 4))) (fun r _ => Nat.rec (.c (ih (Nat.div k 4))) (fun _ _ => .d (ih (Nat.div k 4))) r) r) (Nat.mod k 4)) k) f
noncomputable def pth (k : Nat) : Pth := pthF k k

noncomputable def Tr.getP {α : Type} (p : Pth) : Tr α → Option α :=
  Pth.rec (fun t => Tr.rec none (fun v _ _ _ _ _ _ _ _ => v) t)
    (fun _ ih t => Tr.rec none (fun _ x _ _ _ _ _ _ _ => ih x) t)
    (fun _ ih t => Tr.rec none (fun _ _ x _ _ _ _ _ _ => ih x) t)
    (fun _ ih t => Tr.rec none (fun _ _ _ x _ _ _ _ _ => ih x) t)
    (fun _ ih t => Tr.rec none (fun _ _ _ _ x _ _ _ _ => ih x) t) p

/-- set, and go on: the way down is made at once -/
noncomputable def Tr.setP {α β : Type} (y : Option α) (p : Pth) : Tr α → (Tr α → Option β) → Option β :=
  Pth.rec (fun t k => Tr.rec (k (.node y .nil .nil .nil .nil)) (fun _ x0 x1 x2 x3 _ _ _ _ => k (.node y x0 x1 x2 x3)) t)
    (fun _ ih t k => Tr.rec (ih .nil fun x => k (.node none x .nil .nil .nil)) (fun v x0 x1 x2 x3 _ _ _ _ => ih x0 fun x => k (.node v x x1 x2 x3)) t)
    (fun _ ih t k => Tr.rec (ih .nil fun x => k (.node none .nil x .nil .nil)) (fun v x0 x1 x2 x3 _ _ _ _ => ih x1 fun x => k (.node v x0 x x2 x3)) t)
    (fun _ ih t k => Tr.rec (ih .nil fun x => k (.node none .nil .nil x .nil)) (fun v x0 x1 x2 x3 _ _ _ _ => ih x2 fun x => k (.node v x0 x1 x x3)) t)
    (fun _ ih t k => Tr.rec (ih .nil fun x => k (.node none .nil .nil .nil x)) (fun v x0 x1 x2 x3 _ _ _ _ => ih x3 fun x => k (.node v x0 x1 x2 x)) t) p

noncomputable def Tr.get {α : Type} (t : Tr α) (k : Nat) : Option α := t.getP (pth k)
noncomputable def Tr.set {α β : Type} (t : Tr α) (k : Nat) (y : Option α) (f : Tr α → Option β) : Option β := Tr.setP y (pth k) t f

noncomputable def isForb (l : List (Nat × Nat)) (k : Nat) : Bool :=
  List.rec false (fun p _ ih => Prod.rec (fun a b => Bool.rec ih (Bool.rec ih true (Nat.blt k b)) (Nat.ble a k)) p) l
noncomputable def memN (l : List Nat) (k : Nat) : Bool := List.rec false (fun x _ ih => Bool.rec ih true (Nat.beq x k)) l

structure StK where
  h : Tr BK
  n : Nat
  forb : List (Nat × Nat)
  mark : Nat
  log : List Nat

noncomputable def absS (s : StK) : St := ⟨s.h.get, s.n, isForb s.forb, s.mark, memN s.log⟩

noncomputable def getK (s : StK) (k : Nat) : Option BK := StK.rec (fun h _ forb _ _ => ib (isForb forb k) none (h.get k)) s
noncomputable def putK (s : StK) (k : Nat) (b : Option BK) : Option StK :=
  StK.rec (fun h n forb mark log => ib (isForb forb k) none (h.set k b fun h => ib (Nat.blt k mark) (some ⟨h, n, forb, mark, k :: log⟩) (some ⟨h, n, forb, mark, log⟩))) s
/-- the next number is reckoned at once -/
noncomputable def newK (s : StK) (b : BK) : Option (Nat × StK) :=
  StK.rec (fun h n forb mark log => ib (isForb forb n) none (h.set n (some b) fun h => some (n, ⟨h, Nat.succ n, forb, mark, log⟩))) s

noncomputable def takeK (n : Nat) : List CV → Option (List CV) :=
  Nat.rec (fun _ => some []) (fun _ ih l => List.rec none (fun x l _ => ob (ih l) fun r => some (x :: r)) l) n
noncomputable def dropK (n : Nat) : List CV → Option (List CV) :=
  Nat.rec (fun l => some l) (fun _ ih l => List.rec none (fun _ l _ => ih l) l) n
noncomputable def layK (vs : List CV) : List CV → Option (List CV) :=
  List.rec (fun l => some l) (fun v _ ih l => List.rec none (fun _ l _ => ob (ih l) fun r => some (v :: r)) l) vs
noncomputable def overK (n : Nat) (vs : List CV) : List CV → Option (List CV) :=
  Nat.rec (fun l => layK vs l) (fun _ ih l => List.rec none (fun x l _ => ob (ih l) fun r => some (x :: r)) l) n
noncomputable def appK (a b : List CV) : List CV := List.rec b (fun x _ ih => x :: ih) a
noncomputable def repK (z : List CV) (n : Nat) : List CV := Nat.rec [] (fun _ ih => appK z ih) n
noncomputable def lenK {α : Type} (l : List α) : Nat := List.rec 0 (fun _ _ n => Nat.succ n) l

abbrev TK := Tr AV

noncomputable def evK (T : TK) : Operand → Option AV
  | .tmp t => T.get t
  | .const v => absA v
  | .func f => some (.v (.c (.func f [])))
  | .global _ => none
noncomputable def evcK (T : TK) (x : Operand) : Option CV := ob (evK T x) cOf
noncomputable def evtK (T : TK) (x : Operand) : Option TV := ob (evK T x) tOf

noncomputable def intInK (k : IntKind) (r : Int) : Option CV := ib (inR k r) (some (.int k r)) none
noncomputable def bitOpK (f : Nat → Nat → Nat) (k : IntKind) : Int → Int → Option CV
  | .ofNat m, .ofNat n => ib (Nat.blt m (hiOf k)) (ib (Nat.blt n (hiOf k)) (intInK k (.ofNat (f m n))) none) none
  | _, _ => none
noncomputable def divOpK (q : Bool) (k : IntKind) (a b : Int) : Option CV :=
  ib (ieq b 0) none (ib q (intInK k (Int.tdiv a b)) (some (.int k (Int.tmod a b))))
noncomputable def intOpK (op : BinOp) (k : IntKind) (a b : Int) : Option CV :=
  match op with
  | .add => intInK k (Int.add a b)
  | .sub => intInK k (Int.sub a b)
  | .mul => intInK k (Int.mul a b)
  | .eql => some (.bool (ieq a b))
  | .neq => some (.bool (not (ieq a b)))
  | .lss => some (.bool (ilt a b))
  | .leq => some (.bool (ile a b))
  | .gtr => some (.bool (ilt b a))
  | .geq => some (.bool (ile b a))
  | .quo => divOpK true k a b
  | .rem => divOpK false k a b
  | .and => bitOpK Nat.land k a b
  | .or => bitOpK Nat.lor k a b
  | .xor => bitOpK Nat.xor k a b
  | .andNot => bitOpK (fun m n => Nat.xor m (Nat.land m n)) k a b
  | _ => none
noncomputable def binAggK (ty : Nat → Option TI) (held : Nat → Bool) (op : BinOp) (t : Nat) (l l' : List CV) : Option CV :=
  ob (ty t) fun ti => ob (eqOk ty held t ti.desc) fun n => ib (Nat.beq (lenK l) n) (ib (Nat.beq (lenK l') n) (ob (eqInts l l') fun r => eqOp op r) none) none
noncomputable def binCK (ty : Nat → Option TI) (op : BinOp) (t : Nat) (cst : Bool) (u v : CV) : Option CV :=
  os2 (cmpC cst u v) fun d r => ob (ty t) fun ti => ib (Nat.beq (dno ti.desc) d) (eqOp op r) none
noncomputable def binIK (op : BinOp) (k : IntKind) (a : Int) (k' : IntKind) (b : Int) : Option CV :=
  match op with
  | .shl => shOp .shl k a b
  | .shr => shOp .shr k a b
  | op => ib (beqKind k k') (intOpK op k a b) none
noncomputable def binK (ty : Nat → Option TI) (held : Nat → Bool) (op : BinOp) (t : Nat) (cst : Bool) : TV → TV → Option CV
  | .c (.int k a), .c (.int k' b) => binIK op k a k' b
  | .c u, .c v => binCK ty op t cst u v
  | .agg l, .agg l' => binAggK ty held op t l l'
  | _, _ => none

noncomputable def fieldEK (ty : Nat → Option TI) (t f : Nat) : Option FP :=
  ob (ty t) fun ti => ob (fieldIn ti.desc f) fun fd => ob (ty fd.type) fun fi => some ⟨fd.offset, fi⟩
noncomputable def sliceTyK (ty : Nat → Option TI) (t : Nat) : Option (Nat × TI) :=
  ob (ty t) fun ti => match ti.desc with
    | .slice e => ob (ty e) fun ei => some (e, ei)
    | _ => none
noncomputable def fill1K (size off : Nat) (cs : List CV) (v : TV) : Option (List CV) :=
  ib (Nat.beq (lenK v.cells) size) (overK off v.cells cs) none
noncomputable def fillK (place : Nat → Option (Nat × Nat)) (T : TK) (l : List (Nat × Operand)) : List CV → Option (List CV) :=
  List.rec (fun cs => some cs) (fun p _ ih cs => Prod.rec (fun i x => os2 (place i) fun off size => ob (evtK T x) fun v => ob (fill1K size off cs v) ih) p) l
noncomputable def fieldPlaceK (ty : Nat → Option TI) (t i : Nat) : Option (Nat × Nat) := ob (fieldEK ty t i) fun p => some (p.off, p.ti.size)
noncomputable def buildK (ty : Nat → Option TI) (t : Nat) (parts : List (Nat × Operand)) (T : TK) (z : List CV) : TypeDesc → Option (List CV)
  | .struct fs => ib (allTy ty fs.toList) (fillK (fieldPlaceK ty t) T parts z) none
  | .array _ e => ob (ty e) fun ei => fillK (fun i => some (Nat.mul i ei.size, ei.size)) T parts z
  | _ => none
noncomputable def buildSliceK (ty : Nat → Option TI) (t n : Nat) (parts : List (Nat × Operand)) (T : TK) (s : StK) : Option (CV × StK) :=
  os2 (sliceTyK ty t) fun e ei => ob ei.zero fun z => ib (Nat.beq (lenK z) ei.size) (ib (Nat.blt 0 ei.size) (ib (Nat.ble (Nat.mul n ei.size) 16777216)
    (ob (fillK (fun i => some (Nat.mul i ei.size, ei.size)) T parts (repK z n)) fun cs => os2 (newK s ⟨cs, e, 0⟩) fun b s => some (.slice b 0 n (.fix n), s)) none) none) none

noncomputable def bndK (T : TK) : Option Operand → Option (Option Nat)
  | none => some none
  | some x => ob (evcK T x) fun v => ob (natOf v) fun n => some (some n)
noncomputable def sliceFixK (size b o l h m c : Nat) (ok : Bool) : Option CV :=
  ib (Nat.ble l h) (ib (Nat.ble h m) (ib (Nat.ble m c) (ib ok (some (.slice b (offE m l o size) (Nat.sub h l) (.fix (Nat.sub m l)))) none) none) none) none
noncomputable def sliceOpnK (size b o l h d know : Nat) : Option CV :=
  ib (Nat.ble l h) (ib (Nat.ble h know) (ib (Nat.blt l know) (some (.slice b (Nat.add o (Nat.mul l size)) (Nat.sub h l) (.opn (Nat.add d l)))) none) none) none
noncomputable def knowK (size d : Nat) (bk : BK) : Option Nat :=
  ib (Nat.beq bk.os size) (ib (Nat.blt 0 size) (some (Nat.sub (Nat.div (lenK bk.cells) size) d)) none) none
noncomputable def sliceCVK (s : StK) (size : Nat) (lo hi mx : Option Nat) : CV → Option CV
  | .snil => ib (Nat.beq (orN lo 0) 0) (ib (Nat.beq (orN hi 0) 0) (ib (Nat.beq (orN mx 0) 0) (ib (someB hi || not (someB mx)) (some .snil) none) none) none) none
  | .slice b o n (.fix c) => sliceFixK size b o (orN lo 0) (orN hi n) (orN mx c) c (someB hi || not (someB mx))
  | .slice b o n (.opn d) => ob (getK s b) fun bk => ob (knowK size d bk) fun know => match mx with
      | some m => sliceFixK size b o (orN lo 0) (orN hi n) m know (someB hi)
      | none => sliceOpnK size b o (orN lo 0) (orN hi n) d know
  | _ => none
noncomputable def sliceK (T : TK) (s : StK) (size : Nat) (x : CV) (lo hi mx : Option Operand) : Option CV :=
  ob (bndK T lo) fun lo => ob (bndK T hi) fun hi => ob (bndK T mx) fun mx => sliceCVK s size lo hi mx x
noncomputable def cellsK (s : StK) (size : Nat) : CV → Option (List CV)
  | .snil => some []
  | .slice b o n _ => ob (getK s b) fun bk => ob (dropK o bk.cells) fun l => takeK (Nat.mul n size) l
  | _ => none
noncomputable def overEK (s : StK) (b at_ : Nat) (new : List CV) (v : CV) : Option (CV × StK) :=
  ob (getK s b) fun bk => BK.rec (fun cells elem os => ob (overK at_ new cells) fun cs => ob (putK s b (some ⟨cs, elem, os⟩)) fun s => some (v, s)) bk
noncomputable def grownK (s : StK) (elem size n : Nat) (cs : List CV) : Option (CV × StK) :=
  os2 (newK s ⟨cs, elem, size⟩) fun b s => some (.slice b 0 n (.opn 0), s)
noncomputable def appOpnK (s : StK) (elem size n k b : Nat) (new : List CV) (bk : BK) : Option (CV × StK) :=
  ib (Nat.beq bk.os size) (ib (Nat.beq bk.elem elem) (ib (Nat.ble (Nat.mul (Nat.add n k) size) (lenK bk.cells))
    (overEK s b (Nat.mul n size) new (.slice b 0 (Nat.add n k) (.opn 0)))
    (ob (takeK (Nat.mul n size) bk.cells) fun old => ob (putK s b none) fun s => grownK s elem size (Nat.add n k) (appK old new))) none) none
noncomputable def appToK (s : StK) (elem size : Nat) (new : List CV) (k : Nat) (x : CV) : Option (CV × StK) :=
  match x with
  | .snil => ib (Nat.beq k 0) (some (.snil, s)) (grownK s elem size k new)
  | .slice b o n (.fix c) => ib (Nat.ble (Nat.add n k) c) (overEK s b (Nat.add o (Nat.mul n size)) new (.slice b o (Nat.add n k) (.fix c)))
      (ob (cellsK s size x) fun old => grownK s elem size (Nat.add n k) (appK old new))
  | .slice b o n (.opn d) => ib (Nat.beq o 0) (ib (Nat.beq d 0) (ob (getK s b) fun bk => appOpnK s elem size n k b new bk) none) none
  | _ => none
noncomputable def appendK (s : StK) (elem size bytes : Nat) (x y : CV) : Option (CV × StK) :=
  ib (Nat.blt 0 size) (ib (Nat.ble bytes 1048576) (ob (cellsK s size y) fun new => ob (lenOfSlice y) fun k => ob (lenOfSlice x) fun n => ib (Nat.ble (Nat.add n k) 1048576) (appToK s elem size new k x) none) none) none

noncomputable def capsK (T : TK) (l : List Operand) : Option (List (Nat × Nat)) :=
  List.rec (some []) (fun x _ ih => ob (evcK T x) fun v => ob (ptrOf v) fun p => ob ih fun r => some (p :: r)) l
noncomputable def kM (s : StK) (v : Option CV) : Option (AV × StK) := ob v fun v => some (.v (.c v), s)
noncomputable def kS (x : Option (CV × StK)) : Option (AV × StK) := os2 x fun v s => some (.v (.c v), s)
noncomputable def kT (s : StK) (v : Option TV) : Option (AV × StK) := ob v fun v => some (.v v, s)
noncomputable def kA (s : StK) (v : Option AV) : Option (AV × StK) := ob v fun v => some (v, s)
noncomputable def partK (ti : TI) (off : Nat) (l : List CV) : Option TV :=
  ob (dropK off l) fun l => ib ti.agg (ob (takeK ti.size l) fun r => some (.agg r)) (headT l)
noncomputable def newPtrK (s : StK) (t : Nat) (cs : List CV) : Option (AV × StK) := os2 (newK s ⟨cs, t, 0⟩) fun b s => some (.v (.c (.ptr b 0)), s)
noncomputable def loadAtK (ty : Nat → Option TI) (t : Nat) (s : StK) (b o : Nat) : Option TV :=
  ob (getK s b) fun bk => ob (ty t) fun ti => partK ti o bk.cells
noncomputable def loadK (ty : Nat → Option TI) (t : Nat) (a : Operand) (T : TK) (s : StK) : Option (AV × StK) :=
  ob (evcK T a) fun v => os2 (ptrOf v) fun b o => kT s (loadAtK ty t s b o)
noncomputable def storeAtK (ty : Nat → Option TI) (t : Nat) (s : StK) (b o : Nat) (v : TV) : Option (AV × StK) :=
  ob (ty t) fun ti => ib (Nat.beq (lenK v.cells) ti.size) (ob (getK s b) fun bk => BK.rec (fun cells elem os => ob (overK o v.cells cells) fun cs => ob (putK s b (some ⟨cs, elem, os⟩)) fun s => some (.tup [], s)) bk) none
noncomputable def storeK (ty : Nat → Option TI) (t : Nat) (a x : Operand) (T : TK) (s : StK) : Option (AV × StK) :=
  ob (evcK T a) fun v => os2 (ptrOf v) fun b o => ob (evtK T x) fun v => storeAtK ty t s b o v
noncomputable def indexAtK (ty : Nat → Option TI) (i : Nat) (x : CV) : TypeDesc → Option CV
  | .slice e => match x with
    | .slice b o n _ => ib (Nat.blt i n) (ob (ty e) fun ei => some (.ptr b (Nat.add o (Nat.mul i ei.size)))) none
    | _ => none
  | .array n e => match x with
    | .ptr b o => ib (Nat.blt i n) (ob (ty e) fun ei => some (.ptr b (Nat.add o (Nat.mul i ei.size)))) none
    | _ => none
  | _ => none
noncomputable def indexAddrK (ty : Nat → Option TI) (t : Nat) (x ix : Operand) (T : TK) : Option CV :=
  ob (ty t) fun ti => ob (evcK T x) fun v => ob (evcK T ix) fun w => ob (natOf w) fun i => indexAtK ty i v ti.desc
noncomputable def indexInK (ty : Nat → Option TI) (i : Nat) (x : TV) : TypeDesc → Option TV
  | .array n e => ob (aggOf x) fun l => ib (Nat.blt i n) (ob (ty e) fun ei => partK ei (Nat.mul i ei.size) l) none
  | .string => ob (strOf x) fun b => ob (b.data.toList[i]?) fun x => some (.c (.int .u8 (.ofNat x.toNat)))
  | _ => none
noncomputable def indexK (ty : Nat → Option TI) (t : Nat) (x ix : Operand) (T : TK) : Option TV :=
  ob (ty t) fun ti => ob (evtK T x) fun v => ob (evcK T ix) fun w => ob (natOf w) fun i => indexInK ty i v ti.desc
noncomputable def fieldAddrK (ty : Nat → Option TI) (t : Nat) (x : Operand) (f : Nat) (T : TK) : Option CV :=
  ob (fieldEK ty t f) fun p => ob (evcK T x) fun v => os2 (ptrOf v) fun b o => ib (Nat.beq p.ti.size 0) none (some (.ptr b (Nat.add o p.off)))
noncomputable def fieldVK (ty : Nat → Option TI) (t : Nat) (x : Operand) (f : Nat) (T : TK) : Option TV :=
  ob (fieldEK ty t f) fun p => ob (evtK T x) fun v => ob (aggOf v) fun l => partK p.ti p.off l
noncomputable def makeSliceK (ty : Nat → Option TI) (t : Nat) (l c : Operand) (T : TK) (s : StK) : Option (CV × StK) :=
  os2 (sliceTyK ty t) fun e ei => ob ei.zero fun z => ob (evcK T l) fun l => ob (natOf l) fun l => ob (evcK T c) fun c => ob (natOf c) fun c =>
    ib (Nat.ble l c) (ib (Nat.ble c 1048576) (ib (Nat.ble ei.bytes 1048576) (ib (Nat.beq (lenK z) ei.size) (ib (Nat.blt 0 ei.size)
      (os2 (newK s ⟨repK z c, e, 0⟩) fun b s => some (.slice b 0 l (.fix c), s)) none) none) none) none) none
noncomputable def convK (ty : Nat → Option TI) (src dst : Nat) (x : Operand) (T : TK) : Option CV :=
  ob (ty src) fun _ => ob (ty dst) fun ti => ob (intD ti.desc) fun k => ob (evcK T x) fun v => ob (intV v) fun n => intInK k n
noncomputable def ifaceK (ty : Nat → Option TI) (t : Nat) (x : Operand) (T : TK) : Option CV :=
  ob (ty t) fun ti => ib (isPtrD ti.desc) (ob (evcK T x) fun v => os2 (ptrOf v) fun b o => some (.iface t b o)) none
noncomputable def funcK (fn : Fn) (first captured : List Operand) (T : TK) : Option CV :=
  match fn, first with
  | .func f, [] => ob (capsK T captured) fun l => some (.func f l)
  | _, _ => none
noncomputable def copyToK (s : StK) (k : Nat) (cs : List CV) : CV → Option (CV × StK)
  | .slice b o _ _ => overEK s b o cs (.int .i64 (.ofNat k))
  | _ => some (.int .i64 (.ofNat k), s)
noncomputable def copyK (s : StK) (size : Nat) (x y : CV) : Option (CV × StK) :=
  ob (lenOfSlice x) fun n => ob (lenOfSlice y) fun k => ib (Nat.ble k n) (ob (cellsK s size y) fun cs => copyToK s k cs x) none
noncomputable def blt2K (ty : Nat → Option TI) (b : Builtin) (t u : Nat) (x y : CV) (s : StK) : Option (CV × StK) :=
  match b with
  | .append => os2 (sliceTyK ty t) fun e ei => ob (ty u) fun ui => ob ei.zero fun z => ib (isSliceD ui.desc) (ib (Nat.beq (lenK z) ei.size) (appendK s e ei.size ei.bytes x y) none) none
  | .copy => os2 (sliceTyK ty t) fun _ ei => copyK s ei.size x y
  | .min => ob (minE x y) fun v => some (v, s)
  | .max => ob (maxE x y) fun v => some (v, s)
  | _ => none
noncomputable def lenEK (ty : Nat → Option TI) (t : Nat) (x : Operand) (T : TK) (s : StK) : Option (CV × StK) :=
  ob (ty t) fun ti => ib (isSliceD ti.desc) (ob (evcK T x) fun v => ob (lenOfSlice v) fun n => some (.int .i64 (.ofNat n), s)) none
noncomputable def bltK (ty : Nat → Option TI) (b : Builtin) (ts : List Nat) (args : List Operand) (T : TK) (s : StK) : Option (CV × StK) :=
  match args with
  | [x] => match ts, b with
    | [t], .len => lenEK ty t x T s
    | _, _ => none
  | [x, y] => match ts with
    | [t, u] => ob (evcK T x) fun x => ob (evcK T y) fun y => blt2K ty b t u x y s
    | _ => none
  | _ => none
noncomputable def evsK (T : TK) (l : List Operand) : Option (List AV) :=
  List.rec (some []) (fun x _ ih => ob (evK T x) fun v => ob ih fun r => some (v :: r)) l
noncomputable def appAK (a b : List AV) : List AV := List.rec b (fun x _ ih => x :: ih) a
abbrev CallK := Nat → List AV → StK → Option (AV × StK)
noncomputable def callOpK (ty : Nat → Option TI) (call : CallK) (c : Call) (T : TK) (s : StK) : Option (AV × StK) :=
  match c.callee with
  | .value f => ob (evcK T f) fun v => os2 (fnOf v) fun g caps => ob (evsK T c.args.toList) fun l => call g (appAK l (capVals caps)) s
  | .builtin b => kS (bltK ty b c.argTypes.toList c.args.toList T s)
  | _ => none
noncomputable def pickK (a b : Operand) (T : TK) : Bool → Option AV
  | true => evK T a
  | false => evK T b
noncomputable def opK (ty : Nat → Option TI) (held : Nat → Bool) (call : CallK) (op : Op) (T : TK) (s : StK) : Option (AV × StK) :=
  match op with
  | .move x => kA s (evK T x)
  | .assign x => kA s (evK T x)
  | .pick c a b => ob (evcK T c) fun v => ob (boolOf v) fun c => kA s (pickK a b T c)
  | .alloc t => ob (ty t) fun ti => ob ti.zero fun z => newPtrK s t z
  | .box t x => ob (evtK T x) fun v => newPtrK s t v.cells
  | .build t parts => ob (ty t) fun ti => ob ti.zero fun z => ob (buildK ty t parts.toList T z ti.desc) fun cs => some (.v (.agg cs), s)
  | .buildSlice t n parts => kS (buildSliceK ty t n parts.toList T s)
  | .load t a => loadK ty t a T s
  | .store t a x => storeK ty t a x T s
  | .nilCheck x => ob (evcK T x) fun v => os2 (ptrOf v) fun b o => some (.v (.c (.ptr b o)), s)
  | .binOp op t x y _ => ob (evtK T x) fun u => ob (evtK T y) fun v => kM s (binK ty held op t (isConst x || isConst y) u v)
  | .unOp op _ x => ob (evcK T x) fun v => kM s (unE op v)
  | .convert src dst x => kM s (convK ty src dst x T)
  | .makeInterface t x => kM s (ifaceK ty t x T)
  | .makeFunc fn first captured => kM s (funcK fn first.toList captured.toList T)
  | .makeSlice t l c => kS (makeSliceK ty t l c T s)
  | .slice t x lo hi mx => os2 (sliceTyK ty t) fun _ ei => ob (evcK T x) fun v => kM s (sliceK T s ei.size v lo hi mx)
  | .fieldAddr t x f => kM s (fieldAddrK ty t x f T)
  | .field t x f => kT s (fieldVK ty t x f T)
  | .indexAddr t x ix => kM s (indexAddrK ty t x ix T)
  | .index t x ix => kT s (indexK ty t x ix T)
  | .extract t i => ob (evK T t) fun v => kT s (nthT v i)
  | .call c => callOpK ty call c T s
  | _ => none

/-! control -/
noncomputable def putTK {β : Type} (nt : Nat) (T : TK) (dst : Option Tmp) (v : AV) (k : TK → Option β) : Option β :=
  Option.rec (k T) (fun d => ib (Nat.blt d nt) (T.set d (some v) k) none) dst
noncomputable def wantK (ops : List Oper) (T : TK) (g : Option (Nat × Bool)) : Option Bool :=
  Option.rec (some true) (fun p => Prod.rec (fun j want => ob (ops[j]?) fun g => ob g.dst fun t => ob (T.get t) fun v => some (isWant want v)) p) g

noncomputable def opsK (ty : Nat → Option TI) (held : Nat → Bool) (call : CallK) (nt : Nat) (all l : List Oper) : TK → StK → Option (TK × StK) :=
  List.rec (fun T s => some (T, s)) (fun o _ ih T s => ob (wantK all T o.guard) fun w =>
    Bool.rec (putTK nt T o.dst (.tup []) fun T => ih T s) (os2 (opK ty held call o.op T s) fun v s => putTK nt T o.dst v fun T => ih T s) w) l

structure DoneK where
  lo : Nat
  hi : Nat
  wr : List Nat

noncomputable def singleK (l : List Nat) (f : List (Nat × Nat)) : List (Nat × Nat) := List.rec f (fun k _ ih => (k, Nat.succ k) :: ih) l
noncomputable def spanK (d : DoneK) (f : List (Nat × Nat)) : List (Nat × Nat) := DoneK.rec (fun lo hi wr => Bool.rec ((lo, hi) :: singleK wr f) (singleK wr f) (Nat.ble hi lo)) d
noncomputable def bitK (m j : Nat) : Bool := Nat.beq (Nat.mod (Nat.shiftRight m j) 2) 1
noncomputable def hideK (m : Nat) (ds : List DoneK) : Nat → List (Nat × Nat) → List (Nat × Nat) :=
  List.rec (fun _ f => f) (fun d _ ih j f => Bool.rec (spanK d (ih (Nat.succ j) f)) (ih (Nat.succ j) f) (bitK m j)) ds
noncomputable def hideGK (i : Nat) (gs : List (Nat × List Nat)) : Nat → List (Nat × Nat) → List (Nat × Nat) :=
  List.rec (fun _ f => f) (fun p _ ih j f => Prod.rec (fun m g => Bool.rec (ih (Nat.succ j) f) (Bool.rec (singleK g (ih (Nat.succ j) f)) (ih (Nat.succ j) f) (bitK m i)) (Nat.blt i j)) p) gs
noncomputable def snocK {α : Type} (l : List α) (x : α) : List α := List.rec [x] (fun y _ ih => y :: ih) l

structure DSK where
  ds : List DoneK
  T : TK
  h : Tr BK
  n : Nat

noncomputable def draw1K (ty : Nat → Option TI) (held : Nat → Bool) (call : CallK) (nt : Nat) (all : List Oper) (gs : List (Nat × List Nat)) (f0 : List (Nat × Nat)) (o : Oper) (i m : Nat) (x : DSK) : Option DSK :=
  DSK.rec (fun ds T h n => ob (wantK all T o.guard) fun w => Bool.rec (putTK nt T o.dst (.tup []) fun T => some ⟨snocK ds ⟨n, n, []⟩, T, h, n⟩)
      (os2 (opK ty held call o.op T ⟨h, n, hideGK i gs 0 (hideK m ds 0 f0), n, []⟩) fun v s => StK.rec (fun h n' _ _ log => putTK nt T o.dst v fun T => some ⟨snocK ds ⟨n, n', log⟩, T, h, n'⟩) s) w) x
noncomputable def drawK (ty : Nat → Option TI) (held : Nat → Bool) (call : CallK) (nt : Nat) (all : List Oper) (gs : List (Nat × List Nat)) (f0 : List (Nat × Nat)) (l : List Oper) :
    Nat → List Nat → DSK → Option DSK :=
  List.rec (fun _ _ x => some x) (fun o _ ih i ms x => List.rec none (fun m ms _ => ob (draw1K ty held call nt all gs f0 o i m x) fun x => ih (Nat.succ i) ms x) ms) l

noncomputable def subK (a b : List Nat) : Bool := List.rec true (fun x _ ih => Bool.rec false ih (memN b x)) a
noncomputable def guessedK (ds : List DoneK) : List (Nat × List Nat) → Bool :=
  List.rec (fun _ => true) (fun d _ ih gs => List.rec (List.rec (ih []) (fun _ _ _ => false) d.wr) (fun g gs _ => Bool.rec false (ih gs) (subK d.wr g.2)) gs) ds
noncomputable def guess0K (l : List Nat) : List (Nat × List Nat) := List.rec [] (fun m _ ih => (m, []) :: ih) l
noncomputable def guess1K (l : List Nat) : List DoneK → List (Nat × List Nat) :=
  List.rec (fun _ => []) (fun m _ ih ds => List.rec ((m, []) :: ih []) (fun d ds _ => (m, d.wr) :: ih ds) ds) l
noncomputable def belowK (mk : Nat) (l r : List Nat) : List Nat := List.rec r (fun k _ ih => Bool.rec ih (k :: ih) (Nat.blt k mk)) l
noncomputable def logsK (mk : Nat) (ds : List DoneK) (r : List Nat) : List Nat := List.rec r (fun d _ ih => belowK mk d.wr ih) ds
noncomputable def finK (s : StK) (x : DSK) : Option (TK × StK) :=
  DSK.rec (fun ds T h n => StK.rec (fun _ _ forb mark log => some (T, ⟨h, n, forb, mark, logsK mark ds log⟩)) s) x
noncomputable def drawGK (ty : Nat → Option TI) (held : Nat → Bool) (call : CallK) (nt : Nat) (gs : List (Nat × List Nat)) (ops : Array Oper) (ms : List Nat) (T : TK) (s : StK) : Option DSK :=
  StK.rec (fun h n forb _ _ => drawK ty held call nt ops.toList gs forb ops.toList 0 ms ⟨[], T, h, n⟩) s
noncomputable def regG (ty : Nat → Option TI) (held : Nat → Bool) (call : CallK) (nt : Nat) (ops : Array Oper) (ms : List Nat) (T : TK) (s : StK) : Option (TK × StK) :=
  ob (drawGK ty held call nt (guess0K ms) ops ms T s) fun x =>
    Bool.rec (ob (drawGK ty held call nt (guess1K ms x.ds) ops ms T s) fun y => ib (guessedK y.ds (guess1K ms x.ds)) (finK s y) none) (finK s x) (guessedK x.ds (guess0K ms))
noncomputable def regK (ty : Nat → Option TI) (held : Nat → Bool) (call : CallK) (nt : Nat) (ops : Array Oper) (T : TK) (s : StK) : Option (TK × StK) :=
  regG ty held call nt ops (masks ops.toList []) T s

structure CSK where
  e : Ex
  T : TK
  s : StK

noncomputable def toCS (x : Option (TK × StK)) : Option CSK := os2 x fun T s => some ⟨.normal, T, s⟩
noncomputable def thenK (x : Option CSK) (k : TK → StK → Option CSK) : Option CSK := ob x fun r => CSK.rec (fun e T s => ib (isNormal e) (k T s) (some r)) r
noncomputable def codeS (ty : Nat → Option TI) (held : Nat → Bool) (call : CallK) (nt : Nat) (ih : Code → TK → StK → Option CSK) (c : Code) (T : TK) (s : StK) : Option CSK :=
  match c with
  | .skip => some ⟨.normal, T, s⟩
  | .label _ => some ⟨.normal, T, s⟩
  | .region _ ops draw => toCS (Bool.rec (opsK ty held call nt ops.toList ops.toList T s) (regK ty held call nt ops T s) draw)
  | .seq a b => thenK (ih a T s) (ih b)
  | .cond c a b => ob (evcK T c) fun v => ob (boolOf v) fun c => Bool.rec (ih b T s) (ih a T s) c
  | .block id b => ob (ih b T s) fun r => CSK.rec (fun e T s => some ⟨leaveB id e, T, s⟩) r
  | .loop b => thenK (ih b T s) (ih (.loop b))
  | .exit id => some ⟨.exit id, T, s⟩
  | .ret => some ⟨.ret, T, s⟩
  | _ => none
noncomputable def codeK (ty : Nat → Option TI) (held : Nat → Bool) (call : CallK) (nt f : Nat) : Code → TK → StK → Option CSK :=
  Nat.rec (fun _ _ _ => none) (fun _ ih c T s => codeS ty held call nt ih c T s) f
noncomputable def res1K (ty : Nat → Option TI) (T : TK) (s : StK) : ResultVar → Option TV
  | .tmp t => ob (T.get t) tOf
  | .cell a t => ob (T.get a) fun v => ob (cOf v) fun v => os2 (ptrOf v) fun b o => loadAtK ty t s b o
noncomputable def resK (ty : Nat → Option TI) (T : TK) (s : StK) (l : List ResultVar) : Option (List TV) :=
  List.rec (some []) (fun r _ ih => ob (res1K ty T s r) fun v => ob ih fun l => some (v :: l)) l
noncomputable def enterK {β : Type} (k : TK → Option β) (l : List AV) : Nat → TK → Option β :=
  List.rec (fun _ T => k T) (fun v _ ih i T => T.set i (some v) fun T => ih (Nat.succ i) T) l
noncomputable def leaveK (ty : Nat → Option TI) (F : Func) (r : CSK) : Option (AV × StK) :=
  CSK.rec (fun e T s => ib (isExit e) none (ob (resK ty T s F.results.toList) fun l => some (packR l, s))) r
noncomputable def callK (ty : Nat → Option TI) (held : Nat → Bool) (fn : Nat → Option Func) (steps d : Nat) : CallK :=
  Nat.rec (fun _ _ _ => none) (fun _ ih f args s => ob (fn f) fun F => ob F.body fun code => ib (fnOk F) (ib (Nat.ble (lenK args) F.ntmps)
    (enterK (fun T => ob (codeK ty held ih F.ntmps steps code T s) fun r => leaveK ty F r) args 0 .nil) none) none) d

/-- a tree of a table -/
noncomputable def buildTr {α : Type} (f : Nat → Option α) (n : Nat) : Tr α :=
  Nat.rec .nil (fun n t => Option.rec t (fun t => t) (t.set n (f n) fun t => some t)) n
theorem ob_eq {α β : Type} (x : Option α) (f : α → Option β) : ob x f = x.bind f := by cases x <;> rfl
theorem os2_eq {α β γ : Type} (x : Option (α × β)) (f : α → β → Option γ) : os2 x f = x.bind fun p => f p.1 p.2 := by cases x <;> rfl
theorem ib_eq {α : Type} (c : Bool) (t : Option α) : ib c t none = chk c t := by cases c <;> rfl
theorem ib_not {α : Type} (c : Bool) (e : Option α) : ib c none e = chk (not c) e := by cases c <;> rfl
theorem ib_match {α : Type} (c : Bool) (t e : Option α) : ib c t e = match c with | true => t | false => e := by cases c <;> rfl
theorem map_bind' {α β γ : Type} (x : Option α) (f : α → Option β) (g : β → γ) : (x.bind f).map g = x.bind fun a => (f a).map g := by cases x <;> rfl
theorem bind_map' {α β γ : Type} (x : Option α) (g : α → β) (f : β → Option γ) : (x.map g).bind f = x.bind fun a => f (g a) := by cases x <;> rfl
theorem map_chk {α β : Type} (c : Bool) (x : Option α) (g : α → β) : (chk c x).map g = chk c (x.map g) := by cases c <;> rfl

/-! trees -/
def unp : Pth → Nat
  | .e => 0
  | .a p => 4 * unp p + 1
  | .b p => 4 * unp p + 2
  | .c p => 4 * unp p + 3
  | .d p => 4 * unp p + 4

theorem pthF_succ (f k : Nat) : pthF (f + 1) (k + 1) = (match k % 4 with | 0 => .a (pthF f (k / 4)) | 1 => .b (pthF f (k / 4)) | 2 => .c (pthF f (k / 4)) | _ => .d (pthF f (k / 4))) := by
  show (Nat.rec (motive := fun _ => Pth) _ _ (k % 4) : Pth) = _
  generalize k % 4 = r
  match r with
  | 0 => rfl
  | 1 => rfl
  | 2 => rfl
  | _ + 3 => rfl

theorem unp_pth : ∀ (f k : Nat), k ≤ f → unp (pthF f k) = k
  | 0, k, h => by have : k = 0 := by omega
                  subst this; rfl
  | f + 1, 0, _ => rfl
  | f + 1, k + 1, h => by
    rw [pthF_succ]
    have ih := unp_pth f (k / 4) (Nat.le_trans (Nat.div_le_self k 4) (by omega))
    have hr : k % 4 < 4 := Nat.mod_lt _ (by omega)
    have hd := Nat.div_add_mod k 4
    rcases (by omega : k % 4 = 0 ∨ k % 4 = 1 ∨ k % 4 = 2 ∨ k % 4 = 3) with e | e | e | e <;> rw [e] <;> simp only [unp, ih] <;> omega

theorem pth_inj {k j : Nat} (h : pth k = pth j) : k = j := by
  have h1 := unp_pth k k (Nat.le_refl _)
  have h2 := unp_pth j j (Nat.le_refl _)
  unfold pth at h
  rw [← h1, ← h2, h]

/-- set, as a tree -/
def Tr.put {α : Type} (y : Option α) : Pth → Tr α → Tr α
  | .e, .nil => .node y .nil .nil .nil .nil
  | .e, .node _ a b c d => .node y a b c d
  | .a p, .nil => .node none (Tr.put y p .nil) .nil .nil .nil
  | .a p, .node v a b c d => .node v (Tr.put y p a) b c d
  | .b p, .nil => .node none .nil (Tr.put y p .nil) .nil .nil
  | .b p, .node v a b c d => .node v a (Tr.put y p b) c d
  | .c p, .nil => .node none .nil .nil (Tr.put y p .nil) .nil
  | .c p, .node v a b c d => .node v a b (Tr.put y p c) d
  | .d p, .nil => .node none .nil .nil .nil (Tr.put y p .nil)
  | .d p, .node v a b c d => .node v a b c (Tr.put y p d)

theorem setP_eq {α β : Type} (y : Option α) : ∀ (p : Pth) (t : Tr α) (k : Tr α → Option β), Tr.setP y p t k = k (Tr.put y p t)
  | .e, .nil, _ => rfl
  | .e, .node _ _ _ _ _, _ => rfl
  | .a p, .nil, k => setP_eq y p .nil _
  | .a p, .node v a b c d, k => setP_eq y p a _
  | .b p, .nil, k => setP_eq y p .nil _
  | .b p, .node v a b c d, k => setP_eq y p b _
  | .c p, .nil, k => setP_eq y p .nil _
  | .c p, .node v a b c d, k => setP_eq y p c _
  | .d p, .nil, k => setP_eq y p .nil _
  | .d p, .node v a b c d, k => setP_eq y p d _

theorem getP_nil {α : Type} : ∀ (p : Pth), (Tr.getP p .nil : Option α) = none
  | .e => rfl
  | .a _ => rfl
  | .b _ => rfl
  | .c _ => rfl
  | .d _ => rfl

theorem get_put {α : Type} (y : Option α) : ∀ (p q : Pth) (t : Tr α), Tr.getP q (Tr.put y p t) = if q = p then y else Tr.getP q t
  | .e, .e, .nil => rfl
  | .e, .e, .node _ _ _ _ _ => rfl
  | .e, .a q, .nil => by rw [if_neg (by simp)]; exact getP_nil q
  | .e, .b q, .nil => by rw [if_neg (by simp)]; exact getP_nil q
  | .e, .c q, .nil => by rw [if_neg (by simp)]; exact getP_nil q
  | .e, .d q, .nil => by rw [if_neg (by simp)]; exact getP_nil q
  | .e, .a q, .node _ _ _ _ _ => by rw [if_neg (by simp)]; rfl
  | .e, .b q, .node _ _ _ _ _ => by rw [if_neg (by simp)]; rfl
  | .e, .c q, .node _ _ _ _ _ => by rw [if_neg (by simp)]; rfl
  | .e, .d q, .node _ _ _ _ _ => by rw [if_neg (by simp)]; rfl
  | .a p, .e, .nil => by rw [if_neg (by simp)]; rfl
  | .a p, .a q, .nil => by have := get_put y p q .nil; rw [getP_nil] at this ⊢; simp only [Pth.a.injEq]; exact this
  | .a p, .b q, .nil => by rw [if_neg (by simp)]; exact getP_nil q
  | .a p, .c q, .nil => by rw [if_neg (by simp)]; exact getP_nil q
  | .a p, .d q, .nil => by rw [if_neg (by simp)]; exact getP_nil q
  | .a p, .e, .node _ _ _ _ _ => by rw [if_neg (by simp)]; rfl
  | .a p, .a q, .node _ a _ _ _ => by have := get_put y p q a; simp only [Pth.a.injEq]; exact this
  | .a p, .b q, .node _ _ _ _ _ => by rw [if_neg (by simp)]; rfl
  | .a p, .c q, .node _ _ _ _ _ => by rw [if_neg (by simp)]; rfl
  | .a p, .d q, .node _ _ _ _ _ => by rw [if_neg (by simp)]; rfl
  | .b p, .e, .nil => by rw [if_neg (by simp)]; rfl
  | .b p, .b q, .nil => by have := get_put y p q .nil; rw [getP_nil] at this ⊢; simp only [Pth.b.injEq]; exact this
  | .b p, .a q, .nil => by rw [if_neg (by simp)]; exact getP_nil q
  | .b p, .c q, .nil => by rw [if_neg (by simp)]; exact getP_nil q
  | .b p, .d q, .nil => by rw [if_neg (by simp)]; exact getP_nil q
  | .b p, .e, .node _ _ _ _ _ => by rw [if_neg (by simp)]; rfl
  | .b p, .b q, .node _ _ a _ _ => by have := get_put y p q a; simp only [Pth.b.injEq]; exact this
  | .b p, .a q, .node _ _ _ _ _ => by rw [if_neg (by simp)]; rfl
  | .b p, .c q, .node _ _ _ _ _ => by rw [if_neg (by simp)]; rfl
  | .b p, .d q, .node _ _ _ _ _ => by rw [if_neg (by simp)]; rfl
  | .c p, .e, .nil => by rw [if_neg (by simp)]; rfl
  | .c p, .c q, .nil => by have := get_put y p q .nil; rw [getP_nil] at this ⊢; simp only [Pth.c.injEq]; exact this
  | .c p, .a q, .nil => by rw [if_neg (by simp)]; exact getP_nil q
  | .c p, .b q, .nil => by rw [if_neg (by simp)]; exact getP_nil q
  | .c p, .d q, .nil => by rw [if_neg (by simp)]; exact getP_nil q
  | .c p, .e, .node _ _ _ _ _ => by rw [if_neg (by simp)]; rfl
  | .c p, .c q, .node _ _ _ a _ => by have := get_put y p q a; simp only [Pth.c.injEq]; exact this
  | .c p, .a q, .node _ _ _ _ _ => by rw [if_neg (by simp)]; rfl
  | .c p, .b q, .node _ _ _ _ _ => by rw [if_neg (by simp)]; rfl
  | .c p, .d q, .node _ _ _ _ _ => by rw [if_neg (by simp)]; rfl
  | .d p, .e, .nil => by rw [if_neg (by simp)]; rfl
  | .d p, .d q, .nil => by have := get_put y p q .nil; rw [getP_nil] at this ⊢; simp only [Pth.d.injEq]; exact this
  | .d p, .a q, .nil => by rw [if_neg (by simp)]; exact getP_nil q
  | .d p, .b q, .nil => by rw [if_neg (by simp)]; exact getP_nil q
  | .d p, .c q, .nil => by rw [if_neg (by simp)]; exact getP_nil q
  | .d p, .e, .node _ _ _ _ _ => by rw [if_neg (by simp)]; rfl
  | .d p, .d q, .node _ _ _ _ a => by have := get_put y p q a; simp only [Pth.d.injEq]; exact this
  | .d p, .a q, .node _ _ _ _ _ => by rw [if_neg (by simp)]; rfl
  | .d p, .b q, .node _ _ _ _ _ => by rw [if_neg (by simp)]; rfl
  | .d p, .c q, .node _ _ _ _ _ => by rw [if_neg (by simp)]; rfl

theorem set_eq {α β : Type} (t : Tr α) (k : Nat) (y : Option α) (f : Tr α → Option β) : t.set k y f = f (Tr.put y (pth k) t) := setP_eq y (pth k) t f
theorem put_get' {α : Type} (t : Tr α) (k : Nat) (y : Option α) : (Tr.put y (pth k) t).get = upd t.get k y := by
  funext j
  show Tr.getP (pth j) (Tr.put y (pth k) t) = _
  rw [get_put]
  unfold upd
  by_cases h : j = k
  · subst h; simp
  · rw [if_neg (fun e => h (pth_inj e)), if_neg h]; rfl
theorem get_nil {α : Type} : (Tr.nil : Tr α).get = fun _ => none := by funext k; exact getP_nil _

theorem isForb_cons (a b : Nat) (l : List (Nat × Nat)) (k : Nat) : isForb ((a, b) :: l) k = ((Nat.ble a k && Nat.blt k b) || isForb l k) := by
  show (Bool.rec (isForb l k) (Bool.rec (isForb l k) true (Nat.blt k b)) (Nat.ble a k) : Bool) = _
  cases Nat.ble a k <;> cases Nat.blt k b <;> rfl
theorem memN_cons (x : Nat) (l : List Nat) (k : Nat) : memN (x :: l) k = (Nat.beq x k || memN l k) := by
  show (Bool.rec (memN l k) true (Nat.beq x k) : Bool) = _
  cases Nat.beq x k <;> rfl

theorem getK_eq (s : StK) (k : Nat) : getK s k = (absS s).get k := by
  cases s
  show ib _ none _ = _
  rw [ib_match]
  rfl
theorem putK_eq (s : StK) (k : Nat) (b : Option BK) : (putK s k b).map absS = (absS s).put k b := by
  cases s with
  | mk h n forb mark log =>
    show (ib (isForb forb k) none (h.set k b _)).map absS = _
    rw [ib_match, set_eq]
    unfold St.put
    show Option.map absS (match isForb forb k with | true => none | false => _) = match isForb forb k with | true => none | false => _
    cases isForb forb k with
    | true => rfl
    | false =>
      show Option.map absS (ib (Nat.blt k mark) (some ⟨_, n, forb, mark, k :: log⟩) (some ⟨_, n, forb, mark, log⟩)) = some ⟨upd h.get k b, n, isForb forb, mark, match Nat.blt k mark with | true => upd (memN log) k true | false => memN log⟩
      cases Nat.blt k mark with
      | true =>
        show some (absS ⟨_, n, forb, mark, k :: log⟩) = _
        unfold absS
        simp only [put_get']
        congr 2
        funext j
        rw [memN_cons]
        unfold upd
        by_cases hj : j = k
        · subst hj; simp
        · rw [if_neg hj]
          have : Nat.beq k j = false := by
            cases hb : Nat.beq k j
            · rfl
            · exact absurd (Nat.eq_of_beq_eq_true hb).symm hj
          rw [this]; rfl
      | false =>
        show some (absS ⟨_, n, forb, mark, log⟩) = _
        unfold absS
        simp only [put_get']
noncomputable def absP {α : Type} (p : α × StK) : α × St := (p.1, absS p.2)
theorem newK_eq (s : StK) (b : BK) : (newK s b).map absP = (absS s).new b := by
  cases s with
  | mk h n forb mark log =>
    show (ib (isForb forb n) none (h.set n (some b) _)).map absP = _
    rw [ib_match, set_eq]
    unfold St.new
    show Option.map absP (match isForb forb n with | true => none | false => _) = match isForb forb n with | true => none | false => _
    cases isForb forb n with
    | true => rfl
    | false =>
      show some (n, absS ⟨_, Nat.succ n, forb, mark, log⟩) = _
      unfold absS
      simp only [put_get']

theorem takeK_eq : ∀ (n : Nat) (l : List CV), takeK n l = takeN n l
  | 0, l => by simp [takeN, chk]; rfl
  | n + 1, [] => by simp [takeN, chk]; rfl
  | n + 1, x :: l => by
    show ob (takeK n l) _ = _
    rw [takeK_eq n l, ob_eq]
    unfold takeN
    rw [show Nat.ble (n + 1) (x :: l).length = Nat.ble n l.length from rfl]
    cases Nat.ble n l.length <;> rfl
theorem dropK_eq : ∀ (n : Nat) (l : List CV), dropK n l = dropN n l
  | 0, l => by simp [dropN, chk]; rfl
  | n + 1, [] => by simp [dropN, chk]; rfl
  | n + 1, x :: l => by
    show dropK n l = _
    rw [dropK_eq n l]
    rfl
theorem layK_eq : ∀ (vs l : List CV), layK vs l = over 0 vs l
  | [], l => by simp [over, chk]; rfl
  | v :: vs, [] => by simp [over, chk]; rfl
  | v :: vs, x :: l => by
    show ob (layK vs l) _ = _
    rw [layK_eq vs l, ob_eq]
    unfold over
    rw [show Nat.ble (0 + (v :: vs).length) (x :: l).length = Nat.ble (0 + vs.length) l.length from by simp [Nat.zero_add]; rfl]
    cases Nat.ble (0 + vs.length) l.length <;> simp [chk]
theorem overK_eq : ∀ (n : Nat) (vs l : List CV), overK n vs l = over n vs l
  | 0, vs, l => layK_eq vs l
  | n + 1, vs, [] => by
    have : over (n + 1) vs [] = none := by
      unfold over
      rw [show Nat.ble (n + 1 + vs.length) ([] : List CV).length = false from by rw [Nat.add_right_comm]; rfl]
      rfl
    rw [this]; rfl
  | n + 1, vs, x :: l => by
    show ob (overK n vs l) _ = _
    rw [overK_eq n vs l, ob_eq]
    unfold over
    rw [show Nat.ble (n + 1 + vs.length) (x :: l).length = Nat.ble (n + vs.length) l.length from by rw [Nat.add_right_comm]; rfl]
    cases Nat.ble (n + vs.length) l.length
    · rfl
    · simp [chk, Nat.add_right_comm]
theorem appK_eq : ∀ (a b : List CV), appK a b = a ++ b
  | [], _ => rfl
  | x :: a, b => by show x :: appK a b = _; rw [appK_eq a b]; rfl
theorem repK_eq (z : List CV) : ∀ n, repK z n = rep z n
  | 0 => rfl
  | n + 1 => by show appK z (repK z n) = _; rw [appK_eq, repK_eq z n]; rfl
theorem lenK_eq {α : Type} : ∀ (l : List α), lenK l = l.length
  | [] => rfl
  | _ :: l => by show Nat.succ (lenK l) = _; rw [lenK_eq l]; rfl

theorem evK_eq (T : TK) (x : Operand) : evK T x = ev T.get x := by cases x <;> rfl
theorem evcK_eq (T : TK) (x : Operand) : evcK T x = evc T.get x := by unfold evcK evc; rw [ob_eq, evK_eq]
theorem evtK_eq (T : TK) (x : Operand) : evtK T x = evt T.get x := by unfold evtK evt; rw [ob_eq, evK_eq]
theorem intInK_eq (k : IntKind) (r : Int) : intInK k r = intIn k r := by unfold intInK intIn; rw [ib_eq]
theorem bitOpK_eq (f : Nat → Nat → Nat) (k : IntKind) (a b : Int) : bitOpK f k a b = bitOp f k a b := by
  cases a <;> cases b <;> simp only [bitOpK, bitOp, ib_eq, intInK_eq]
theorem divOpK_eq (q : Bool) (k : IntKind) (a b : Int) : divOpK q k a b = divOp q k a b := by
  unfold divOpK divOp
  rw [ib_not, ib_match, intInK_eq]
  cases q <;> rfl
theorem intOpK_eq (op : BinOp) (k : IntKind) (a b : Int) : intOpK op k a b = intOp op k a b := by
  cases op <;> simp only [intOpK, intOp, intInK_eq, bitOpK_eq, divOpK_eq]
section
variable {ty : Nat → Option TI} {held : Nat → Bool}
theorem binAggK_eq (op : BinOp) (t : Nat) (l l' : List CV) : binAggK ty held op t l l' = binAgg ty held op t l l' := by
  simp only [binAggK, binAgg, ob_eq, ib_eq, lenK_eq]
theorem binCK_eq (op : BinOp) (t : Nat) (c : Bool) (u v : CV) : binCK ty op t c u v = binC ty op t c u v := by
  simp only [binCK, binC, ob_eq, os2_eq, ib_eq]
theorem binIK_eq (op : BinOp) (k : IntKind) (a : Int) (k' : IntKind) (b : Int) : binIK op k a k' b = binI op k a k' b := by
  cases op <;> simp only [binIK, binI, ib_eq, intOpK_eq]
theorem binK_eq (op : BinOp) (t : Nat) (c : Bool) (u v : TV) : binK ty held op t c u v = binE ty held op t c u v := by
  unfold binK binE
  split <;> simp only [binIK_eq, binCK_eq, binAggK_eq]
theorem fieldEK_eq (t f : Nat) : fieldEK ty t f = fieldE ty t f := by simp only [fieldEK, fieldE, ob_eq]
theorem sliceTyK_eq (t : Nat) : sliceTyK ty t = sliceTy ty t := by
  unfold sliceTyK sliceTy
  rw [ob_eq]
  congr 1; funext ti
  cases ti.desc <;> first | rfl | exact ob_eq _ _
theorem fill1K_eq (size off : Nat) (cs : List CV) (v : TV) : fill1K size off cs v = fill1 size off cs v := by simp only [fill1K, fill1, ib_eq, lenK_eq, overK_eq]
theorem fillK_cons (place : Nat → Option (Nat × Nat)) (T : TK) (i : Nat) (x : Operand) (l : List (Nat × Operand)) (cs : List CV) :
    fillK place T ((i, x) :: l) cs = os2 (place i) fun off size => ob (evtK T x) fun v => ob (fill1K size off cs v) (fillK place T l) := rfl
theorem fillK_eq {place place' : Nat → Option (Nat × Nat)} (hp : ∀ i, place i = place' i) (T : TK) : ∀ (l : List (Nat × Operand)) (cs : List CV), fillK place T l cs = fillE place' T.get l cs
  | [], _ => rfl
  | (i, x) :: l, cs => by
    rw [fillK_cons]
    simp only [os2_eq, ob_eq, evtK_eq, fill1K_eq, fillE, hp]
    congr 1; funext p; congr 1; funext v; congr 1; funext cs'
    exact fillK_eq hp T l cs'
theorem fieldPlaceK_eq (t i : Nat) : fieldPlaceK ty t i = fieldPlaceE ty t i := by simp only [fieldPlaceK, fieldPlaceE, ob_eq, fieldEK_eq]
theorem buildK_eq (t : Nat) (parts : List (Nat × Operand)) (T : TK) (z : List CV) (d : TypeDesc) : buildK ty t parts T z d = buildE ty t parts T.get z d := by
  cases d with
  | struct fs => show ib _ _ none = chk _ _; rw [ib_eq, fillK_eq (fieldPlaceK_eq t)]
  | array n e => show ob _ _ = Option.bind _ _; rw [ob_eq]; congr 1; funext ei; exact fillK_eq (fun _ => rfl) T _ _
  | _ => rfl
theorem buildSliceK_eq (t n : Nat) (parts : List (Nat × Operand)) (T : TK) (s : StK) : (buildSliceK ty t n parts T s).map absP = buildSliceE ty t n parts T.get (absS s) := by
  simp only [buildSliceK, buildSliceE, os2_eq, ob_eq, ib_eq, lenK_eq, repK_eq, sliceTyK_eq, fillK_eq (fun _ => rfl), map_bind', map_chk, ← newK_eq, bind_map']
  rfl
theorem bndK_eq (T : TK) (x : Option Operand) : bndK T x = bnd T.get x := by cases x <;> simp only [bndK, bnd, ob_eq, evcK_eq]
theorem sliceFixK_eq (size b o l h m c : Nat) (ok : Bool) : sliceFixK size b o l h m c ok = sliceFix size b o l h m c ok := by simp only [sliceFixK, sliceFix, ib_eq]
theorem sliceOpnK_eq (size b o l h d know : Nat) : sliceOpnK size b o l h d know = sliceOpn size b o l h d know := by simp only [sliceOpnK, sliceOpn, ib_eq]
theorem knowK_eq (size d : Nat) (bk : BK) : knowK size d bk = knowE size d bk := by simp only [knowK, knowE, ib_eq, lenK_eq]
theorem sliceCVK_eq (s : StK) (size : Nat) (lo hi mx : Option Nat) (x : CV) : sliceCVK s size lo hi mx x = sliceCV (absS s) size lo hi mx x := by
  unfold sliceCVK sliceCV
  split <;> simp only [ib_eq, ob_eq, getK_eq, knowK_eq, sliceFixK_eq, sliceOpnK_eq] <;> rfl
theorem sliceK_eq (T : TK) (s : StK) (size : Nat) (x : CV) (lo hi mx : Option Operand) : sliceK T s size x lo hi mx = sliceE T.get (absS s) size x lo hi mx := by
  simp only [sliceK, sliceE, ob_eq, bndK_eq, sliceCVK_eq]
theorem cellsK_eq (s : StK) (size : Nat) (x : CV) : cellsK s size x = cellsOfSlice (absS s) size x := by
  unfold cellsK cellsOfSlice
  split <;> simp only [ob_eq, getK_eq, dropK_eq, takeK_eq]
theorem overEK_eq (s : StK) (b at_ : Nat) (new : List CV) (v : CV) : (overEK s b at_ new v).map absP = overE (absS s) b at_ new v := by
  simp only [overEK, overE, ob_eq, getK_eq, overK_eq, map_bind', ← putK_eq, bind_map']
  rfl
theorem grownK_eq (s : StK) (elem size n : Nat) (cs : List CV) : (grownK s elem size n cs).map absP = grown (absS s) elem size n cs := by
  simp only [grownK, grown, os2_eq, map_bind', ← newK_eq, bind_map']
  rfl
theorem appOpnK_eq (s : StK) (elem size n k b : Nat) (new : List CV) (bk : BK) : (appOpnK s elem size n k b new bk).map absP = appOpn (absS s) elem size n k b new bk := by
  simp only [appOpnK, appOpn, ib_eq, map_chk, lenK_eq]
  congr 2
  rw [ib_match]
  cases Nat.ble (Nat.mul (Nat.add n k) size) bk.cells.length
  · simp only [ob_eq, takeK_eq, map_bind', ← putK_eq, bind_map', grownK_eq, appK_eq]
  · exact overEK_eq _ _ _ _ _
theorem appToK_eq (s : StK) (elem size : Nat) (new : List CV) (k : Nat) (x : CV) : (appToK s elem size new k x).map absP = appTo (absS s) elem size new k x := by
  cases x with
  | snil =>
    simp only [appToK, appTo, ib_match]
    cases Nat.beq k 0
    · exact grownK_eq _ _ _ _ _
    · rfl
  | slice b o n c =>
    cases c with
    | fix c =>
      simp only [appToK, appTo, ib_match]
      cases Nat.ble (Nat.add n k) c
      · simp only [ob_eq, map_bind', cellsK_eq, grownK_eq, appK_eq]
      · exact overEK_eq _ _ _ _ _
    | opn d => simp only [appToK, appTo, ib_eq, map_chk, ob_eq, map_bind', getK_eq, appOpnK_eq]
  | _ => rfl
theorem appendK_eq (s : StK) (elem size bytes : Nat) (x y : CV) : (appendK s elem size bytes x y).map absP = appendE (absS s) elem size bytes x y := by
  simp only [appendK, appendE, ib_eq, map_chk, ob_eq, map_bind', cellsK_eq, appToK_eq]
theorem capsK_eq (T : TK) : ∀ (l : List Operand), capsK T l = capsOf T.get l
  | [] => rfl
  | x :: l => by
    rw [show capsK T (x :: l) = ob (evcK T x) fun v => ob (ptrOf v) fun p => ob (capsK T l) fun r => some (p :: r) from rfl]
    simp only [ob_eq, evcK_eq, capsOf, capsK_eq T l]
theorem kM_eq (s : StK) (v : Option CV) : (kM s v).map absP = pkM (absS s) v := by cases v <;> rfl
theorem kS_eq (x : Option (CV × StK)) : (kS x).map absP = pkS (x.map absP) := by cases x <;> rfl
theorem kT_eq (s : StK) (v : Option TV) : (kT s v).map absP = pkT (absS s) v := by cases v <;> rfl
theorem kA_eq (s : StK) (v : Option AV) : (kA s v).map absP = pkA (absS s) v := by cases v <;> rfl
theorem partK_eq (ti : TI) (off : Nat) (l : List CV) : partK ti off l = partE ti off l := by
  simp only [partK, partE, ob_eq, dropK_eq, takeK_eq, ib_match]
  rfl
theorem newPtrK_eq (s : StK) (t : Nat) (cs : List CV) : (newPtrK s t cs).map absP = newPtr (absS s) t cs := by
  simp only [newPtrK, newPtr, os2_eq, map_bind', ← newK_eq, bind_map']
  rfl
theorem loadAtK_eq (t : Nat) (s : StK) (b o : Nat) : loadAtK ty t s b o = loadAt ty t (absS s) b o := by simp only [loadAtK, loadAt, ob_eq, getK_eq, partK_eq]
theorem loadK_eq (t : Nat) (a : Operand) (T : TK) (s : StK) : (loadK ty t a T s).map absP = loadE ty t a T.get (absS s) := by
  simp only [loadK, loadE, ob_eq, os2_eq, map_bind', evcK_eq, kT_eq, loadAtK_eq]
theorem storeAtK_eq (t : Nat) (s : StK) (b o : Nat) (v : TV) : (storeAtK ty t s b o v).map absP = storeAt ty t (absS s) b o v := by
  simp only [storeAtK, storeAt, ob_eq, ib_eq, lenK_eq, getK_eq, overK_eq, map_bind', map_chk, ← putK_eq, bind_map']
  rfl
theorem storeK_eq (t : Nat) (a x : Operand) (T : TK) (s : StK) : (storeK ty t a x T s).map absP = storeE ty t a x T.get (absS s) := by
  simp only [storeK, storeE, ob_eq, os2_eq, map_bind', evcK_eq, evtK_eq, storeAtK_eq]
theorem indexAtK_eq (i : Nat) (x : CV) (d : TypeDesc) : indexAtK ty i x d = indexAt ty i x d := by
  cases d <;> cases x <;> simp only [indexAtK, indexAt, ib_eq, ob_eq]
theorem indexAddrK_eq (t : Nat) (x ix : Operand) (T : TK) : indexAddrK ty t x ix T = indexAddrE ty t x ix T.get := by
  simp only [indexAddrK, indexAddrE, ob_eq, evcK_eq, indexAtK_eq]
theorem indexInK_eq (i : Nat) (x : TV) (d : TypeDesc) : indexInK ty i x d = indexIn ty i x d := by
  cases d <;> simp only [indexInK, indexIn, ib_eq, ob_eq, partK_eq]
theorem indexK_eq (t : Nat) (x ix : Operand) (T : TK) : indexK ty t x ix T = indexE ty t x ix T.get := by
  simp only [indexK, indexE, ob_eq, evcK_eq, evtK_eq, indexInK_eq]
theorem fieldAddrK_eq (t : Nat) (x : Operand) (f : Nat) (T : TK) : fieldAddrK ty t x f T = fieldAddrE ty t x f T.get := by
  simp only [fieldAddrK, fieldAddrE, ob_eq, os2_eq, ib_not, fieldEK_eq, evcK_eq]
theorem fieldVK_eq (t : Nat) (x : Operand) (f : Nat) (T : TK) : fieldVK ty t x f T = fieldVE ty t x f T.get := by
  simp only [fieldVK, fieldVE, ob_eq, fieldEK_eq, evtK_eq, partK_eq]
theorem makeSliceK_eq (t : Nat) (l c : Operand) (T : TK) (s : StK) : (makeSliceK ty t l c T s).map absP = makeSliceE ty t l c T.get (absS s) := by
  simp only [makeSliceK, makeSliceE, os2_eq, ob_eq, ib_eq, lenK_eq, repK_eq, sliceTyK_eq, evcK_eq, map_bind', map_chk, ← newK_eq, bind_map']
  rfl
theorem convK_eq (src dst : Nat) (x : Operand) (T : TK) : convK ty src dst x T = convE ty src dst x T.get := by simp only [convK, convE, ob_eq, evcK_eq, intInK_eq]
theorem ifaceK_eq (t : Nat) (x : Operand) (T : TK) : ifaceK ty t x T = ifaceE ty t x T.get := by simp only [ifaceK, ifaceE, ob_eq, os2_eq, ib_eq, evcK_eq]
theorem funcK_eq (fn : Fn) (first captured : List Operand) (T : TK) : funcK fn first captured T = funcE fn first captured T.get := by
  cases fn <;> cases first <;> first | rfl | simp only [funcK, funcE, ob_eq, capsK_eq]
theorem copyK_eq (s : StK) (size : Nat) (x y : CV) : (copyK s size x y).map absP = copyE (absS s) size x y := by
  simp only [copyK, copyE, ob_eq, ib_eq, map_bind', map_chk, cellsK_eq]
  congr 1; funext n; congr 1; funext k; congr 1; congr 1; funext cs
  cases x <;> first | exact overEK_eq _ _ _ _ _ | rfl
theorem blt2K_eq (b : Builtin) (t u : Nat) (x y : CV) (s : StK) : (blt2K ty b t u x y s).map absP = blt2 ty b t u x y (absS s) := by
  cases b <;> simp only [blt2K, blt2, os2_eq, ob_eq, ib_eq, map_bind', map_chk, sliceTyK_eq, lenK_eq, appendK_eq, copyK_eq] <;> rfl
theorem lenEK_eq (t : Nat) (x : Operand) (T : TK) (s : StK) : (lenEK ty t x T s).map absP = lenE ty t x T.get (absS s) := by
  simp only [lenEK, lenE, ob_eq, ib_eq, map_bind', map_chk, evcK_eq]
  rfl
theorem bltK_eq (b : Builtin) (ts : List Nat) (args : List Operand) (T : TK) (s : StK) : (bltK ty b ts args T s).map absP = bltE ty b ts args T.get (absS s) := by
  match args with
  | [] => rfl
  | [x] => match ts with
    | [] => rfl
    | [t] => cases b <;> first | exact lenEK_eq _ _ _ _ | rfl
    | _ :: _ :: _ => cases b <;> rfl
  | [x, y] => match ts with
    | [] => rfl
    | [_] => rfl
    | [t, u] => simp only [bltK, bltE, ob_eq, map_bind', evcK_eq, blt2K_eq]
    | _ :: _ :: _ :: _ => rfl
  | _ :: _ :: _ :: _ => rfl
theorem evsK_eq (T : TK) : ∀ (l : List Operand), evsK T l = evs T.get l
  | [] => rfl
  | x :: l => by
    rw [show evsK T (x :: l) = ob (evK T x) fun v => ob (evsK T l) fun r => some (v :: r) from rfl]
    simp only [ob_eq, evK_eq, evs, evsK_eq T l]
theorem appAK_eq : ∀ (a b : List AV), appAK a b = a ++ b
  | [], _ => rfl
  | x :: a, b => by show x :: appAK a b = _; rw [appAK_eq a b]; rfl

/-- a call of the kernel's form is one of the spoken form -/
def CallEq (c : CallK) (c' : CallF) : Prop := ∀ f l s, (c f l s).map absP = c' f l (absS s)

theorem callOpK_eq {c : CallK} {c' : CallF} (hc : CallEq c c') (k : Call) (T : TK) (s : StK) : (callOpK ty c k T s).map absP = callOp ty c' k T.get (absS s) := by
  unfold callOpK callOp
  cases k.callee with
  | value f => simp only [ob_eq, os2_eq, map_bind', evcK_eq, evsK_eq, appAK_eq, hc _ _ _]
  | builtin b => simp only [kS_eq, bltK_eq]
  | invoke a b => rfl
theorem pickK_eq (a b : Operand) (T : TK) (c : Bool) : pickK a b T c = pickE a b T.get c := by cases c <;> simp only [pickK, pickE, evK_eq]
theorem opK_eq {c : CallK} {c' : CallF} (hc : CallEq c c') (op : Op) (T : TK) (s : StK) : (opK ty held c op T s).map absP = opE ty held c' op T.get (absS s) := by
  cases op <;> simp only [opK, opE, kA_eq, kM_eq, kS_eq, kT_eq, ob_eq, os2_eq, map_bind', evK_eq, evcK_eq, evtK_eq, pickK_eq, newPtrK_eq, buildK_eq, buildSliceK_eq, loadK_eq, storeK_eq, binK_eq, convK_eq, ifaceK_eq, funcK_eq,
    makeSliceK_eq, sliceTyK_eq, sliceK_eq, fieldAddrK_eq, fieldVK_eq, indexAddrK_eq, indexK_eq, callOpK_eq hc, Option.map_some, Option.map_none] <;> rfl
end
section
open Classical
noncomputable def absT (p : TK × StK) : TM × St := (p.1.get, absS p.2)
noncomputable def absD (d : DoneK) : Done := ⟨d.lo, d.hi, memN d.wr⟩
noncomputable def absX (x : DSK) : DS := ⟨x.ds.map absD, x.T.get, x.h.get, x.n⟩
noncomputable def absG (p : Nat × List Nat) : Nat × (Nat → Bool) := (p.1, memN p.2)
noncomputable def absC' (r : CSK) : CS := ⟨r.e, r.T.get, absS r.s⟩

theorem putTK_eq {β γ : Type} {F : β → γ} {nt : Nat} {T : TK} {dst : Option Tmp} {v : AV} {k : TK → Option β} {k' : TM → Option γ} (h : ∀ T, (k T).map F = k' T.get) :
    (putTK nt T dst v k).map F = (putE nt T.get dst v).bind k' := by
  cases dst with
  | none => exact h T
  | some d =>
    show (ib (Nat.blt d nt) (T.set d (some v) k) none).map F = (chk (Nat.blt d nt) (some (upd T.get d (some v)))).bind k'
    rw [ib_eq, set_eq]
    cases Nat.blt d nt
    · rfl
    · show (k _).map F = k' _
      rw [h, put_get']
theorem wantK_eq (ops : List Oper) (T : TK) (g : Option (Nat × Bool)) : wantK ops T g = wantE ops T.get g := by
  cases g with
  | none => rfl
  | some p =>
    obtain ⟨j, w⟩ := p
    show ob (ops[j]?) _ = _
    simp only [ob_eq, wantE]

theorem isForb_single (k : Nat) : ∀ (l : List Nat) (f : List (Nat × Nat)), isForb (singleK l f) k = (memN l k || isForb f k)
  | [], f => rfl
  | x :: l, f => by
    show isForb ((x, Nat.succ x) :: singleK l f) k = _
    rw [isForb_cons, isForb_single k l f, memN_cons]
    have : (Nat.ble x k && Nat.blt k (Nat.succ x)) = Nat.beq x k := by
      rw [Bool.eq_iff_iff]
      simp only [Bool.and_eq_true, Nat.ble_eq, Nat.blt_eq, Nat.beq_eq]
      omega
    rw [this, Bool.or_assoc]
theorem isForb_span (k : Nat) (d : DoneK) (f : List (Nat × Nat)) : isForb (spanK d f) k = (((Nat.ble d.lo k && Nat.blt k d.hi) || memN d.wr k) || isForb f k) := by
  obtain ⟨lo, hi, wr⟩ := d
  show isForb (Bool.rec ((lo, hi) :: singleK wr f) (singleK wr f) (Nat.ble hi lo)) k = _
  cases hb : Nat.ble hi lo
  · show isForb ((lo, hi) :: singleK wr f) k = _
    rw [isForb_cons, isForb_single, Bool.or_assoc]
  · show isForb (singleK wr f) k = _
    have : (Nat.ble lo k && Nat.blt k hi) = false := by
      rw [Nat.ble_eq] at hb
      cases h : (Nat.ble lo k && Nat.blt k hi)
      · rfl
      · simp only [Bool.and_eq_true, Nat.ble_eq, Nat.blt_eq] at h; omega
    rw [isForb_single, this, Bool.false_or]
theorem bitK_eq (m j : Nat) : bitK m j = Nat.testBit m j := by
  rw [Nat.testBit_eq_decide_div_mod_eq]
  show Nat.beq ((m >>> j) % 2) 1 = _
  rw [Nat.shiftRight_eq_div_pow, Bool.eq_iff_iff]
  simp [Nat.beq_eq]
theorem hideK_cons (m : Nat) (d : DoneK) (l : List DoneK) (j : Nat) (f : List (Nat × Nat)) : hideK m (d :: l) j f = Bool.rec (spanK d (hideK m l (Nat.succ j) f)) (hideK m l (Nat.succ j) f) (bitK m j) := rfl
theorem isForb_hide (m k : Nat) : ∀ (ds : List DoneK) (j : Nat) (f : List (Nat × Nat)), isForb (hideK m ds j f) k = (isForb f k || hideD m k j (ds.map absD))
  | [], j, f => by simp [hideD]; rfl
  | d :: l, j, f => by
    rw [hideK_cons, bitK_eq]
    simp only [List.map_cons, hideD, absD]
    cases Nat.testBit m j
    · show isForb (spanK d _) k = _
      rw [isForb_span, isForb_hide m k l]
      simp only [Bool.not_false, Bool.true_and]
      rw [Bool.or_left_comm]
    · show isForb (hideK m l (Nat.succ j) f) k = _
      rw [isForb_hide m k l]
      simp
theorem hideGK_cons (i : Nat) (p : Nat × List Nat) (l : List (Nat × List Nat)) (j : Nat) (f : List (Nat × Nat)) : hideGK i (p :: l) j f =
    Bool.rec (hideGK i l (Nat.succ j) f) (Bool.rec (singleK p.2 (hideGK i l (Nat.succ j) f)) (hideGK i l (Nat.succ j) f) (bitK p.1 i)) (Nat.blt i j) := rfl
theorem isForb_hideG (i k : Nat) : ∀ (gs : List (Nat × List Nat)) (j : Nat) (f : List (Nat × Nat)), isForb (hideGK i gs j f) k = (isForb f k || hideG i k j (gs.map absG))
  | [], j, f => by simp [hideG]; rfl
  | p :: l, j, f => by
    rw [hideGK_cons, bitK_eq]
    simp only [List.map_cons, hideG, absG]
    cases Nat.blt i j
    · show isForb (hideGK i l (Nat.succ j) f) k = _
      rw [isForb_hideG i k l]
      simp
    · cases Nat.testBit p.1 i
      · show isForb (singleK p.2 _) k = _
        rw [isForb_single, isForb_hideG i k l]
        simp only [Bool.not_false, Bool.true_and]
        rw [Bool.or_left_comm]
      · show isForb (hideGK i l (Nat.succ j) f) k = _
        rw [isForb_hideG i k l]
        simp
theorem snocK_eq {α : Type} : ∀ (l : List α) (x : α), snocK l x = l ++ [x]
  | [], _ => rfl
  | y :: l, x => by show y :: snocK l x = _; rw [snocK_eq l x]; rfl

section
variable {ty : Nat → Option TI} {held : Nat → Bool} {c : CallK} {c' : CallF} {nt : Nat}

theorem opsK_eq (hc : CallEq c c') (all : List Oper) : ∀ (l : List Oper) (T : TK) (s : StK), (opsK ty held c nt all l T s).map absT = opsE ty held c' nt all l T.get (absS s)
  | [], T, s => rfl
  | o :: l, T, s => by
    rw [show opsK ty held c nt all (o :: l) T s = ob (wantK all T o.guard) fun w => Bool.rec (putTK nt T o.dst (.tup []) fun T => opsK ty held c nt all l T s)
      (os2 (opK ty held c o.op T s) fun v s => putTK nt T o.dst v fun T => opsK ty held c nt all l T s) w from rfl]
    simp only [ob_eq, map_bind', wantK_eq, opsE]
    congr 1; funext w
    cases w with
    | false => exact putTK_eq fun T => opsK_eq hc all l T s
    | true =>
      show (os2 _ _).map absT = Option.bind _ _
      rw [os2_eq, map_bind', ← opK_eq hc, bind_map']
      congr 1; funext p
      exact putTK_eq fun T => opsK_eq hc all l T p.2

theorem draw1K_eq (hc : CallEq c c') (all : List Oper) (gs : List (Nat × List Nat)) (f0 : List (Nat × Nat)) (o : Oper) (i m : Nat) (x : DSK) :
    (draw1K ty held c nt all gs f0 o i m x).map absX = draw1 ty held c' nt all (gs.map absG) (isForb f0) o i m (absX x) := by
  obtain ⟨ds, T, h, n⟩ := x
  rw [show draw1K ty held c nt all gs f0 o i m ⟨ds, T, h, n⟩ = ob (wantK all T o.guard) fun w => Bool.rec (putTK nt T o.dst (.tup []) fun T => some ⟨snocK ds ⟨n, n, []⟩, T, h, n⟩)
      (os2 (opK ty held c o.op T ⟨h, n, hideGK i gs 0 (hideK m ds 0 f0), n, []⟩) fun v s => StK.rec (fun h n' _ _ log => putTK nt T o.dst v fun T => some ⟨snocK ds ⟨n, n', log⟩, T, h, n'⟩) s) w from rfl]
  simp only [ob_eq, map_bind', wantK_eq, draw1]
  show Option.bind _ _ = Option.bind _ _
  congr 1; funext w
  cases w with
  | false =>
    refine putTK_eq fun T' => ?_
    show some (absX ⟨snocK ds ⟨n, n, []⟩, T', h, n⟩) = _
    simp only [absX, snocK_eq, List.map_append, List.map_cons, List.map_nil, absD]
    rfl
  | true =>
    show (os2 _ _).map absX = Option.bind _ _
    rw [os2_eq, map_bind']
    have hs : absS ⟨h, n, hideGK i gs 0 (hideK m ds 0 f0), n, []⟩ = ⟨h.get, n, forbE (isForb f0) i m (ds.map absD) (gs.map absG), n, fun _ => false⟩ := by
      unfold absS
      have h1 : isForb (hideGK i gs 0 (hideK m ds 0 f0)) = forbE (isForb f0) i m (ds.map absD) (gs.map absG) := by
        funext k
        rw [isForb_hideG, isForb_hide]
        rfl
      have h2 : memN [] = fun _ => false := rfl
      simp only [h1, h2]
    show _ = (opE ty held c' o.op T.get ⟨h.get, n, forbE (isForb f0) i m (ds.map absD) (gs.map absG), n, fun _ => false⟩).bind _
    rw [← hs, ← opK_eq hc, bind_map']
    congr 1; funext p
    obtain ⟨v, ⟨h', n', fb, mk, log⟩⟩ := p
    refine putTK_eq fun T' => ?_
    show some (absX ⟨snocK ds ⟨n, n', log⟩, T', h', n'⟩) = _
    simp only [absX, snocK_eq, List.map_append, List.map_cons, List.map_nil, absD]
    rfl

theorem drawK_eq (hc : CallEq c c') (all : List Oper) (gs : List (Nat × List Nat)) (f0 : List (Nat × Nat)) : ∀ (l : List Oper) (i : Nat) (ms : List Nat) (x : DSK),
    (drawK ty held c nt all gs f0 l i ms x).map absX = drawE ty held c' nt all (gs.map absG) (isForb f0) l i ms (absX x)
  | [], _, _, _ => rfl
  | o :: l, i, [], x => rfl
  | o :: l, i, m :: ms, x => by
    rw [show drawK ty held c nt all gs f0 (o :: l) i (m :: ms) x = ob (draw1K ty held c nt all gs f0 o i m x) fun x => drawK ty held c nt all gs f0 l (Nat.succ i) ms x from rfl]
    simp only [ob_eq, map_bind', drawE, ← draw1K_eq hc, bind_map']
    congr 1; funext y
    exact drawK_eq hc all gs f0 l (i + 1) ms y

theorem subK_spec (b : List Nat) : ∀ (a : List Nat), subK a b = true ↔ ∀ k, memN a k = true → memN b k = true
  | [] => ⟨fun _ k h => (by cases h), fun _ => rfl⟩
  | x :: a => by
    rw [show subK (x :: a) b = Bool.rec false (subK a b) (memN b x) from rfl]
    have ih := subK_spec b a
    constructor
    · intro h k hk
      rw [memN_cons, Bool.or_eq_true] at hk
      cases hx : memN b x with
      | false => rw [hx] at h; cases h
      | true =>
        rw [hx] at h
        rcases hk with hk | hk
        · rw [← Nat.eq_of_beq_eq_true hk]; exact hx
        · exact ih.1 h k hk
    · intro h
      have hx : memN b x = true := h x (by rw [memN_cons]; simp)
      rw [hx]
      exact ih.2 fun k hk => h k (by rw [memN_cons, hk, Bool.or_true])

theorem guessedK_eq : ∀ (ds : List DoneK) (gs : List (Nat × List Nat)), guessedK ds gs = decide (Guessed (ds.map absD) (gs.map absG)) := by
  intro ds gs
  rw [Bool.eq_iff_iff, decide_eq_true_iff]
  induction ds generalizing gs with
  | nil => exact ⟨fun _ i d h => by simp at h, fun _ => rfl⟩
  | cons d ds ih =>
    cases gs with
    | nil =>
      rw [show guessedK (d :: ds) [] = List.rec (guessedK ds []) (fun _ _ _ => false) d.wr from rfl]
      constructor
      · intro h i d' hd k hk
        cases hw : d.wr with
        | nil =>
          rw [hw] at h
          have := (ih []).1 h
          cases i with
          | zero =>
            simp only [List.map_cons, List.getElem?_cons_zero, Option.some.injEq] at hd
            subst hd
            rw [show (absD d).wr k = memN d.wr k from rfl, hw] at hk
            cases hk
          | succ i => exact this i d' (by simpa using hd) k hk
        | cons x l => rw [hw] at h; cases h
      · intro h
        cases hw : d.wr with
        | nil => exact (ih []).2 fun i d' hd k hk => h (i + 1) d' (by simpa using hd) k hk
        | cons x l =>
          exfalso
          obtain ⟨g, hg, _⟩ := h 0 (absD d) (by simp) x (by show memN d.wr x = true; rw [hw, memN_cons]; simp)
          simp at hg
    | cons g gs =>
      rw [show guessedK (d :: ds) (g :: gs) = Bool.rec false (guessedK ds gs) (subK d.wr g.2) from rfl]
      constructor
      · intro h
        cases hs : subK d.wr g.2 with
        | false => rw [hs] at h; cases h
        | true =>
          rw [hs] at h
          have h1 := (ih gs).1 h
          intro i d' hd k hk
          cases i with
          | zero =>
            simp only [List.map_cons, List.getElem?_cons_zero, Option.some.injEq] at hd
            subst hd
            exact ⟨absG g, by simp, (subK_spec g.2 d.wr).1 hs k hk⟩
          | succ i =>
            obtain ⟨g', h2, h3⟩ := h1 i d' (by simpa using hd) k hk
            exact ⟨g', by simpa using h2, h3⟩
      · intro h
        have hs : subK d.wr g.2 = true := (subK_spec g.2 d.wr).2 fun k hk => by
          obtain ⟨g', h2, h3⟩ := h 0 (absD d) (by simp) k hk
          simp only [List.map_cons, List.getElem?_cons_zero, Option.some.injEq] at h2
          subst h2
          exact h3
        rw [hs]
        exact (ih gs).2 fun i d' hd k hk => by
          obtain ⟨g', h2, h3⟩ := h (i + 1) d' (by simpa using hd) k hk
          exact ⟨g', by simpa using h2, h3⟩

theorem guess0K_eq : ∀ (ms : List Nat), (guess0K ms).map absG = guess0 ms
  | [] => rfl
  | m :: ms => by
    rw [show guess0K (m :: ms) = (m, []) :: guess0K ms from rfl, List.map_cons, guess0K_eq ms]
    rfl
theorem guess1K_eq : ∀ (ms : List Nat) (ds : List DoneK), (guess1K ms ds).map absG = guess1 ms (ds.map absD)
  | [], ds => by cases ds <;> rfl
  | m :: ms, [] => by
    rw [show guess1K (m :: ms) [] = (m, []) :: guess1K ms [] from rfl, List.map_cons, guess1K_eq ms []]
    rfl
  | m :: ms, d :: ds => by
    rw [show guess1K (m :: ms) (d :: ds) = (m, d.wr) :: guess1K ms ds from rfl, List.map_cons, guess1K_eq ms ds]
    rfl

theorem mem_below (mk k : Nat) : ∀ (l r : List Nat), memN (belowK mk l r) k = ((Nat.blt k mk && memN l k) || memN r k)
  | [], r => by rw [show belowK mk [] r = r from rfl, show memN [] k = false from rfl]; simp
  | x :: l, r => by
    rw [show belowK mk (x :: l) r = Bool.rec (belowK mk l r) (x :: belowK mk l r) (Nat.blt x mk) from rfl, memN_cons]
    cases hx : Nat.blt x mk
    · show memN (belowK mk l r) k = _
      rw [mem_below mk k l r]
      cases hk : Nat.beq x k
      · simp
      · have := Nat.eq_of_beq_eq_true hk; subst this; rw [hx]; simp
    · show memN (x :: belowK mk l r) k = _
      rw [memN_cons, mem_below mk k l r]
      cases hk : Nat.beq x k
      · simp
      · have := Nat.eq_of_beq_eq_true hk; subst this; rw [hx]; simp
theorem mem_logs (mk k : Nat) (r : List Nat) : ∀ (ds : List DoneK), memN (logsK mk ds r) k = ((Nat.blt k mk && (ds.map absD).any fun d => d.wr k) || memN r k)
  | [] => by rw [show logsK mk [] r = r from rfl]; simp
  | d :: ds => by
    rw [show logsK mk (d :: ds) r = belowK mk d.wr (logsK mk ds r) from rfl, mem_below, mem_logs mk k r ds]
    simp only [List.map_cons, List.any_cons]
    rw [show (absD d).wr k = memN d.wr k from rfl]
    cases Nat.blt k mk <;> cases memN d.wr k <;> simp
theorem finK_eq (s : StK) (x : DSK) : (finK s x).map absT = finD (absS s) (absX x) := by
  obtain ⟨h0, n0, fb, mk, log⟩ := s
  obtain ⟨ds, T, h, n⟩ := x
  show some (absT (T, ⟨h, n, fb, mk, logsK mk ds log⟩)) = _
  unfold finD absT absS absX
  congr 3
  funext k
  rw [mem_logs]
  exact Bool.or_comm _ _

theorem regK_eq (hc : CallEq c c') {ops : Array Oper} (hok : regOk ops = true) (T : TK) (s : StK) : (regK ty held c nt ops T s).map absT = regE ty held c' nt ops T.get (absS s) := by
  have hg : ∀ gs, (drawGK ty held c nt gs ops (masks ops.toList []) T s).map absX = drawG ty held c' nt (gs.map absG) ops T.get (absS s) := by
    intro gs
    obtain ⟨h0, n0, fb, mk, log⟩ := s
    exact drawK_eq hc ops.toList gs fb ops.toList 0 (masks ops.toList []) ⟨[], T, h0, n0⟩
  unfold regE
  rw [hok]
  show (regG ty held c nt ops (masks ops.toList []) T s).map absT = _
  unfold regG
  simp only [ob_eq, map_bind', chk]
  rw [← guess0K_eq, ← hg, bind_map']
  congr 1; funext x
  rw [show (absX x).ds = x.ds.map absD from rfl, ← guessedK_eq]
  cases guessedK x.ds (guess0K (masks ops.toList []))
  · show Option.map absT (Option.bind _ _) = _
    rw [map_bind', ← guess1K_eq, ← hg, bind_map']
    congr 1; funext y
    rw [ib_eq, map_chk, finK_eq, guessedK_eq]
    rfl
  · exact finK_eq s x

/-- all drawn regions of a code can be run so -/
def allReg : Code → Bool
  | .region _ ops draw => match draw with | true => regOk ops | false => true
  | .seq a b => allReg a && allReg b
  | .cond _ a b => allReg a && allReg b
  | .block _ b => allReg b
  | .loop b => allReg b
  | _ => true

theorem codeK_eq (hc : CallEq c c') : ∀ (f : Nat) (k : Code) (T : TK) (s : StK), allReg k = true → (codeK ty held c nt f k T s).map absC' = codeE ty held c' nt f k T.get (absS s) := by
  intro f
  induction f with
  | zero => intro k T s _; rfl
  | succ f ih =>
    intro k T s hk
    have thenEq : ∀ (a b : Code), allReg a = true → allReg b = true → (thenK (codeK ty held c nt f a T s) (codeK ty held c nt f b)).map absC' = thenE (codeE ty held c' nt f a T.get (absS s)) (codeE ty held c' nt f b) := by
      intro a b ha hb
      unfold thenK thenE
      rw [ob_eq, map_bind', ← ih a T s ha, bind_map']
      congr 1; funext r
      obtain ⟨e, T1, s1⟩ := r
      show (ib (isNormal e) (codeK ty held c nt f b T1 s1) (some ⟨e, T1, s1⟩)).map absC' = match isNormal e with | true => codeE ty held c' nt f b T1.get (absS s1) | false => some ⟨e, T1.get, absS s1⟩
      rw [ib_match]
      cases isNormal e
      · rfl
      · exact ih b T1 s1 hb
    show (codeS ty held c nt (codeK ty held c nt f) k T s).map absC' = _
    cases k with
    | skip => rfl
    | label l => rfl
    | exit id => rfl
    | ret => rfl
    | region id ops draw =>
      simp only [codeS, codeE, toCS, os2_eq, map_bind']
      cases draw with
      | false =>
        show Option.bind (opsK ty held c nt ops.toList ops.toList T s) _ = Option.bind (opsE ty held c' nt ops.toList ops.toList T.get (absS s)) _
        rw [← opsK_eq hc, bind_map']
        rfl
      | true =>
        show Option.bind (regK ty held c nt ops T s) _ = Option.bind (regE ty held c' nt ops T.get (absS s)) _
        rw [← regK_eq hc hk, bind_map']
        rfl
    | seq a b =>
      simp only [allReg, Bool.and_eq_true] at hk
      exact thenEq a b hk.1 hk.2
    | cond x a b =>
      simp only [allReg, Bool.and_eq_true] at hk
      simp only [codeS, codeE, ob_eq, map_bind', evcK_eq]
      congr 1; funext v; congr 1; funext q
      cases q with
      | true => exact ih a T s hk.1
      | false => exact ih b T s hk.2
    | block id b =>
      simp only [codeS, codeE, ob_eq, map_bind']
      rw [← ih b T s hk, bind_map']
      rfl
    | loop b => exact thenEq b (.loop b) hk hk
    | _ => rfl

theorem enterK_eq {β γ : Type} {F : β → γ} {k : TK → Option β} {k' : TM → Option γ} (h : ∀ T, (k T).map F = k' T.get) : ∀ (l : List AV) (i : Nat) (T : TK), (enterK k l i T).map F = k' (enterE l i T.get)
  | [], i, T => h T
  | v :: l, i, T => by
    rw [show enterK k (v :: l) i T = T.set i (some v) fun T => enterK k l (Nat.succ i) T from rfl, set_eq, enterK_eq h l (Nat.succ i) _, put_get']
    rfl
theorem res1K_eq (T : TK) (s : StK) (r : ResultVar) : res1K ty T s r = res1 ty T.get (absS s) r := by
  cases r <;> simp only [res1K, res1, ob_eq, os2_eq, loadAtK_eq]
theorem resK_eq (T : TK) (s : StK) : ∀ (l : List ResultVar), resK ty T s l = resE ty T.get (absS s) l
  | [] => rfl
  | r :: l => by
    rw [show resK ty T s (r :: l) = ob (res1K ty T s r) fun v => ob (resK ty T s l) fun l => some (v :: l) from rfl]
    simp only [ob_eq, res1K_eq, resE, resK_eq T s l]

theorem callK_eq {fn : Nat → Option Func} {steps : Nat} (hr : ∀ f F k, fn f = some F → F.body = some k → allReg k = true) : ∀ d, CallEq (callK ty held fn steps d) (callE ty held fn steps d) := by
  intro d
  induction d with
  | zero => intro f l s; rfl
  | succ d ih =>
    intro f l s
    rw [show callK ty held fn steps (d + 1) f l s = ob (fn f) fun F => ob F.body fun code => ib (fnOk F) (ib (Nat.ble (lenK l) F.ntmps)
      (enterK (fun T => ob (codeK ty held (callK ty held fn steps d) F.ntmps steps code T s) fun r => leaveK ty F r) l 0 .nil) none) none from rfl]
    simp only [ob_eq, map_bind', ib_eq, map_chk, lenK_eq, callE]
    cases hf : fn f with
    | none => rfl
    | some F =>
      show Option.bind F.body _ = Option.bind F.body _
      cases hb : F.body with
      | none => rfl
      | some code =>
        show chk _ (chk _ _) = chk _ (chk _ _)
        congr 2
        have hc := hr f F code hf hb
        have := enterK_eq (F := absP) (k := fun T => (codeK ty held (callK ty held fn steps d) F.ntmps steps code T s).bind fun r => leaveK ty F r)
          (k' := fun T => (codeE ty held (callE ty held fn steps d) F.ntmps steps code T (absS s)).bind fun r => chk (not (isExit r.e)) ((resE ty r.T r.s F.results.toList).bind fun l => some (packR l, r.s))) (fun T => by
            show Option.map absP (Option.bind _ _) = Option.bind _ _
            rw [map_bind', ← codeK_eq ih steps code T s hc, bind_map']
            congr 1; funext r
            obtain ⟨e, T1, s1⟩ := r
            show (ib (isExit e) none (ob (resK ty T1 s1 F.results.toList) fun l => some (packR l, s1))).map absP = _
            rw [ib_not, map_chk, ob_eq, map_bind', resK_eq]
            rfl) l 0 .nil
        rw [get_nil] at this
        exact this
end
end
end Go.Proofs.YtibgakbkdonjcaaGreatDoor.Ev
