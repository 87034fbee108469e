import Derived.Test.YtodmelapdoahpaaGreatDoorEvA
set_option linter.all false
namespace Go.Ev
noncomputable section

inductive AX where
  | normal
  | exit (id : Nat)
  | goto (l : Nat)
  | ret
  | panic (c : List (AV × Bool))

abbrev Loc := List (Nat × AV)
abbrev Dfr := List (FuncId × List AV)
structure St where
  reg : T AV
  loc : Loc
  hp : Heap
  dfr : Dfr
structure Cx where
  keep : Nat
  nt : Nat

inductive CX where
  | ret (v : AV)
  | pan (c : List (AV × Bool))

abbrev RS := Res (AX × St)
abbrev RC := Res (CX × Heap)
abbrev CallF := FuncId → List AV → Heap → RC
abbrev Orc := FuncId → List AV → Heap → Option (AV × Heap)
def noO : Orc := fun _ _ _ => none
abbrev CodeF := Cx → Code → St → RS
abbrev K := T AV → Loc → Heap → Dfr → RS

def lget (t : Nat) (l : Loc) : Option AV := lrec none (fun x _ ih => bcase (Nat.beq x.1 t) (some x.2) ih) l
def bit (i m : Nat) : Bool := Nat.beq (Nat.land (Nat.shiftRight m i) (nat_lit 1)) (nat_lit 1)

def look (t : Nat) (reg : T AV) (loc : Loc) : Option AV := ocase (lget t loc) (T.get (digs t) reg) some
def someI (v : Option AV) : Option AV := ocase v none some
def evO (x : Operand) : T AV → Loc → Option AV :=
  @Operand.rec (fun _ => T AV → Loc → Option AV)
    (fun t =>  look t)
    (fun v =>  fun _ _ => someI (abs v))
    (fun g =>  fun _ _ => some (.ptr g (nat_lit 0)))
    (fun f =>  fun _ _ => some (.func (.func f) [] []))
    x
def ev (reg : T AV) (loc : Loc) (x : Operand) : Option AV := evO x reg loc

def canPut (d : Nat) (cx : Cx) : Bool := Nat.ble (Nat.add d (nat_lit 1)) cx.nt
def putD (d : Nat) (cx : Cx) (v : AV) (k : K) (reg : T AV) (loc : Loc) (h : Heap) (dfr : Dfr) : RS :=
  bcase (canPut d cx) (bcase (bit d cx.keep) (k (T.set (digs d) reg (some v)) loc h dfr) (k reg ((d, v) :: loc) h dfr)) (.fail 200)
def putK (dst : Option Tmp) (cx : Cx) (v : AV) (k : K) (reg : T AV) (loc : Loc) (h : Heap) (dfr : Dfr) : RS :=
  ocase dst (k reg loc h dfr) fun d => putD d cx v k reg loc h dfr

def undefA : AV := .tuple []

def boolW (want : Bool) (v : AV) : Bool := ocase (asBool v) false fun b => bcase want b (bcase b false true)
def wantG (g : Nat × Bool) (ops : List Oper) (reg : T AV) (loc : Loc) : Option Bool :=
  ocase (ops[g.1]?) (some false) fun o => ocase o.dst (some false) fun d => ocase (look d reg loc) none fun v => some (boolW g.2 v)

def contC (dst : Option Tmp) (cx : Cx) (reg : T AV) (loc : Loc) (dfr : Dfr) (k : K) (r : CX × Heap) : RS :=
  @CX.rec (fun _ => RS)
    (fun v =>  putK dst cx v k reg loc r.2 dfr)
    (fun c =>  .fin (.panic c, ⟨reg, loc, r.2, dfr⟩))
    r.1
def contN (dst : Option Tmp) (cx : Cx) (reg : T AV) (loc : Loc) (dfr : Dfr) (k : K) (r : Option (AV × Heap)) : RS :=
  ocase r (.fail 201) fun r => putK dst cx r.1 k reg loc r.2 dfr
def contR (r : OpR) : Option Tmp → Cx → CallF → T AV → Loc → Dfr → K → RS :=
  @OpR.rec (fun _ => Option Tmp → Cx → CallF → T AV → Loc → Dfr → K → RS)
    (fun w =>  fun _ _ _ _ _ _ _ => .fail w)
    (fun v h =>  fun dst cx _ reg loc dfr k => putK dst cx v k reg loc h dfr)
    (fun h =>  fun dst cx _ reg loc dfr k => putK dst cx undefA k reg loc h dfr)
    (fun f args h =>  fun dst cx call reg loc dfr k => (call f args h).bind (contC dst cx reg loc dfr k))
    (fun v h =>  fun _ _ _ reg loc dfr _ => .fin (.panic [(v, false)], ⟨reg, loc, h, dfr⟩))
    (fun f args h =>  fun dst cx _ reg loc dfr k => putK dst cx undefA k reg loc h ((f, args) :: dfr))
    (fun n c =>  fun dst cx _ reg loc dfr k => .ch n fun i => contN dst cx reg loc dfr k (c i))
    ( fun _ _ _ _ _ _ _ => .fail 202)
    r

section
variable (P : Program) (hint : FuncId → Nat)

def oneG (o : Oper) (cx : Cx) (call : CallF) (reg : T AV) (loc : Loc) (h : Heap) (dfr : Dfr) (k : K) (b : Bool) : RS :=
  bcase b (contR (opF o.op P (ev reg loc) h) o.dst cx call reg loc dfr k) (putK o.dst cx undefA k reg loc h dfr)
def opsA (ops : List Oper) (l : List Oper) : Cx → CallF → K :=
  lrec (fun _ _ reg loc h dfr => .fin (.normal, ⟨reg, loc, h, dfr⟩)) (fun o _ ih cx call reg loc h dfr =>
    ocase o.guard (contR (opF o.op P (ev reg loc) h) o.dst cx call reg loc dfr (ih cx call)) fun g =>
      ocase (wantG g ops reg loc) (.fail 203) (oneG P o cx call reg loc h dfr (ih cx call))) l

def nthN (l : List Nat) (i : Nat) : Nat := l[i]?.getD 0
def befE (es : List Edge) (ms : List Nat) : Nat :=
  lrec 0 (fun e _ ih => bif Region.binds .any e then Nat.lor (Nat.lor (Nat.shiftLeft 1 e.on) (nthN ms e.on)) ih else ih) es
def befL (l : List Oper) : List Nat → List Nat := lrec (fun ms => ms) (fun o _ ih ms => ih (ms ++ [befE o.after.toList ms])) l

def isWb (b : Builtin) : Bool := match b with | .len => false | .cap => false | .min => false | .max => false | .unsafeSliceData => false | _ => true
def isWc (c : Callee) : Bool := match c with | .builtin b => isWb b | _ => true
def isWop (o : Op) : Bool :=
  @Op.rec (fun _ => Bool)
    (fun _ =>  false)
    (fun _ =>  false)
    (fun _ _ _ =>  false)
    (fun _ =>  false)
    (fun _ _ =>  false)
    (fun _ _ =>  false)
    (fun _ _ _ =>  false)
    (fun _ _ _ _ =>  true)
    (fun _ _ =>  false)
    (fun _ _ _ =>  true)
    (fun _ =>  false)
    (fun _ =>  false)
    (fun _ =>  false)
    (fun _ _ _ _ _ =>  false)
    (fun _ _ _ =>  false)
    (fun _ _ _ =>  false)
    (fun _ _ =>  false)
    (fun _ _ =>  false)
    (fun _ _ _ =>  false)
    (fun _ _ =>  false)
    (fun _ _ =>  false)
    (fun _ _ _ =>  false)
    (fun _ _ _ _ _ =>  false)
    (fun _ _ _ =>  false)
    (fun _ _ _ =>  false)
    (fun _ _ _ =>  false)
    (fun _ _ _ =>  false)
    (fun _ _ _ _ =>  false)
    (fun _ _ _ _ =>  true)
    (fun _ _ _ =>  true)
    (fun _ _ _ _ =>  true)
    (fun _ _ =>  true)
    (fun _ _ =>  true)
    (fun _ =>  false)
    (fun _ _ _ _ =>  false)
    (fun _ _ =>  false)
    (fun c =>  isWc c.callee)
    (fun _ =>  false)
    (fun _ =>  true)
    (fun _ =>  true)
    (fun _ _ =>  false)
    (fun _ _ _ =>  false)
    (fun _ _ =>  false)
    o
def isAop (o : Op) : Bool :=
  @Op.rec (fun _ => Bool)
    (fun _ =>  false)
    (fun _ =>  false)
    (fun _ _ _ =>  false)
    (fun _ =>  true)
    (fun _ _ =>  true)
    (fun _ _ =>  false)
    (fun _ _ _ =>  true)
    (fun _ _ _ _ =>  false)
    (fun _ _ =>  false)
    (fun _ _ _ =>  false)
    (fun _ =>  false)
    (fun _ =>  false)
    (fun _ =>  false)
    (fun _ _ _ _ _ =>  false)
    (fun _ _ _ =>  false)
    (fun s d _ =>  isConvA P s d)
    (fun _ _ =>  false)
    (fun _ _ =>  false)
    (fun _ _ _ =>  false)
    (fun _ _ =>  true)
    (fun _ _ =>  false)
    (fun _ _ _ =>  true)
    (fun _ _ _ _ _ =>  false)
    (fun _ _ _ =>  false)
    (fun _ _ _ =>  false)
    (fun _ _ _ =>  false)
    (fun _ _ _ =>  false)
    (fun _ _ _ _ =>  false)
    (fun _ _ _ _ =>  false)
    (fun _ _ _ =>  false)
    (fun _ _ _ _ =>  false)
    (fun _ _ =>  false)
    (fun _ _ =>  false)
    (fun _ =>  false)
    (fun _ _ _ _ =>  false)
    (fun _ _ =>  false)
    (fun _ =>  false)
    (fun _ =>  false)
    (fun _ =>  false)
    (fun _ =>  false)
    (fun _ _ =>  false)
    (fun _ _ _ =>  false)
    (fun _ _ =>  false)
    o

def opnd (x : Operand) : List Tmp := match x with | .tmp t => [t] | _ => []
def names (ops : List Oper) (o : Oper) : List Tmp :=
  o.op.operands.toList.flatMap opnd ++ (match o.guard with | some (g, _) => (match ops[g]? with | some og => og.dst.toList | none => []) | none => [])
def apartD (d : Option Tmp) (ns : List Tmp) : Bool := ocase d true fun d => bcase (memN d ns) false true
def unlike (d e : Option Tmp) : Bool := ocase d true fun d => ocase e true fun e => bcase (Nat.beq d e) false true
def apartA (ops : List Oper) (x y : Oper) : Bool := bcase (apartD x.dst (names ops y)) (bcase (apartD y.dst (names ops x)) (unlike x.dst y.dst) false) false
def isRop (o : Op) : Bool := bcase (isWop o) false (bcase (isAop P o) false true)

structure PL where
  o : Oper
  i : Nat
  m : Nat
  k : Nat
def isAct (p : PL) : Bool := Nat.beq p.k 3
def kind0 (o : Op) : Nat := bcase (isWop o) 3 (bcase (isAop P o) 2 0)
def rawL (l : List Oper) : List Nat → Nat → List PL :=
  lrec (fun _ _ => []) (fun o _ ih ms i => lcase ms [] fun m ms => ⟨o, i, m, kind0 P o.op⟩ :: ih ms (Nat.add i 1)) l
def cmpble (x y : PL) : Bool := bcase (bit x.i y.m) true (bit y.i x.m)
def promote (l : List PL) : List PL → List PL :=
  lrec (fun _ => []) (fun p _ ih acc => bcase (Nat.beq p.k 2) (bcase (acc.all (cmpble p)) (⟨p.o, p.i, p.m, 3⟩ :: ih (p :: acc)) (p :: ih acc)) (p :: ih acc)) l
def settle1 (acts : List PL) (p : PL) : PL := bcase (Nat.beq p.k 0) (bcase (acts.all (cmpble p)) p ⟨p.o, p.i, p.m, 1⟩) p
def actMask (l : List PL) : Nat := lrec 0 (fun p _ ih => bcase (isAct p) (Nat.lor ih (Nat.shiftLeft 1 p.i)) ih) l
def isEarly (w done : Nat) (p : PL) : Bool := bcase (isAct p) false (Nat.beq (Nat.land p.m w) (Nat.land (Nat.land p.m w) done))
def goE (w : Nat) (f : Nat) : List PL → Nat → List PL :=
  nrec (fun l _ => l) (fun _ ih l done => l.filter (isEarly w done) ++ lcase (l.filter fun p => !(isEarly w done p)) [] fun p r => p :: ih r (Nat.lor done (Nat.shiftLeft 1 p.i))) f
def planS (s : List PL) : List PL := goE (actMask s) s.length s 0
def planQ (q : List PL) : List PL := planS (q.map (settle1 (q.filter isAct)))
def planR (r : List PL) : List PL := planQ (promote r (r.filter isAct))
def planOf (ops : List Oper) : List PL := planR (rawL P ops (befL ops []) 0)

def kindOk (p : PL) : Bool :=
  bcase (Nat.beq p.k 3) (bcase (isWop p.o.op) true (isAop P p.o.op)) (bcase (Nat.beq p.k 2) (isAop P p.o.op) (bcase (Nat.ble p.k 1) (isRop P p.o.op) false))
def pairOk (ops : List Oper) (x y : PL) : Bool :=
  !(Nat.beq x.i y.i) && (!(isAct x) || bit x.i y.m) && !(bit y.i x.m) && (bit x.i y.m || apartA ops x.o y.o) && unlike x.o.dst y.o.dst && (!(Nat.beq x.k 0 && isAct y) || bit x.i y.m)
def pairsOk (ops : List Oper) (l : List PL) : Bool := lrec true (fun x r ih => r.all (pairOk ops x) && ih) l
def edgesDown (l : List Oper) : Nat → Bool :=
  lrec (fun _ => true) (fun o _ ih i => bif o.after.toList.all (fun e => !(Region.binds .any e) || Nat.ble (Nat.add e.on 1) i) then ih (Nat.add i 1) else false) l
def hasAll (n : Nat) (l : List PL) : Bool := (List.range n).all fun i => l.any fun p => Nat.beq p.i i
def planOk (ops : List Oper) : Bool := edgesDown ops 0 && (pairsOk ops (planOf P ops) && ((planOf P ops).all (kindOk P) && hasAll ops.length (planOf P ops)))

def opndOk (n : Nat) (x : Operand) : Bool := match x with | .global g => Nat.ble (Nat.add g 1) n | _ => true
def operOk (n : Nat) (o : Oper) : Bool := o.op.operands.toList.all (opndOk n)
def codeOk (n : Nat) : Code → Bool
  | .region _ ops draw => ops.toList.all (operOk n) && (!draw || planOk P ops.toList)
  | .seq a b => codeOk n a && codeOk n b
  | .cond x a b => opndOk n x && (codeOk n a && codeOk n b)
  | .block _ b => codeOk n b
  | .loop b => codeOk n b
  | .rangeFunc _ _ a b => codeOk n a && codeOk n b
  | .scope b => codeOk n b
  | _ => true

mutual
def AV.beq : AV → AV → Bool
  | .int k m, .int k' m' => kbeq k k' && Nat.beq m m'
  | .bool a, .bool b => a == b
  | .str n a, .str m b => Nat.beq n m && Nat.beq a b
  | .ptr a b, .ptr c d => Nat.beq a c && Nat.beq b d
  | .nilp, .nilp => true
  | .slice a b c d, .slice a' b' c' d' => Nat.beq a a' && Nat.beq b b' && Nat.beq c c' && Nat.beq d d'
  | .gslice a b c d, .gslice a' b' c' d' => Nat.beq a a' && Nat.beq b b' && Nat.beq c c' && Nat.beq d d'
  | .eslice, .eslice => true
  | .nilslice, .nilslice => true
  | .map a, .map b => Nat.beq a b
  | .nilmap, .nilmap => true
  | .nilfunc, .nilfunc => true
  | .niliface, .niliface => true
  | .agg a, .agg b => AV.beqL a b
  | .tuple a, .tuple b => AV.beqL a b
  | .iface t a, .iface u b => Nat.beq t u && AV.beq a b
  | .func f a b, .func g c d => decide (f = g) && AV.beqL a c && AV.beqL b d
  | .oslice a, .oslice b => Nat.beq a b
  | .imod a b, .imod c d => Nat.beq a c && Nat.beq b d
  | .optr a, .optr b => Nat.beq a b
  | .sint k c ts, .sint k' c' ts' => kbeq k k' && (Nat.beq c c' && beqT ts ts')
  | .sstr l, .sstr m => AV.beqL l m
  | .sneg k c ts, .sneg k' c' ts' => kbeq k k' && (Nat.beq c c' && beqT ts ts')
  | _, _ => false
def AV.beqL : List AV → List AV → Bool
  | [], [] => true
  | a :: l, b :: m => AV.beq a b && AV.beqL l m
  | _, _ => false
end

def valOf (r : OpR) : Option AV :=
  @OpR.rec (fun _ => Option AV)
    (fun _ =>  none)
    (fun v _ =>  some v)
    (fun _ =>  none)
    (fun _ _ _ =>  none)
    (fun _ _ =>  none)
    (fun _ _ _ =>  none)
    (fun _ _ =>  none)
    ( none)
    r
def readA (reg : T AV) (loc : Loc) (h : Heap) (o : Oper) : Option AV := valOf (opF o.op P (ev reg loc) h)

structure Rd where
  i : Nat
  o : Oper
  reg : T AV
  loc : Loc
  v : AV
abbrev Pend := List (Nat × Nat × ABlk)
structure DS where
  pend : Pend
  reads : List Rd

def isV (v : AV) (u : Option AV) : Bool := ocase u false fun u => AV.beq u v
def incorp (m : Nat) (l : Pend) (h : Heap) : Pend × Heap :=
  lrec ([], h) (fun x _ ih => bcase (bit x.1 m) (ih.1, ih.2.set x.2.1 (some x.2.2)) (x :: ih.1, ih.2)) l
def recheck (m : Nat) (h : Heap) (l : List Rd) : Bool :=
  lrec true (fun r _ ih => bcase (bit r.i m) ih (bcase (isV r.v (readA P r.reg r.loc h r.o)) ih false)) l

abbrev DK := DS → K
def actV (dst : Option Tmp) (v : AV) (m : Nat) (cx : Cx) (pend : Pend) (reads : List Rd) (k : DK) (reg : T AV) (loc : Loc) (h : Heap) (dfr : Dfr) : RS :=
  bcase (recheck P m h reads) (putK dst cx v (k ⟨pend, reads⟩) reg loc h dfr) (.fail 211)
def actP (c : List (AV × Bool)) (h : Heap) (dfr : Dfr) : RS := lcase dfr (.fin (.panic c, ⟨.e, [], h, []⟩)) fun _ _ => .fail 221
def actC (dst : Option Tmp) (m : Nat) (cx : Cx) (pend : Pend) (reads : List Rd) (k : DK) (reg : T AV) (loc : Loc) (dfr : Dfr) (r : CX × Heap) : RS :=
  @CX.rec (fun _ => RS)
    (fun v =>  actV P dst v m cx pend reads k reg loc r.2 dfr)
    (fun c =>  actP c r.2 dfr)
    r.1
def actN (dst : Option Tmp) (m : Nat) (cx : Cx) (pend : Pend) (reads : List Rd) (k : DK) (reg : T AV) (loc : Loc) (dfr : Dfr) (r : Option (AV × Heap)) : RS :=
  ocase r (.fail 213) fun r => actV P dst r.1 m cx pend reads k reg loc r.2 dfr
def actR (r : OpR) : Program → Option Tmp → Nat → Cx → CallF → Pend → List Rd → DK → T AV → Loc → Dfr → RS :=
  @OpR.rec (fun _ => Program → Option Tmp → Nat → Cx → CallF → Pend → List Rd → DK → T AV → Loc → Dfr → RS)
    (fun w =>  fun _ _ _ _ _ _ _ _ _ _ _ => .fail w)
    (fun v h =>  fun P dst m cx _ pend reads k reg loc dfr => actV P dst v m cx pend reads k reg loc h dfr)
    (fun h =>  fun P dst m cx _ pend reads k reg loc dfr => actV P dst undefA m cx pend reads k reg loc h dfr)
    (fun f args h =>  fun P dst m cx call pend reads k reg loc dfr => (call f args h).bind (actC P dst m cx pend reads k reg loc dfr))
    (fun v h =>  fun _ _ _ _ _ _ _ _ _ _ dfr => actP [(v, false)] h dfr)
    (fun f args h =>  fun P dst m cx _ pend reads k reg loc dfr => actV P dst undefA m cx pend reads k reg loc h ((f, args) :: dfr))
    (fun n c =>  fun P dst m cx _ pend reads k reg loc dfr => .ch n fun i => actN P dst m cx pend reads k reg loc dfr (c i))
    ( fun _ _ _ _ _ _ _ _ _ _ _ => .fail 214)
    r
def drawAct (p : PL) (cx : Cx) (call : CallF) (reads : List Rd) (k : DK) (reg : T AV) (loc : Loc) (dfr : Dfr) (x : Pend × Heap) : RS :=
  actR (opF p.o.op P (ev reg loc) x.2) P p.o.dst p.m cx call x.1 reads k reg loc dfr
def drawNewB (b : ABlk) (i id : Nat) (dst : Option Tmp) (v : AV) (cx : Cx) (d : DS) (k : DK) (reg : T AV) (loc : Loc) (h : Heap) (dfr : Dfr) : RS :=
  putK dst cx v (k ⟨(i, id, b) :: d.pend, d.reads⟩) reg loc ⟨Nat.add id (nat_lit 1), h.bl⟩ dfr
def drawNew (r : OpR) (i : Nat) (dst : Option Tmp) (cx : Cx) (d : DS) (k : DK) (reg : T AV) (loc : Loc) (h : Heap) (dfr : Dfr) : RS :=
  @OpR.rec (fun _ => RS)
    (fun _ =>  .fail 215)
    (fun v h' =>  ocase (h'.get h.next) (.fail 215) fun b => drawNewB b i h.next dst v cx d k reg loc h dfr)
    (fun _ =>  .fail 215)
    (fun _ _ _ =>  .fail 215)
    (fun _ _ =>  .fail 215)
    (fun _ _ _ =>  .fail 215)
    (fun _ _ =>  .fail 215)
    ( .fail 215)
    r
def addRead (again : Bool) (p : PL) (reg : T AV) (loc : Loc) (v : AV) (l : List Rd) : List Rd := bcase again (⟨p.i, p.o, reg, loc, v⟩ :: l) l
def drawRd (v : Option AV) (again : Bool) (p : PL) (cx : Cx) (d : DS) (k : DK) (reg : T AV) (loc : Loc) (h : Heap) (dfr : Dfr) : RS :=
  ocase v (.fail 217) fun v => putK p.o.dst cx v (k ⟨d.pend, addRead again p reg loc v d.reads⟩) reg loc h dfr
def drawK (p : PL) (cx : Cx) (call : CallF) (d : DS) (k : DK) (reg : T AV) (loc : Loc) (h : Heap) (dfr : Dfr) : RS :=
  bcase (isAct p) (drawAct P p cx call d.reads k reg loc dfr (incorp p.m d.pend h))
  (bcase (Nat.beq p.k 2) (drawNew (opF p.o.op P (ev reg loc) h) p.i p.o.dst cx d k reg loc h dfr)
  (drawRd (readA P reg loc h p.o) (Nat.beq p.k 1) p cx d k reg loc h dfr))
def wantO (o : Oper) (ops : List Oper) (reg : T AV) (loc : Loc) : Option Bool := ocase o.guard (some true) fun g => wantG g ops reg loc
def drawP (p : PL) (ops : List Oper) (cx : Cx) (call : CallF) (d : DS) (k : DK) (reg : T AV) (loc : Loc) (h : Heap) (dfr : Dfr) : RS :=
  ocase (wantO p.o ops reg loc) (.fail 218) fun b => bcase b (drawK P p cx call d k reg loc h dfr) (putK p.o.dst cx undefA (k d) reg loc h dfr)
def incorpAll (l : Pend) (h : Heap) : Heap := lrec h (fun x _ ih => ih.set x.2.1 (some x.2.2)) l
def drawEnd (d : DS) : K := fun reg loc h dfr => .fin (.normal, ⟨reg, loc, incorpAll d.pend h, dfr⟩)
def drawOps (ops : List Oper) (l : List PL) : Cx → CallF → DK :=
  lrec (fun _ _ d => drawEnd d) (fun p _ ih cx call d => fun reg loc h dfr => drawP P p ops cx call d (ih cx call) reg loc h dfr) l
def drawA (ops : List Oper) (cx : Cx) (call : CallF) : K := drawOps P ops (planOf P ops) cx call ⟨[], []⟩

def seqK (b : Code) (cx : Cx) (self : CodeF) (r : AX × St) : RS :=
  @AX.rec (fun _ => RS)
    ( self cx b r.2)
    (fun _ =>  .fin r)
    (fun _ =>  .fin r)
    ( .fin r)
    (fun _ =>  .fin r)
    r.1
def blockK (id : Nat) (r : AX × St) : RS :=
  @AX.rec (fun _ => RS)
    ( .fin r)
    (fun j =>  bcase (Nat.beq j id) (.fin (.normal, r.2)) (.fin r))
    (fun _ =>  .fin r)
    ( .fin r)
    (fun _ =>  .fin r)
    r.1
def condK (v : Option AV) (a b : Code) (cx : Cx) (self : CodeF) (s : St) : RS :=
  ocase v (.fail 230) fun v => ocase (asBool v) (.fail 230) fun t => bcase t (self cx a s) (self cx b s)
def regionA (draw : Bool) (ops : List Oper) (cx : Cx) (call : CallF) : K := bcase draw (drawA P ops cx call) (opsA P ops ops cx call)
def step (c : Code) : Program → Cx → CodeF → CallF → St → RS :=
  @Code.rec (fun _ => Program → Cx → CodeF → CallF → St → RS)
    ( fun _ _ _ _ s => .fin (.normal, s))
    (fun _ ops draw =>  fun P cx _ call s => regionA P draw ops.toList cx call s.reg [] s.hp s.dfr)
    (fun a b _ _ =>  fun _ cx self _ s => (self cx a s).bind (seqK b cx self))
    (fun x a b _ _ =>  fun _ cx self _ s => condK (evO x s.reg s.loc) a b cx self s)
    (fun id b _ =>  fun _ cx self _ s => (self cx b s).bind (blockK id))
    (fun b _ =>  fun _ cx self _ s => (self cx b s).bind (seqK (.loop b) cx self))
    (fun _ _ _ _ _ _ =>  fun _ _ _ _ _ => .fail 231)
    (fun id =>  fun _ _ _ _ s => .fin (.exit id, s))
    (fun _ _ =>  fun _ _ _ _ _ => .fail 231)
    (fun _ =>  fun _ _ _ _ s => .fin (.normal, s))
    (fun l =>  fun _ _ _ _ s => .fin (.goto l, s))
    ( fun _ _ _ _ s => .fin (.ret, s))
    (fun _ =>  fun _ _ _ _ _ => .fail 231)
    c

def resOne (r : ResultVar) (s : St) : Option AV :=
  match r with
  | .tmp t => look t s.reg s.loc
  | .cell t ty => ocase (look t s.reg s.loc) none fun p => loadA P s.hp ty p
def resA (l : List ResultVar) (s : St) : Option (List AV) :=
  lrec (some []) (fun r _ ih => ocase (resOne P r s) none fun v => consO v ih) l
def oneOf (l : Option (List AV)) : Option AV := match l with | some [v] => some v | some l => some (.tuple l) | none => none
def resultsA (fn : Func) (s : St) : Option AV := oneOf (resA P fn.results.toList s)

def ones (n : Nat) : Nat := Nat.sub (Nat.shiftLeft 1 n) 1
def argsOk (n : Nat) (cx : Cx) : Bool := bcase (Nat.ble n cx.nt) (Nat.beq (Nat.land cx.keep (ones n)) (ones n)) false
def enterSt (cx : Cx) (args : List AV) (h : Heap) : Option St :=
  bcase (argsOk (lenL args) cx) (some ⟨setL args (nat_lit 0) .e, [], h, []⟩) none

inductive DM where
  | returning
  | panicking (c : List (AV × Bool))
abbrev RD := Res (AX × St × DM)
abbrev CodeD := Cx → Code → St → DM → RD
abbrev CallD := FuncId → List AV → Heap → DM → Res (DM × Heap)
abbrev KD := T AV → Loc → Heap → Dfr → DM → RD

def isRecover (o : Op) : Bool := match o with | .call c => (match c.callee with | .builtin .recover => true | _ => false) | _ => false
def recV (u : DM) : AV × DM := match u with | .panicking ((v, false) :: c) => (v, .panicking ((v, true) :: c)) | u => (.niliface, u)
def finS : K := fun reg loc h dfr => .fin (.normal, ⟨reg, loc, h, dfr⟩)
def afterD (u : DM) (k : KD) (r : AX × St) : RD :=
  @AX.rec (fun _ => RD)
    ( k r.2.reg r.2.loc r.2.hp r.2.dfr u)
    (fun _ =>  .fin (r.1, r.2, u))
    (fun _ =>  .fin (r.1, r.2, u))
    ( .fin (r.1, r.2, u))
    (fun _ =>  .fin (r.1, r.2, u))
    r.1
def oneD (w : Option Bool) (o : Oper) (cx : Cx) (call : CallF) (k : KD) (reg : T AV) (loc : Loc) (h : Heap) (dfr : Dfr) (u : DM) : RD :=
  ocase w (.fail 240) fun b => bcase b
      (bcase (isRecover o.op) ((putK o.dst cx (recV u).1 finS reg loc h dfr).bind (afterD (recV u).2 k))
        ((contR (opF o.op P (ev reg loc) h) o.dst cx call reg loc dfr finS).bind (afterD u k)))
    ((putK o.dst cx undefA finS reg loc h dfr).bind (afterD u k))
def opsD (ops : List Oper) (l : List Oper) : Cx → CallF → KD :=
  lrec (fun _ _ reg loc h dfr u => .fin (.normal, ⟨reg, loc, h, dfr⟩, u)) (fun o _ ih cx call reg loc h dfr u => oneD P (wantO o ops reg loc) o cx call (ih cx call) reg loc h dfr u) l

def seqKD (b : Code) (cx : Cx) (selfD : CodeD) (r : AX × St × DM) : RD :=
  @AX.rec (fun _ => RD)
    ( selfD cx b r.2.1 r.2.2)
    (fun _ =>  .fin r)
    (fun _ =>  .fin r)
    ( .fin r)
    (fun _ =>  .fin r)
    r.1
def blockKD (id : Nat) (r : AX × St × DM) : RD :=
  @AX.rec (fun _ => RD)
    ( .fin r)
    (fun j =>  bcase (Nat.beq j id) (.fin (.normal, r.2)) (.fin r))
    (fun _ =>  .fin r)
    ( .fin r)
    (fun _ =>  .fin r)
    r.1
def condKD (v : Option AV) (a b : Code) (cx : Cx) (selfD : CodeD) (s : St) (u : DM) : RD :=
  ocase v (.fail 250) fun v => ocase (asBool v) (.fail 250) fun t => bcase t (selfD cx a s u) (selfD cx b s u)
def liftD (u : DM) (r : AX × St) : RD := .fin (r.1, r.2, u)
def stepD (c : Code) : Program → Cx → CodeF → CodeD → CallF → St → DM → RD :=
  match c with
  | .seq a b => fun _ cx _ selfD _ s u => (selfD cx a s u).bind (seqKD b cx selfD)
  | .cond x a b => fun _ cx _ selfD _ s u => condKD (evO x s.reg s.loc) a b cx selfD s u
  | .block id b => fun _ cx _ selfD _ s u => (selfD cx b s u).bind (blockKD id)
  | .region _ ops false => fun P cx _ _ call s u => opsD P ops.toList ops.toList cx call s.reg [] s.hp s.dfr u
  | c => fun _ cx self _ _ s u => (self cx c s).bind (liftD u)

def settleA (u : DM) : DM := match u with | .panicking ((_, true) :: _) => .returning | u => u
def raisedA (u : DM) (c : List (AV × Bool)) : DM := match u with | .panicking old => .panicking (c ++ old) | .returning => .panicking c
def finC (v : Option AV) (h : Heap) : RC := ocase v (.fail 260) fun v => .fin (.ret v, h)
def atHp (s : St) (h : Heap) : St := ⟨s.reg, s.loc, h, s.dfr⟩
def leaveEnd (u : DM) (fn : Func) (s : St) (h : Heap) : RC := match u with | .returning => finC (resultsA P fn (atHp s h)) h | .panicking c => .fin (.pan c, h)
def leaveA (ds : Dfr) : CallD → Func → St → DM → Heap → RC :=
  lrec (fun _ fn s u h => leaveEnd P u fn s h) (fun d _ ih callD fn s u h => (callD d.1 d.2 h u).bind fun r => ih callD fn s r.1 r.2) ds
def bodyEnd (callD : CallD) (fn : Func) (r : AX × St) : RC :=
  @AX.rec (fun _ => RC)
    ( leaveA P r.2.dfr callD fn r.2 .returning r.2.hp)
    (fun _ =>  .fail 271)
    (fun _ =>  .fail 271)
    ( leaveA P r.2.dfr callD fn r.2 .returning r.2.hp)
    (fun c =>  leaveA P r.2.dfr callD fn r.2 (.panicking c) r.2.hp)
    r.1
def runBody (c : Option Code) (cx : Cx) (s : Option St) (self : CodeF) (k : AX × St → RC) : RC :=
  ocase c (.fail 273) fun c => ocase s (.fail 272) fun s => (self cx c s).bind k
def cxOf (f : FuncId) (fn : Func) : Cx := ⟨hint f, fn.ntmps⟩
def callBody (self : CodeF) (callD : CallD) (f : FuncId) (args : List AV) (h : Heap) : RC :=
  ocase (P.funcs[f]?) (.fail 270) fun fn => runBody fn.body (cxOf hint f fn) (enterSt (cxOf hint f fn) args h) self (bodyEnd P callD fn)

def okDm (v : Option AV) (u : DM) (h : Heap) : Res (DM × Heap) := match v with | some _ => .fin (settleA u, h) | none => .fail 281
def noDfr (l : Dfr) (r : Res (DM × Heap)) : Res (DM × Heap) := match l with | [] => r | _ => .fail 282
def bodyEndD (fn : Func) (r : AX × St × DM) : Res (DM × Heap) :=
  match r with
  | (.normal, s, u) => noDfr s.dfr (okDm (resultsA P fn s) u s.hp)
  | (.ret, s, u) => noDfr s.dfr (okDm (resultsA P fn s) u s.hp)
  | (.panic c, s, u) => noDfr s.dfr (.fin (raisedA u c, s.hp))
  | _ => .fail 285
def runBodyD (c : Option Code) (cx : Cx) (s : Option St) (selfD : CodeD) (u : DM) (k : AX × St × DM → Res (DM × Heap)) : Res (DM × Heap) :=
  ocase c (.fail 287) fun c => ocase s (.fail 286) fun s => (selfD cx c s u).bind k
def callDBody (selfD : CodeD) (f : FuncId) (args : List AV) (h : Heap) (u : DM) : Res (DM × Heap) :=
  ocase (P.funcs[f]?) (.fail 280) fun fn => runBodyD fn.body (cxOf hint f fn) (enterSt (cxOf hint f fn) args h) selfD u (bodyEndD P fn)

structure Fns where
  run : CodeF
  runD : CodeD
def callDF (g : Fns) : CallD := callDBody P hint g.runD
variable (orc : Orc)
def callOf (g : Fns) : CallF := fun f args h => ocase (orc f args h) (callBody P hint g.run (callDF P hint g) f args h) fun r => .fin (.ret r.1, r.2)
def failF : Fns := ⟨fun _ _ _ => .fail 0, fun _ _ _ _ => .fail 0⟩
def stepF (g : Fns) : Fns := ⟨fun cx c s => step c P cx g.run (callOf P hint orc g) s, fun cx c s u => stepD c P cx g.run g.runD (callOf P hint orc g) s u⟩
def fix (n : Nat) : Fns := nrec failF (fun _ g => stepF P hint orc g) n
def call (n : Nat) : CallF := callOf P hint orc (fix P hint orc n)
end
end
end Go.Ev

namespace Go.Ev
noncomputable section

inductive Ans where
  | ok
  | no
  | and (a b : Ans)
  deriving Inhabited

abbrev KE := Loc → Heap → Dfr → Ans
abbrev KV := AV → Heap → Dfr → Ans
abbrev KR := AV → Heap → Ans
abbrev KP := List (AV × Bool) → Heap → Ans
abbrev KPD := List (AV × Bool) → Heap → Dfr → Ans
abbrev CL := FuncId → List AV → Heap → KR → KP → Ans
abbrev KX := AX → KE

def frc (n : Nat) (k : Nat → Ans) : Ans := @Nat.rec (fun _ => TY Ans) (k (nat_lit 0)) (fun p _ => k p) (Nat.add n (nat_lit 1))
def OVH (r : Option (AV × Heap)) (k : AV → Heap → Ans) : Ans := ocase r .no fun r => @Prod.rec AV Heap (fun _ => Ans) (fun v h => k v h) r
def bb (b : Bool) (k : AV → Ans) : Ans := bcase b (k (.bool true)) (k (.bool false))
def allN (n : Nat) (f : Nat → Ans) : Ans := nrec .ok (fun i ih => .and (f i) ih) n
def JO {β : Type} (f : β) (g : β → Ans) : Ans := g f
def LP {β : Type} (fu : Nat) (z : β) (f : β → β) : β := nrec z (fun _ ih => f ih) fu

def SEL (c a b : AV) (k : AV → Ans) : Ans :=
  @AV.rec (fun _ => Ans) (fun _ => Unit)
    (fun _ _ =>  .no)
    (fun t =>  bcase t (k a) (k b))
    (fun _ _ =>  .no)
    (fun _ _ =>  .no)
    ( .no)
    (fun _ _ _ _ =>  .no)
    (fun _ _ _ _ =>  .no)
    ( .no)
    ( .no)
    (fun _ =>  .no)
    ( .no)
    (fun _ _ _ _ _ =>  .no)
    ( .no)
    (fun _ _ _ =>  .no)
    ( .no)
    (fun _ _ =>  .no)
    (fun _ _ =>  .no)
    (fun _ =>  .no)
    (fun _ _ =>  .no)
    (fun _ =>  .no)
    (fun _ _ _ =>  .no)
    (fun _ _ =>  .no)
    (fun _ _ _ =>  .no)
    ()
    (fun _ _ _ _ => ())
    c
def IFB (c : AV) (a b : Ans) : Ans :=
  @AV.rec (fun _ => Ans) (fun _ => Unit)
    (fun _ _ =>  .no)
    (fun t =>  bcase t a b)
    (fun _ _ =>  .no)
    (fun _ _ =>  .no)
    ( .no)
    (fun _ _ _ _ =>  .no)
    (fun _ _ _ _ =>  .no)
    ( .no)
    ( .no)
    (fun _ =>  .no)
    ( .no)
    (fun _ _ _ _ _ =>  .no)
    ( .no)
    (fun _ _ _ =>  .no)
    ( .no)
    (fun _ _ =>  .no)
    (fun _ _ =>  .no)
    (fun _ =>  .no)
    (fun _ _ =>  .no)
    (fun _ =>  .no)
    (fun _ _ _ =>  .no)
    (fun _ _ =>  .no)
    (fun _ _ _ =>  .no)
    ()
    (fun _ _ _ _ => ())
    c
def OV (r : Option AV) (k : AV → Ans) : Ans := ocase r .no k
def OSK (r : Option Heap) (k : Heap → Ans) : Ans := ocase r .no k
def OPV (r : OpR) (k : AV → Ans) : Ans :=
  @OpR.rec (fun _ => Ans)
    (fun _ =>  .no)
    (fun v _ =>  k v)
    (fun _ =>  .no)
    (fun _ _ _ =>  .no)
    (fun _ _ =>  .no)
    (fun _ _ _ =>  .no)
    (fun _ _ =>  .no)
    ( .no)
    r
def OPVH (r : OpR) (k : AV → Heap → Ans) : Ans :=
  @OpR.rec (fun _ => Ans)
    (fun _ =>  .no)
    (fun v h =>  k v h)
    (fun _ =>  .no)
    (fun _ _ _ =>  .no)
    (fun _ _ =>  .no)
    (fun _ _ _ =>  .no)
    (fun _ _ =>  .no)
    ( .no)
    r
def GEN (r : OpR) (cl : CL) (k : AV → Heap → Ans) (kp : KP) : Ans :=
  @OpR.rec (fun _ => Ans)
    (fun _ =>  .no)
    (fun v h =>  k v h)
    (fun h =>  k undefA h)
    (fun f args h =>  cl f args h k kp)
    (fun v h =>  kp [(v, false)] h)
    (fun _ _ _ =>  .no)
    (fun n c =>  allN n fun i => OVH (c i) k)
    ( .no)
    r
def GDF (r : OpR) (k : FuncId → List AV → Heap → Ans) : Ans :=
  @OpR.rec (fun _ => Ans)
    (fun _ =>  .no)
    (fun _ _ =>  .no)
    (fun _ =>  .no)
    (fun _ _ _ =>  .no)
    (fun _ _ =>  .no)
    (fun f args h =>  k f args h)
    (fun _ _ =>  .no)
    ( .no)
    r

def GETP {α : Type} (p : List Bool) : T α → (α → Ans) → Ans :=
  @List.rec Bool (fun _ => T α → (α → Ans) → Ans)
    (fun t k => @T.rec α (fun _ => Ans) .no (fun v _ _ _ _ => @Option.rec α (fun _ => Ans) .no k v) t)
    (fun b _ ih t k => @T.rec α (fun _ => Ans) .no (fun _ l r _ _ => @Bool.rec (fun _ => Ans) (ih r k) (ih l k) b) t) p
def SETP {α : Type} (p : List Bool) : T α → Option α → (T α → Ans) → Ans :=
  @List.rec Bool (fun _ => T α → Option α → (T α → Ans) → Ans)
    (fun t x k => @T.rec α (fun _ => Ans) (k (.n x .e .e)) (fun _ l r _ _ => k (.n x l r)) t)
    (fun b _ ih t x k => @T.rec α (fun _ => Ans) (@Bool.rec (fun _ => Ans) (ih .e x fun s => k (.n none .e s)) (ih .e x fun s => k (.n none s .e)) b)
      (fun v l r _ _ => @Bool.rec (fun _ => Ans) (ih r x fun s => k (.n v l s)) (ih l x fun s => k (.n v s r)) b) t) p
def onH (h : Heap) (k : Nat → T ABlk → Ans) : Ans := @Heap.rec (fun _ => Ans) (fun n bl => k n bl) h
def onC (x : ABlk) (k : T AV → Nat → TypeId → BK → Ans) : Ans := @ABlk.rec (fun _ => Ans) (fun c n t q => k c n t q) (fun _ _ => .no) (fun _ _ _ => .no) (fun _ _ _ _ => .no) (fun _ _ => .no) x
def HGET (h : Heap) (b : Nat) (k : ABlk → Ans) : Ans := onH h fun _ bl => GETP (digs b) bl k
def HSET (h : Heap) (b : Nat) (x : ABlk) (k : Heap → Ans) : Ans := onH h fun n bl => SETP (digs b) bl (some x) fun bl => k ⟨n, bl⟩
def HNEW (h : Heap) (x : ABlk) (k : Nat → Heap → Ans) : Ans := onH h fun n bl => frc (Nat.add n (nat_lit 1)) fun m => SETP (digs n) bl (some x) fun bl => k n ⟨m, bl⟩
def GETLs (n : Nat) (c : T AV) : Nat → (List AV → Ans) → Ans := nrec (fun _ k => k []) (fun _ ih off k => GETP (digs off) c fun v => frc (Nat.add off (nat_lit 1)) fun o => ih o fun l => k (v :: l)) n
def SETLs (l : List AV) : Nat → T AV → (T AV → Ans) → Ans := lrec (fun _ c k => k c) (fun v _ ih off c k => SETP (digs off) c (some v) fun c => frc (Nat.add off (nat_lit 1)) fun o => ih o c k) l
def LD (p : AV) (h : Heap) (k : AV → Ans) : Ans :=
  @AV.rec (fun _ => Ans) (fun _ => Unit)
    (fun _ _ =>  .no)
    (fun _ =>  .no)
    (fun _ _ =>  .no)
    (fun b off =>  HGET h b fun x => onC x fun c _ _ _ => GETP (digs off) c k)
    ( .no)
    (fun _ _ _ _ =>  .no)
    (fun _ _ _ _ =>  .no)
    ( .no)
    ( .no)
    (fun _ =>  .no)
    ( .no)
    (fun _ _ _ _ _ =>  .no)
    ( .no)
    (fun _ _ _ =>  .no)
    ( .no)
    (fun _ _ =>  .no)
    (fun _ _ =>  .no)
    (fun _ =>  .no)
    (fun _ _ =>  .no)
    (fun _ =>  .no)
    (fun _ _ _ =>  .no)
    (fun _ _ =>  .no)
    (fun _ _ _ =>  .no)
    ()
    (fun _ _ _ _ => ())
    p
def LDN (n : Nat) (p : AV) (h : Heap) (k : AV → Ans) : Ans :=
  @AV.rec (fun _ => Ans) (fun _ => Unit)
    (fun _ _ =>  .no)
    (fun _ =>  .no)
    (fun _ _ =>  .no)
    (fun b off =>  HGET h b fun x => onC x fun c _ _ _ => GETLs n c off fun l => k (.agg l))
    ( .no)
    (fun _ _ _ _ =>  .no)
    (fun _ _ _ _ =>  .no)
    ( .no)
    ( .no)
    (fun _ =>  .no)
    ( .no)
    (fun _ _ _ _ _ =>  .no)
    ( .no)
    (fun _ _ _ =>  .no)
    ( .no)
    (fun _ _ =>  .no)
    (fun _ _ =>  .no)
    (fun _ =>  .no)
    (fun _ _ =>  .no)
    (fun _ =>  .no)
    (fun _ _ _ =>  .no)
    (fun _ _ =>  .no)
    (fun _ _ _ =>  .no)
    ()
    (fun _ _ _ _ => ())
    p
def STV (s : Nat) (v : AV) (off : Nat) (c : T AV) (k : T AV → Ans) : Ans :=
  @AV.rec (fun _ => Ans) (fun _ => Unit)
    (fun _ _ =>  bcase (Nat.beq s (nat_lit 1)) (SETP (digs off) c (some v) k) .no)
    (fun _ =>  bcase (Nat.beq s (nat_lit 1)) (SETP (digs off) c (some v) k) .no)
    (fun _ _ =>  bcase (Nat.beq s (nat_lit 1)) (SETP (digs off) c (some v) k) .no)
    (fun _ _ =>  bcase (Nat.beq s (nat_lit 1)) (SETP (digs off) c (some v) k) .no)
    ( bcase (Nat.beq s (nat_lit 1)) (SETP (digs off) c (some v) k) .no)
    (fun _ _ _ _ =>  bcase (Nat.beq s (nat_lit 1)) (SETP (digs off) c (some v) k) .no)
    (fun _ _ _ _ =>  bcase (Nat.beq s (nat_lit 1)) (SETP (digs off) c (some v) k) .no)
    ( bcase (Nat.beq s (nat_lit 1)) (SETP (digs off) c (some v) k) .no)
    ( bcase (Nat.beq s (nat_lit 1)) (SETP (digs off) c (some v) k) .no)
    (fun _ =>  bcase (Nat.beq s (nat_lit 1)) (SETP (digs off) c (some v) k) .no)
    ( bcase (Nat.beq s (nat_lit 1)) (SETP (digs off) c (some v) k) .no)
    (fun _ _ _ _ _ =>  bcase (Nat.beq s (nat_lit 1)) (SETP (digs off) c (some v) k) .no)
    ( bcase (Nat.beq s (nat_lit 1)) (SETP (digs off) c (some v) k) .no)
    (fun _ _ _ =>  bcase (Nat.beq s (nat_lit 1)) (SETP (digs off) c (some v) k) .no)
    ( bcase (Nat.beq s (nat_lit 1)) (SETP (digs off) c (some v) k) .no)
    (fun l _ =>  bcase (bcase (Nat.beq (lenL l) s) (allOne l) false) (SETLs l off c k) .no)
    (fun _ _ =>  .no)
    (fun _ =>  bcase (Nat.beq s (nat_lit 1)) (SETP (digs off) c (some v) k) .no)
    (fun _ _ =>  bcase (Nat.beq s (nat_lit 1)) (SETP (digs off) c (some v) k) .no)
    (fun _ =>  bcase (Nat.beq s (nat_lit 1)) (SETP (digs off) c (some v) k) .no)
    (fun _ _ _ =>  bcase (Nat.beq s (nat_lit 1)) (SETP (digs off) c (some v) k) .no)
    (fun _ _ =>  bcase (Nat.beq s (nat_lit 1)) (SETP (digs off) c (some v) k) .no)
    (fun _ _ _ =>  bcase (Nat.beq s (nat_lit 1)) (SETP (digs off) c (some v) k) .no)
    ()
    (fun _ _ _ _ => ())
    v
def ST (s : Nat) (p v : AV) (h : Heap) (k : Heap → Ans) : Ans :=
  @AV.rec (fun _ => Ans) (fun _ => Unit)
    (fun _ _ =>  .no)
    (fun _ =>  .no)
    (fun _ _ =>  .no)
    (fun b off =>  HGET h b fun x => onC x fun c n t q => bcase q.ro? .no (bcase (Nat.ble (Nat.add off s) n) (STV s v off c fun c => HSET h b (.cells c n t q) k) .no))
    ( .no)
    (fun _ _ _ _ =>  .no)
    (fun _ _ _ _ =>  .no)
    ( .no)
    ( .no)
    (fun _ =>  .no)
    ( .no)
    (fun _ _ _ _ _ =>  .no)
    ( .no)
    (fun _ _ _ =>  .no)
    ( .no)
    (fun _ _ =>  .no)
    (fun _ _ =>  .no)
    (fun _ =>  .no)
    (fun _ _ =>  .no)
    (fun _ =>  .no)
    (fun _ _ _ =>  .no)
    (fun _ _ =>  .no)
    (fun _ _ _ =>  .no)
    ()
    (fun _ _ _ _ => ())
    p
def NEWC (c : T AV) (n : Nat) (t : TypeId) (h : Heap) (k : AV → Heap → Ans) : Ans := HNEW h (.cells c n t .ex) fun b h => k (.ptr b (nat_lit 0)) h
def BOX (t : TypeId) (v : AV) (h : Heap) (k : AV → Heap → Ans) : Ans := bcase (allOne v.cells) (frc (lenL v.cells) fun n => SETLs v.cells (nat_lit 0) .e fun c => NEWC c n t h k) .no
def BSL (e : TypeId) (s : Nat) (z : List AV) (len : Nat) (parts : List (Nat × AV)) (h : Heap) (k : AV → Heap → Ans) : Ans :=
  ocase (fillA (fun i => some (Nat.mul i s, s)) parts z) .no fun l => bcase (allOne l) (frc (lenL l) fun n => SETLs l (nat_lit 0) .e fun c => HNEW h (.cells c n e .ex) fun b h => k (.slice b (nat_lit 0) len len) h) .no
def NC (v : AV) (k : AV → Ans) : Ans :=
  @AV.rec (fun _ => Ans) (fun _ => Unit)
    (fun _ _ =>  k v)
    (fun _ =>  k v)
    (fun _ _ =>  k v)
    (fun _ _ =>  k v)
    ( .no)
    (fun _ _ _ _ =>  k v)
    (fun _ _ _ _ =>  k v)
    ( k v)
    ( k v)
    (fun _ =>  k v)
    ( k v)
    (fun fn _ _ _ _ =>  bcase (okFn fn) (k v) .no)
    ( .no)
    (fun _ _ _ =>  k v)
    ( .no)
    (fun _ _ =>  k v)
    (fun _ _ =>  k v)
    (fun _ =>  k v)
    (fun _ _ =>  k v)
    (fun _ =>  k v)
    (fun _ _ _ =>  k v)
    (fun _ _ =>  k v)
    (fun _ _ _ =>  k v)
    ()
    (fun _ _ _ _ => ())
    v
def II2 (b : AV) (e : Ans) (k : IntKind → Nat → Nat → Ans) (p : IntKind) (m : Nat) : Ans :=
  @AV.rec (fun _ => Ans) (fun _ => Unit)
    (fun q n =>  bcase (kbeq p q) (k p m n) .no)
    (fun _ =>  e)
    (fun _ _ =>  e)
    (fun _ _ =>  e)
    ( e)
    (fun _ _ _ _ =>  e)
    (fun _ _ _ _ =>  e)
    ( e)
    ( e)
    (fun _ =>  e)
    ( e)
    (fun _ _ _ _ _ =>  e)
    ( e)
    (fun _ _ _ =>  e)
    ( e)
    (fun _ _ =>  e)
    (fun _ _ =>  e)
    (fun _ =>  e)
    (fun _ _ =>  e)
    (fun _ =>  e)
    (fun _ _ _ =>  e)
    (fun _ _ =>  e)
    (fun _ _ _ =>  e)
    ()
    (fun _ _ _ _ => ())
    b
def II (a b : AV) (e : Ans) (k : IntKind → Nat → Nat → Ans) : Ans :=
  @AV.rec (fun _ => Ans) (fun _ => Unit)
    (fun p m =>  II2 b e k p m)
    (fun _ =>  e)
    (fun _ _ =>  e)
    (fun _ _ =>  e)
    ( e)
    (fun _ _ _ _ =>  e)
    (fun _ _ _ _ =>  e)
    ( e)
    ( e)
    (fun _ =>  e)
    ( e)
    (fun _ _ _ _ _ =>  e)
    ( e)
    (fun _ _ _ =>  e)
    ( e)
    (fun _ _ =>  e)
    (fun _ _ =>  e)
    (fun _ =>  e)
    (fun _ _ =>  e)
    (fun _ =>  e)
    (fun _ _ _ =>  e)
    (fun _ _ =>  e)
    (fun _ _ _ =>  e)
    ()
    (fun _ _ _ _ => ())
    a
def co (b : Bool) : Operand := bcase b (.const (.bool true)) (.tmp 0)
def isC2 (x y : Operand) : Bool := isConstO x || isConstO y
section
variable (P : Program)
def BOP (op : BinOp) (t : TypeId) (c : Bool) (a b : AV) (k : AV → Ans) : Ans := OV (binOpA P op t (co c) (.tmp 0) a b) k
def ADD (t : TypeId) (c : Bool) (a b : AV) (k : AV → Ans) : Ans := II a b (BOP P .add t c a b k) fun p m n => frc (nadd p m n) fun r => k (.int p r)
def SUB (t : TypeId) (c : Bool) (a b : AV) (k : AV → Ans) : Ans := II a b (BOP P .sub t c a b k) fun p m n => frc (nsub p m n) fun r => k (.int p r)
def EQL (t : TypeId) (c : Bool) (a b : AV) (k : AV → Ans) : Ans := II a b (BOP P .eql t c a b k) fun _ m n => bb (Nat.beq m n) k
def NEQ (t : TypeId) (c : Bool) (a b : AV) (k : AV → Ans) : Ans := II a b (BOP P .neq t c a b k) fun _ m n => bb (bcase (Nat.beq m n) false true) k
def LSS (t : TypeId) (c : Bool) (a b : AV) (k : AV → Ans) : Ans := II a b (BOP P .lss t c a b k) fun p m n => bb (nlt p m n) k
def LEQ (t : TypeId) (c : Bool) (a b : AV) (k : AV → Ans) : Ans := II a b (BOP P .leq t c a b k) fun p m n => bb (bcase (nlt p n m) false true) k
def GTR (t : TypeId) (c : Bool) (a b : AV) (k : AV → Ans) : Ans := II a b (BOP P .gtr t c a b k) fun p m n => bb (nlt p n m) k
def GEQ (t : TypeId) (c : Bool) (a b : AV) (k : AV → Ans) : Ans := II a b (BOP P .geq t c a b k) fun p m n => bb (bcase (nlt p m n) false true) k
def binC (op : BinOp) : TypeId → Bool → AV → AV → (AV → Ans) → Ans :=
  @BinOp.rec (fun _ => TypeId → Bool → AV → AV → (AV → Ans) → Ans)
    ( ADD P)
    ( SUB P)
    ( BOP P op)
    ( BOP P op)
    ( BOP P op)
    ( BOP P op)
    ( BOP P op)
    ( BOP P op)
    ( BOP P op)
    ( BOP P op)
    ( BOP P op)
    ( EQL P)
    ( NEQ P)
    ( LSS P)
    ( LEQ P)
    ( GTR P)
    ( GEQ P)
    op
end
def FA (o : Nat) (x : AV) (k : AV → Ans) : Ans :=
  @AV.rec (fun _ => Ans) (fun _ => Unit)
    (fun _ _ =>  .no)
    (fun _ =>  .no)
    (fun _ _ =>  .no)
    (fun b off =>  frc (Nat.add off o) fun q => k (.ptr b q))
    ( .no)
    (fun _ _ _ _ =>  .no)
    (fun _ _ _ _ =>  .no)
    ( .no)
    ( .no)
    (fun _ =>  .no)
    ( .no)
    (fun _ _ _ _ _ =>  .no)
    ( .no)
    (fun _ _ _ =>  .no)
    ( .no)
    (fun _ _ =>  .no)
    (fun _ _ =>  .no)
    (fun _ =>  .no)
    (fun _ _ =>  .no)
    (fun _ =>  .no)
    (fun _ _ _ =>  .no)
    (fun _ _ =>  .no)
    (fun _ _ _ =>  .no)
    ()
    (fun _ _ _ _ => ())
    x
def IX (i : AV) (k : Nat → Ans) : Ans :=
  @AV.rec (fun _ => Ans) (fun _ => Unit)
    (fun p m =>  bcase (isPos p m) (k m) .no)
    (fun _ =>  .no)
    (fun _ _ =>  .no)
    (fun _ _ =>  .no)
    ( .no)
    (fun _ _ _ _ =>  .no)
    (fun _ _ _ _ =>  .no)
    ( .no)
    ( .no)
    (fun _ =>  .no)
    ( .no)
    (fun _ _ _ _ _ =>  .no)
    ( .no)
    (fun _ _ _ =>  .no)
    ( .no)
    (fun _ _ =>  .no)
    (fun _ _ =>  .no)
    (fun _ =>  .no)
    (fun _ _ =>  .no)
    (fun _ =>  .no)
    (fun _ _ _ =>  .no)
    (fun _ _ =>  .no)
    (fun _ _ _ =>  .no)
    ()
    (fun _ _ _ _ => ())
    i
def SA1 (s b off n i : Nat) (k : AV → Ans) : Ans := bcase (nle1 i n) (frc (Nat.add off (Nat.mul i s)) fun q => k (.ptr b q)) .no
def SA (s : Nat) (x i : AV) (k : AV → Ans) : Ans :=
  @AV.rec (fun _ => Ans) (fun _ => Unit)
    (fun _ _ =>  .no)
    (fun _ =>  .no)
    (fun _ _ =>  .no)
    (fun _ _ =>  .no)
    ( .no)
    (fun b off n _ =>  IX i fun i => SA1 s b off n i k)
    (fun b off n _ =>  IX i fun i => SA1 s b off n i k)
    ( .no)
    ( .no)
    (fun _ =>  .no)
    ( .no)
    (fun _ _ _ _ _ =>  .no)
    ( .no)
    (fun _ _ _ =>  .no)
    ( .no)
    (fun _ _ =>  .no)
    (fun _ _ =>  .no)
    (fun _ =>  .no)
    (fun _ _ =>  .no)
    (fun _ =>  .no)
    (fun _ _ _ =>  .no)
    (fun _ _ =>  .no)
    (fun _ _ _ =>  .no)
    ()
    (fun _ _ _ _ => ())
    x
def RA (n s : Nat) (x i : AV) (k : AV → Ans) : Ans :=
  @AV.rec (fun _ => Ans) (fun _ => Unit)
    (fun _ _ =>  .no)
    (fun _ =>  .no)
    (fun _ _ =>  .no)
    (fun b off =>  IX i fun i => SA1 s b off n i k)
    ( .no)
    (fun _ _ _ _ =>  .no)
    (fun _ _ _ _ =>  .no)
    ( .no)
    ( .no)
    (fun _ =>  .no)
    ( .no)
    (fun _ _ _ _ _ =>  .no)
    ( .no)
    (fun _ _ _ =>  .no)
    ( .no)
    (fun _ _ =>  .no)
    (fun _ _ =>  .no)
    (fun _ =>  .no)
    (fun _ _ =>  .no)
    (fun _ =>  .no)
    (fun _ _ _ =>  .no)
    (fun _ _ =>  .no)
    (fun _ _ _ =>  .no)
    ()
    (fun _ _ _ _ => ())
    x
def NTH (n : Nat) : List AV → (AV → Ans) → Ans := nrec (fun l k => lcase l .no fun a _ => k a) (fun _ ih l k => lcase l .no fun _ l => ih l k) n
def SAT (x i : AV) (k : AV → Ans) : Ans :=
  @AV.rec (fun _ => Ans) (fun _ => Unit)
    (fun _ _ =>  .no)
    (fun _ =>  .no)
    (fun n b =>  IX i fun i => bcase (nle1 i n) (frc (sat b i) fun c => k (.int .u8 c)) .no)
    (fun _ _ =>  .no)
    ( .no)
    (fun _ _ _ _ =>  .no)
    (fun _ _ _ _ =>  .no)
    ( .no)
    ( .no)
    (fun _ =>  .no)
    ( .no)
    (fun _ _ _ _ _ =>  .no)
    ( .no)
    (fun _ _ _ =>  .no)
    ( .no)
    (fun _ _ =>  .no)
    (fun _ _ =>  .no)
    (fun _ =>  .no)
    (fun _ _ =>  .no)
    (fun _ =>  .no)
    (fun _ _ _ =>  .no)
    (fun l _ =>  IX i fun i => NTH i l k)
    (fun _ _ _ =>  .no)
    ()
    (fun _ _ _ _ => ())
    x
def EX (i : Nat) (v : AV) (k : AV → Ans) : Ans :=
  @AV.rec (fun _ => Ans) (fun _ => Unit)
    (fun _ _ =>  .no)
    (fun _ =>  .no)
    (fun _ _ =>  .no)
    (fun _ _ =>  .no)
    ( .no)
    (fun _ _ _ _ =>  .no)
    (fun _ _ _ _ =>  .no)
    ( .no)
    ( .no)
    (fun _ =>  .no)
    ( .no)
    (fun _ _ _ _ _ =>  .no)
    ( .no)
    (fun _ _ _ =>  .no)
    ( .no)
    (fun _ _ =>  .no)
    (fun l _ =>  NTH i l k)
    (fun _ =>  .no)
    (fun _ _ =>  .no)
    (fun _ =>  .no)
    (fun _ _ _ =>  .no)
    (fun _ _ =>  .no)
    (fun _ _ _ =>  .no)
    ()
    (fun _ _ _ _ => ())
    v
def LENS (x : AV) (k : AV → Ans) : Ans :=
  @AV.rec (fun _ => Ans) (fun _ => Unit)
    (fun _ _ =>  .no)
    (fun _ =>  .no)
    (fun _ _ =>  .no)
    (fun _ _ =>  .no)
    ( .no)
    (fun _ _ n _ =>  bcase (Nat.ble n (nat_lit 9223372036854775807)) (k (.int .i64 n)) .no)
    (fun _ _ n _ =>  bcase (Nat.ble n (nat_lit 9223372036854775807)) (k (.int .i64 n)) .no)
    ( k (.int .i64 (nat_lit 0)))
    ( k (.int .i64 (nat_lit 0)))
    (fun _ =>  .no)
    ( .no)
    (fun _ _ _ _ _ =>  .no)
    ( .no)
    (fun _ _ _ =>  .no)
    ( .no)
    (fun _ _ =>  .no)
    (fun _ _ =>  .no)
    (fun _ =>  .no)
    (fun _ _ =>  .no)
    (fun _ =>  .no)
    (fun _ _ _ =>  .no)
    (fun _ _ =>  .no)
    (fun _ _ _ =>  .no)
    ()
    (fun _ _ _ _ => ())
    x
def LENT (x : AV) (k : AV → Ans) : Ans :=
  @AV.rec (fun _ => Ans) (fun _ => Unit)
    (fun _ _ =>  .no)
    (fun _ =>  .no)
    (fun n _ =>  bcase (Nat.ble n (nat_lit 9223372036854775807)) (k (.int .i64 n)) .no)
    (fun _ _ =>  .no)
    ( .no)
    (fun _ _ _ _ =>  .no)
    (fun _ _ _ _ =>  .no)
    ( .no)
    ( .no)
    (fun _ =>  .no)
    ( .no)
    (fun _ _ _ _ _ =>  .no)
    ( .no)
    (fun _ _ _ =>  .no)
    ( .no)
    (fun _ _ =>  .no)
    (fun _ _ =>  .no)
    (fun _ =>  .no)
    (fun _ _ =>  .no)
    (fun _ =>  .no)
    (fun _ _ _ =>  .no)
    (fun l _ =>  frc (lenL l) fun n => bcase (Nat.ble n (nat_lit 9223372036854775807)) (k (.int .i64 n)) .no)
    (fun _ _ _ =>  .no)
    ()
    (fun _ _ _ _ => ())
    x

def ENDD (d : Dfr) (a b : Ans) : Ans := lcase d a fun _ _ => b
def TYH (β : Type) : Type := (fun _ => (fun _ => (fun _ => β) ENDD) GEN) opF
def xb {β : Type} (c : Bool) (x y : β) : β := @Bool.rec (fun _ => TYH β) y x c
def xo {α β : Type} (o : Option α) (n : β) (s : α → β) : β := @Option.rec α (fun _ => TYH β) n s o
def xl {α β : Type} (o : List α) (n : β) (s : α → List α → β) : β := @List.rec α (fun _ => TYH β) n (fun a l _ => s a l) o
def xr {α β : Type} (z : β) (f : α → List α → β → β) (l : List α) : β := @List.rec α (fun _ => TYH β) z f l
def xn {β : Type} (z : β) (f : Nat → β → β) (n : Nat) : β := @Nat.rec (fun _ => TYH β) z f n
def xf (n : Nat) (k : Nat → Ans) : Ans := @Nat.rec (fun _ => TYH Ans) (k (nat_lit 0)) (fun p _ => k p) (Nat.add n (nat_lit 1))
def evC (σ : Loc) (x : Operand) (k : AV → Ans) : Ans := xo (evO x .e σ) .no k
def evLC (σ : Loc) (l : List Operand) : (List AV → Ans) → Ans := xr (fun k => k []) (fun x _ ih k => evC σ x fun v => ih fun l => k (v :: l)) l
def evPC (σ : Loc) (l : List (Nat × Operand)) : (List (Nat × AV) → Ans) → Ans := xr (fun k => k []) (fun x _ ih k => evC σ x.2 fun v => ih fun l => k ((x.1, v) :: l)) l
def evOC (σ : Loc) (x : Option Operand) (k : Option AV → Ans) : Ans := xo x (k none) fun x => evC σ x fun v => k (some v)

section
variable (P : Program)
def isIf (t : TypeId) : Bool := match P.underlying t with | some (.interface _) => false | some _ => true | none => false
def LENC (t : TypeId) (h : Heap) (x : AV) (k : AV → Ans) : Ans := xb (isSliceT P t) (LENS x k) (xb (isStrT P t) (LENT x k) (OV (lenA P h t x) k))
def lenC (ts : List TypeId) (args : List AV) (h : Heap) (k : AV → Ans) : Ans := xl ts .no fun t _ => xl args .no fun x r => xl r (LENC P t h x k) fun _ _ => .no
def biC (b : Builtin) : List TypeId → List AV → Heap → (AV → Ans) → Ans :=
  @Builtin.rec (fun _ => List TypeId → List AV → Heap → (AV → Ans) → Ans)
    ( fun ts args h k => OPV (builtinF b P ts args h) k)
    ( fun ts args h k => OPV (builtinF b P ts args h) k)
    ( fun ts args h k => OPV (builtinF b P ts args h) k)
    ( fun ts args h k => OPV (builtinF b P ts args h) k)
    ( fun ts args h k => OPV (builtinF b P ts args h) k)
    ( fun ts args h k => OPV (builtinF b P ts args h) k)
    ( fun ts args h k => OPV (builtinF b P ts args h) k)
    ( fun ts args h k => OPV (builtinF b P ts args h) k)
    ( lenC P)
    ( fun ts args h k => OPV (builtinF b P ts args h) k)
    ( fun ts args h k => OPV (builtinF b P ts args h) k)
    ( fun ts args h k => OPV (builtinF b P ts args h) k)
    ( fun ts args h k => OPV (builtinF b P ts args h) k)
    ( fun ts args h k => OPV (builtinF b P ts args h) k)
    ( fun ts args h k => OPV (builtinF b P ts args h) k)
    ( fun ts args h k => OPV (builtinF b P ts args h) k)
    ( fun ts args h k => OPV (builtinF b P ts args h) k)
    ( fun ts args h k => OPV (builtinF b P ts args h) k)
    ( fun ts args h k => OPV (builtinF b P ts args h) k)
    ( fun ts args h k => OPV (builtinF b P ts args h) k)
    ( fun ts args h k => OPV (builtinF b P ts args h) k)
    ( fun ts args h k => OPV (builtinF b P ts args h) k)
    ( fun ts args h k => OPV (builtinF b P ts args h) k)
    ( fun ts args h k => OPV (builtinF b P ts args h) k)
    ( fun ts args h k => OPV (builtinF b P ts args h) k)
    ( fun ts args h k => OPV (builtinF b P ts args h) k)
    b
def rdCall (c : Callee) : List TypeId → List Operand → Loc → Heap → (AV → Ans) → Ans :=
  @Callee.rec (fun _ => List TypeId → List Operand → Loc → Heap → (AV → Ans) → Ans)
    (fun _ =>  fun _ _ _ _ _ => .no)
    (fun _ _ =>  fun _ _ _ _ _ => .no)
    (fun b =>  fun ts args σ h k => evLC σ args fun l => biC P b ts l h k)
    c
def rdC (o : Op) : Loc → Heap → (AV → Ans) → Ans :=
  @Op.rec (fun _ => Loc → Heap → (AV → Ans) → Ans)
    (fun x =>  fun σ _ k => evC σ x k)
    (fun x =>  fun σ _ k => evC σ x k)
    (fun c a b =>  fun σ _ k => evC σ c fun c => evC σ a fun a => evC σ b fun b => SEL c a b k)
    (fun _ =>  fun _ _ _ => .no)
    (fun _ _ =>  fun _ _ _ => .no)
    (fun t parts =>  fun σ _ k => evPC σ parts.toList fun l => OV (buildA P t l) k)
    (fun _ _ _ =>  fun _ _ _ => .no)
    (fun _ _ _ _ =>  fun _ _ _ => .no)
    (fun t a =>  fun σ h k => evC σ a fun p => xo (aggSz P t) .no fun s => xo s (LD p h k) fun n => LDN n p h k)
    (fun _ _ _ =>  fun _ _ _ => .no)
    (fun _ =>  fun _ _ _ => .no)
    (fun _ =>  fun _ _ _ => .no)
    (fun x =>  fun σ _ k => evC σ x fun v => NC v k)
    (fun op t x y _ =>  fun σ _ k => evC σ x fun a => evC σ y fun b => binC P op t (isC2 x y) a b k)
    (fun op _ x =>  fun σ _ k => evC σ x fun v => OV (unOpA op v) k)
    (fun s d x =>  fun σ h k => evC σ x fun v => xb (isConvA P s d) .no (OV (convV P h s d v) k))
    (fun _ _ =>  fun _ _ _ => .no)
    (fun t x =>  fun σ _ k => evC σ x fun v => xb (isIf P t) (k (.iface t v)) .no)
    (fun fn fs cs =>  fun σ _ k => evLC σ fs.toList fun a => evLC σ cs.toList fun b => k (.func fn a b))
    (fun _ _ =>  fun _ _ _ => .no)
    (fun _ _ =>  fun _ _ _ => .no)
    (fun _ _ _ =>  fun _ _ _ => .no)
    (fun t x lo hi mx =>  fun σ _ k => evC σ x fun v => evOC σ lo fun a => evOC σ hi fun b => evOC σ mx fun c => OV (sliceA P t v a b c) k)
    (fun t x f =>  fun σ _ k => evC σ x fun v => xo (fieldOff P t f) .no fun o => FA o v k)
    (fun t x f =>  fun σ _ k => evC σ x fun v => OV (fieldA P t v f) k)
    (fun t x i =>  fun σ _ k => evC σ x fun a => evC σ i fun b => xo (slSz P t) (xo (arrSz P t) .no fun q => RA q.1 q.2 a b k) fun s => SA s a b k)
    (fun t x i =>  fun σ _ k => evC σ x fun a => evC σ i fun b => xb (isStrT P t) (SAT a b k) (OV (indexA P t a b) k))
    (fun t x i ok =>  fun σ h k => evC σ x fun a => evC σ i fun b => OV (lookupA P h t a b ok) k)
    (fun _ _ _ _ =>  fun _ _ _ => .no)
    (fun _ _ _ =>  fun _ _ _ => .no)
    (fun _ _ _ _ =>  fun _ _ _ => .no)
    (fun _ _ =>  fun _ _ _ => .no)
    (fun _ _ =>  fun _ _ _ => .no)
    (fun it =>  fun σ h k => evC σ it fun v => OV (entryA h v) k)
    (fun x _ t ok =>  fun σ _ k => evC σ x fun v => OV (typeAssertA P v t ok) k)
    (fun t i =>  fun σ _ k => evC σ t fun v => EX i v k)
    (fun c =>  fun σ h k => rdCall P c.callee c.argTypes.toList c.args.toList σ h k)
    (fun _ =>  fun _ _ _ => .no)
    (fun _ =>  fun _ _ _ => .no)
    (fun _ =>  fun _ _ _ => .no)
    (fun _ _ =>  fun _ _ _ => .no)
    (fun _ _ _ =>  fun _ _ _ => .no)
    (fun _ _ =>  fun _ _ _ => .no)
    o
def mkMapC (t : TypeId) (r : Option Operand) (σ : Loc) (h : Heap) (k : AV → Heap → Ans) : Ans := OPVH (opMakeMap t r P (fun x => evO x .e σ) h) k
def alC (o : Op) : Loc → Heap → (AV → Heap → Ans) → Ans :=
  @Op.rec (fun _ => Loc → Heap → (AV → Heap → Ans) → Ans)
    (fun _ =>  fun _ _ _ => .no)
    (fun _ =>  fun _ _ _ => .no)
    (fun _ _ _ =>  fun _ _ _ => .no)
    (fun t =>  fun _ h k => xo (zeroA P t) .no fun z => xb (allOne z.cells) (NEWC (setL z.cells (nat_lit 0) .e) (lenL z.cells) t h k) .no)
    (fun t x =>  fun σ h k => evC σ x fun v => BOX t v h k)
    (fun _ _ =>  fun _ _ _ => .no)
    (fun t len parts =>  fun σ h k => evPC σ parts.toList fun l => xo (slZero P t len) .no fun z => BSL z.1 z.2.1 z.2.2 len l h k)
    (fun _ _ _ _ =>  fun _ _ _ => .no)
    (fun _ _ =>  fun _ _ _ => .no)
    (fun _ _ _ =>  fun _ _ _ => .no)
    (fun _ =>  fun _ _ _ => .no)
    (fun _ =>  fun _ _ _ => .no)
    (fun _ =>  fun _ _ _ => .no)
    (fun _ _ _ _ _ =>  fun _ _ _ => .no)
    (fun _ _ _ =>  fun _ _ _ => .no)
    (fun s d x =>  fun σ h k => evC σ x fun v => xb (isConvA P s d) (OVH (convB P h d v) k) .no)
    (fun _ _ =>  fun _ _ _ => .no)
    (fun _ _ =>  fun _ _ _ => .no)
    (fun _ _ _ =>  fun _ _ _ => .no)
    (fun t r =>  mkMapC P t r)
    (fun _ _ =>  fun _ _ _ => .no)
    (fun t l c =>  fun σ h k => evC σ l fun a => evC σ c fun b => OVH (makeSliceA P h t a b) k)
    (fun _ _ _ _ _ =>  fun _ _ _ => .no)
    (fun _ _ _ =>  fun _ _ _ => .no)
    (fun _ _ _ =>  fun _ _ _ => .no)
    (fun _ _ _ =>  fun _ _ _ => .no)
    (fun _ _ _ =>  fun _ _ _ => .no)
    (fun _ _ _ _ =>  fun _ _ _ => .no)
    (fun _ _ _ _ =>  fun _ _ _ => .no)
    (fun _ _ _ =>  fun _ _ _ => .no)
    (fun _ _ _ _ =>  fun _ _ _ => .no)
    (fun _ _ =>  fun _ _ _ => .no)
    (fun _ _ =>  fun _ _ _ => .no)
    (fun _ =>  fun _ _ _ => .no)
    (fun _ _ _ _ =>  fun _ _ _ => .no)
    (fun _ _ =>  fun _ _ _ => .no)
    (fun _ =>  fun _ _ _ => .no)
    (fun _ =>  fun _ _ _ => .no)
    (fun _ =>  fun _ _ _ => .no)
    (fun _ =>  fun _ _ _ => .no)
    (fun _ _ =>  fun _ _ _ => .no)
    (fun _ _ _ =>  fun _ _ _ => .no)
    (fun _ _ =>  fun _ _ _ => .no)
    o
abbrev KVH := AV → Heap → Ans
def callO (f : Operand) : List AV → Loc → CL → Heap → KVH → KP → Ans :=
  @Operand.rec (fun _ => List AV → Loc → CL → Heap → KVH → KP → Ans)
    (fun _ =>  fun args σ cl h k kp => evC σ f fun v => GEN (callV P (some v) args h) cl k kp)
    (fun _ =>  fun args σ cl h k kp => evC σ f fun v => GEN (callV P (some v) args h) cl k kp)
    (fun _ =>  fun args σ cl h k kp => evC σ f fun v => GEN (callV P (some v) args h) cl k kp)
    (fun g =>  fun args _ cl h k kp => xo (P.funcs[g]?) .no fun fn => xo fn.body (GEN (callF P h g args) cl k kp) fun _ => cl g args h k kp)
    f
def acCall (c : Callee) : List TypeId → List Operand → Loc → CL → Heap → KVH → KP → Ans :=
  @Callee.rec (fun _ => List TypeId → List Operand → Loc → CL → Heap → KVH → KP → Ans)
    (fun f =>  fun _ args σ cl h k kp => evLC σ args fun l => callO P f l σ cl h k kp)
    (fun _ _ =>  fun _ _ _ _ _ _ _ => .no)
    (fun b =>  fun ts args σ cl h k kp => evLC σ args fun l => GEN (builtinF b P ts l h) cl k kp)
    c
def acC (o : Op) : Loc → CL → Heap → KVH → KP → Ans :=
  @Op.rec (fun _ => Loc → CL → Heap → KVH → KP → Ans)
    (fun _ =>  fun _ _ _ _ _ => .no)
    (fun _ =>  fun _ _ _ _ _ => .no)
    (fun _ _ _ =>  fun _ _ _ _ _ => .no)
    (fun _ =>  fun _ _ _ _ _ => .no)
    (fun _ _ =>  fun _ _ _ _ _ => .no)
    (fun _ _ =>  fun _ _ _ _ _ => .no)
    (fun _ _ _ =>  fun _ _ _ _ _ => .no)
    (fun t m x v =>  fun σ _ h k _ => evC σ m fun a => evC σ x fun b => evC σ v fun c => OSK (mapUpdateA P h t a b c) fun h => k undefA h)
    (fun _ _ =>  fun _ _ _ _ _ => .no)
    (fun t a x =>  fun σ _ h k _ => evC σ a fun p => evC σ x fun v => xo (sizeA P t) .no fun s => ST s p v h fun h => k undefA h)
    (fun _ =>  fun _ _ _ _ _ => .no)
    (fun _ =>  fun _ _ _ _ _ => .no)
    (fun _ =>  fun _ _ _ _ _ => .no)
    (fun _ _ _ _ _ =>  fun _ _ _ _ _ => .no)
    (fun _ _ _ =>  fun _ _ _ _ _ => .no)
    (fun _ _ _ =>  fun _ _ _ _ _ => .no)
    (fun _ _ =>  fun _ _ _ _ _ => .no)
    (fun _ _ =>  fun _ _ _ _ _ => .no)
    (fun _ _ _ =>  fun _ _ _ _ _ => .no)
    (fun _ _ =>  fun _ _ _ _ _ => .no)
    (fun _ _ =>  fun _ _ _ _ _ => .no)
    (fun _ _ _ =>  fun _ _ _ _ _ => .no)
    (fun _ _ _ _ _ =>  fun _ _ _ _ _ => .no)
    (fun _ _ _ =>  fun _ _ _ _ _ => .no)
    (fun _ _ _ =>  fun _ _ _ _ _ => .no)
    (fun _ _ _ =>  fun _ _ _ _ _ => .no)
    (fun _ _ _ =>  fun _ _ _ _ _ => .no)
    (fun _ _ _ _ =>  fun _ _ _ _ _ => .no)
    (fun t m x v =>  fun σ _ h k _ => evC σ m fun a => evC σ x fun b => evC σ v fun c => OSK (mapUpdateA P h t a b c) fun h => k undefA h)
    (fun t m x =>  fun σ _ h k _ => evC σ m fun a => evC σ x fun b => OVH (mapEntryA P h t a b) k)
    (fun _ m s x =>  fun σ _ h k _ => evC σ m fun a => evC σ s fun b => evC σ x fun c => OSK (entryStoreA h a b c) fun h => k undefA h)
    (fun t x =>  fun σ _ h k _ => evC σ x fun v => OVH (rangeA P h t v) k)
    (fun it s =>  fun σ cl h k kp => evC σ it fun v => GEN (nextA h v s) cl k kp)
    (fun _ =>  fun _ _ _ _ _ => .no)
    (fun _ _ _ _ =>  fun _ _ _ _ _ => .no)
    (fun _ _ =>  fun _ _ _ _ _ => .no)
    (fun c =>  fun σ cl h k kp => acCall P c.callee c.argTypes.toList c.args.toList σ cl h k kp)
    (fun _ =>  fun _ _ _ _ _ => .no)
    (fun _ =>  fun _ _ _ _ _ => .no)
    (fun x =>  fun σ cl h k kp => evC σ x fun v => GEN (panA v h) cl k kp)
    (fun _ _ =>  fun _ _ _ _ _ => .no)
    (fun _ _ _ =>  fun _ _ _ _ _ => .no)
    (fun _ _ =>  fun _ _ _ _ _ => .no)
    o
def opC (o : Op) (σ : Loc) (cl : CL) (h : Heap) (k : KVH) (kp : KP) : Ans :=
  xb (isWop o) (acC P o σ cl h k kp) (xb (isAop P o) (alC P o σ h k) (rdC P o σ h fun v => k v h))
def isDfr (o : Op) : Bool :=
  @Op.rec (fun _ => Bool)
    (fun _ =>  false)
    (fun _ =>  false)
    (fun _ _ _ =>  false)
    (fun _ =>  false)
    (fun _ _ =>  false)
    (fun _ _ =>  false)
    (fun _ _ _ =>  false)
    (fun _ _ _ _ =>  false)
    (fun _ _ =>  false)
    (fun _ _ _ =>  false)
    (fun _ =>  false)
    (fun _ =>  false)
    (fun _ =>  false)
    (fun _ _ _ _ _ =>  false)
    (fun _ _ _ =>  false)
    (fun _ _ _ =>  false)
    (fun _ _ =>  false)
    (fun _ _ =>  false)
    (fun _ _ _ =>  false)
    (fun _ _ =>  false)
    (fun _ _ =>  false)
    (fun _ _ _ =>  false)
    (fun _ _ _ _ _ =>  false)
    (fun _ _ _ =>  false)
    (fun _ _ _ =>  false)
    (fun _ _ _ =>  false)
    (fun _ _ _ =>  false)
    (fun _ _ _ _ =>  false)
    (fun _ _ _ _ =>  false)
    (fun _ _ _ =>  false)
    (fun _ _ _ _ =>  false)
    (fun _ _ =>  false)
    (fun _ _ =>  false)
    (fun _ =>  false)
    (fun _ _ _ _ =>  false)
    (fun _ _ =>  false)
    (fun _ =>  false)
    (fun _ =>  false)
    (fun _ =>  true)
    (fun _ =>  false)
    (fun _ _ =>  false)
    (fun _ _ _ =>  false)
    (fun _ _ =>  false)
    o
def dfCal (c : Callee) : List Operand → Loc → Heap → (FuncId → List AV → Heap → Ans) → Ans :=
  @Callee.rec (fun _ => List Operand → Loc → Heap → (FuncId → List AV → Heap → Ans) → Ans)
    (fun f =>  fun args σ h k => evLC σ args fun l => evC σ f fun v => GDF (dfrV (some v) l h) k)
    (fun _ _ =>  fun _ _ _ _ => .no)
    (fun _ =>  fun _ _ _ _ => .no)
    c
def dfC (o : Op) : Loc → Heap → (FuncId → List AV → Heap → Ans) → Ans :=
  @Op.rec (fun _ => Loc → Heap → (FuncId → List AV → Heap → Ans) → Ans)
    (fun _ =>  fun _ _ _ => .no)
    (fun _ =>  fun _ _ _ => .no)
    (fun _ _ _ =>  fun _ _ _ => .no)
    (fun _ =>  fun _ _ _ => .no)
    (fun _ _ =>  fun _ _ _ => .no)
    (fun _ _ =>  fun _ _ _ => .no)
    (fun _ _ _ =>  fun _ _ _ => .no)
    (fun _ _ _ _ =>  fun _ _ _ => .no)
    (fun _ _ =>  fun _ _ _ => .no)
    (fun _ _ _ =>  fun _ _ _ => .no)
    (fun _ =>  fun _ _ _ => .no)
    (fun _ =>  fun _ _ _ => .no)
    (fun _ =>  fun _ _ _ => .no)
    (fun _ _ _ _ _ =>  fun _ _ _ => .no)
    (fun _ _ _ =>  fun _ _ _ => .no)
    (fun _ _ _ =>  fun _ _ _ => .no)
    (fun _ _ =>  fun _ _ _ => .no)
    (fun _ _ =>  fun _ _ _ => .no)
    (fun _ _ _ =>  fun _ _ _ => .no)
    (fun _ _ =>  fun _ _ _ => .no)
    (fun _ _ =>  fun _ _ _ => .no)
    (fun _ _ _ =>  fun _ _ _ => .no)
    (fun _ _ _ _ _ =>  fun _ _ _ => .no)
    (fun _ _ _ =>  fun _ _ _ => .no)
    (fun _ _ _ =>  fun _ _ _ => .no)
    (fun _ _ _ =>  fun _ _ _ => .no)
    (fun _ _ _ =>  fun _ _ _ => .no)
    (fun _ _ _ _ =>  fun _ _ _ => .no)
    (fun _ _ _ _ =>  fun _ _ _ => .no)
    (fun _ _ _ =>  fun _ _ _ => .no)
    (fun _ _ _ _ =>  fun _ _ _ => .no)
    (fun _ _ =>  fun _ _ _ => .no)
    (fun _ _ =>  fun _ _ _ => .no)
    (fun _ =>  fun _ _ _ => .no)
    (fun _ _ _ _ =>  fun _ _ _ => .no)
    (fun _ _ =>  fun _ _ _ => .no)
    (fun _ =>  fun _ _ _ => .no)
    (fun _ =>  fun _ _ _ => .no)
    (fun c =>  fun σ h k => dfCal c.callee c.args.toList σ h k)
    (fun _ =>  fun _ _ _ => .no)
    (fun _ _ =>  fun _ _ _ => .no)
    (fun _ _ _ =>  fun _ _ _ => .no)
    (fun _ _ =>  fun _ _ _ => .no)
    o

def putC (dst : Option Tmp) (nt : Nat) (v : AV) (σ : Loc) (k : Loc → Ans) : Ans := xo dst (k σ) fun t => xb (Nat.ble (Nat.add t 1) nt) (k ((t, v) :: σ)) .no
def GW (want : Bool) (v : AV) (a b : Ans) : Ans :=
  @AV.rec (fun _ => Ans) (fun _ => Unit)
    (fun _ _ =>  b)
    (fun t =>  bcase want (bcase t a b) (bcase t b a))
    (fun _ _ =>  b)
    (fun _ _ =>  b)
    ( b)
    (fun _ _ _ _ =>  b)
    (fun _ _ _ _ =>  b)
    ( b)
    ( b)
    (fun _ =>  b)
    ( b)
    (fun _ _ _ _ _ =>  b)
    ( b)
    (fun _ _ _ =>  b)
    ( b)
    (fun _ _ =>  b)
    (fun _ _ =>  b)
    (fun _ =>  b)
    (fun _ _ =>  b)
    (fun _ =>  b)
    (fun _ _ _ =>  b)
    (fun _ _ =>  b)
    (fun _ _ _ =>  b)
    ()
    (fun _ _ _ _ => ())
    v
def guC (g : Nat × Bool) (ops : List Oper) (σ : Loc) (a b : Ans) : Ans :=
  xo (ops[g.1]?) b fun o => xo o.dst b fun t => xo (lget t σ) .no fun v => GW g.2 v a b
abbrev KO := Loc → Heap → Dfr → Ans
abbrev KPX := Loc → Dfr → KP
def opNC (o : Oper) (nt : Nat) (cl : CL) (σ : Loc) (h : Heap) (d : Dfr) (k : KO) (kp : KPX) : Ans :=
  xb (isDfr o.op) (dfC o.op σ h fun f a h => putC o.dst nt undefA σ fun σ => k σ h ((f, a) :: d)) (opC P o.op σ cl h (fun v h => putC o.dst nt v σ fun σ => k σ h d) (kp σ d))
def opJC (o : Oper) (ops : List Oper) (nt : Nat) (cl : CL) (σ : Loc) (h : Heap) (d : Dfr) (k : KO) (kp : KPX) (g : Nat × Bool) : Ans :=
  xb (isDfr o.op) .no (JO (fun v h => putC o.dst nt v σ fun σ => k σ h d) fun j => guC g ops σ (opC P o.op σ cl h j (kp σ d)) (j undefA h))
def operC (o : Oper) (ops : List Oper) (nt : Nat) (cl : CL) (σ : Loc) (h : Heap) (d : Dfr) (k : KO) (kp : KPX) : Ans :=
  xo o.guard (opNC P o nt cl σ h d k kp) (opJC P o ops nt cl σ h d k kp)
def opsC (ops : List Oper) (l : List Oper) : Nat → CL → Loc → Heap → Dfr → KO → KPX → Ans :=
  xr (fun _ _ σ h d k _ => k σ h d) (fun o _ ih nt cl σ h d k kp => operC P o ops nt cl σ h d (fun σ h d => ih nt cl σ h d k kp) kp) l

structure RdC where
  i : Nat
  o : Oper
  σ : Loc
  v : AV
structure DSC where
  pend : Pend
  reads : List RdC
def EQV (v u : AV) (k : Ans) : Ans := bcase (AV.beq u v) k .no
def SETB (h : Heap) (b : Nat) (x : ABlk) (k : Heap → Ans) : Ans := HSET h b x k
def incC (m : Nat) (l : Pend) : Heap → (Pend → Heap → Ans) → Ans :=
  xr (fun h k => k [] h) (fun x _ ih h k => ih h fun q h => xb (bit x.1 m) (SETB h x.2.1 x.2.2 fun h => k q h) (k (x :: q) h)) l
def recC (m : Nat) (h : Heap) (l : List RdC) (k : Ans) : Ans :=
  xr k (fun r _ ih => xb (bit r.i m) ih (rdC P r.o.op r.σ h fun u => EQV r.v u ih)) l
abbrev KD2 := DSC → Loc → Heap → Dfr → Ans
def actC2 (p : PL) (nt : Nat) (cl : CL) (reads : List RdC) (k : KD2) (σ : Loc) (d : Dfr) (q : Pend) (h : Heap) (kp : KPX) : Ans :=
  opC P p.o.op σ cl h (fun v h => recC P p.m h reads (putC p.o.dst nt v σ fun σ => k ⟨q, reads⟩ σ h d)) (fun c h => ENDD d (kp [] [] c h) .no)
def NXT (h : Heap) (k : Nat → Heap → Ans) : Ans := onH h fun n bl => frc (Nat.add n (nat_lit 1)) fun m => k n ⟨m, bl⟩
def isLenB (b : Builtin) : Bool := match b with | .len => true | _ => false
def pureB (c : Callee) (ts : List TypeId) : Bool :=
  @Callee.rec (fun _ => Bool)
    (fun _ =>  false)
    (fun _ _ =>  false)
    (fun b =>  isLenB b && (match ts with | t :: _ => isSliceT P t || isStrT P t | [] => false))
    c
def isPureO (o : Op) : Bool :=
  @Op.rec (fun _ => Bool)
    (fun _ =>  true)
    (fun _ =>  true)
    (fun _ _ _ =>  true)
    (fun _ =>  false)
    (fun _ _ =>  false)
    (fun _ _ =>  true)
    (fun _ _ _ =>  false)
    (fun _ _ _ _ =>  false)
    (fun _ _ =>  false)
    (fun _ _ _ =>  false)
    (fun _ =>  false)
    (fun _ =>  false)
    (fun _ =>  true)
    (fun _ _ _ _ _ =>  true)
    (fun _ _ _ =>  true)
    (fun _ _ _ =>  false)
    (fun _ _ =>  false)
    (fun _ _ =>  true)
    (fun _ _ _ =>  true)
    (fun _ _ =>  false)
    (fun _ _ =>  false)
    (fun _ _ _ =>  false)
    (fun _ _ _ _ _ =>  true)
    (fun _ _ _ =>  true)
    (fun _ _ _ =>  true)
    (fun _ _ _ =>  true)
    (fun _ _ _ =>  true)
    (fun _ _ _ _ =>  false)
    (fun _ _ _ _ =>  false)
    (fun _ _ _ =>  false)
    (fun _ _ _ _ =>  false)
    (fun _ _ =>  false)
    (fun _ _ =>  false)
    (fun _ =>  false)
    (fun _ _ _ _ =>  true)
    (fun _ _ =>  true)
    (fun c =>  pureB P c.callee c.argTypes.toList)
    (fun _ =>  false)
    (fun _ =>  false)
    (fun _ =>  false)
    (fun _ _ =>  false)
    (fun _ _ _ =>  false)
    (fun _ _ =>  false)
    o
def again (p : PL) : Bool := bcase (Nat.beq p.k 1) (bcase (isPureO P p.o.op) false true) false
def NEWB (h0 h : Heap) (k : ABlk → Nat → Heap → Ans) : Ans := NXT h0 fun n g => HGET h n fun b => k b n g
def drawC1 (p : PL) (nt : Nat) (cl : CL) (s : DSC) (k : KD2) (σ : Loc) (h : Heap) (d : Dfr) (kp : KPX) : Ans :=
  xb (isAct p) (incC p.m s.pend h fun q h => actC2 P p nt cl s.reads k σ d q h kp)
  (xb (Nat.beq p.k 2) (alC P p.o.op σ h fun v h' => NEWB h h' fun b n g => putC p.o.dst nt v σ fun σ => k ⟨(p.i, n, b) :: s.pend, s.reads⟩ σ g d)
  (rdC P p.o.op σ h fun v => putC p.o.dst nt v σ fun σ' => k ⟨s.pend, xb (again P p) (⟨p.i, p.o, σ, v⟩ :: s.reads) s.reads⟩ σ' h d))
def trivP (m : Nat) (l : Pend) : Bool := lrec true (fun x _ ih => bcase (bit x.1 m) false ih) l
def joinable (p : PL) (s : DSC) : Bool := bcase (isAct p) (trivP p.m s.pend) (bcase (Nat.beq p.k 2) false (bcase (again P p) false true))
def drawJ (p : PL) (cl : CL) (reads : List RdC) (σ : Loc) (h : Heap) (d : Dfr) (j : AV → Heap → Ans) (kp : KPX) : Ans :=
  xb (isAct p) (opC P p.o.op σ cl h (fun v h => recC P p.m h reads (j v h)) (fun c h => ENDD d (kp [] [] c h) .no)) (rdC P p.o.op σ h fun v => j v h)
def drawC3 (p : PL) (ops : List Oper) (nt : Nat) (cl : CL) (s : DSC) (k : KD2) (σ : Loc) (h : Heap) (d : Dfr) (kp : KPX) (g : Nat × Bool) : Ans :=
  xb (joinable P p s) (JO (fun v h => putC p.o.dst nt v σ fun σ => k s σ h d) fun j => guC g ops σ (drawJ P p cl s.reads σ h d j kp) (j undefA h))
    (guC g ops σ (drawC1 P p nt cl s k σ h d kp) (putC p.o.dst nt undefA σ fun σ => k s σ h d))
def drawC2 (p : PL) (ops : List Oper) (nt : Nat) (cl : CL) (s : DSC) (k : KD2) (σ : Loc) (h : Heap) (d : Dfr) (kp : KPX) : Ans :=
  xo p.o.guard (drawC1 P p nt cl s k σ h d kp) (drawC3 P p ops nt cl s k σ h d kp)
def incAll (l : Pend) : Heap → (Heap → Ans) → Ans := xr (fun h k => k h) (fun x _ ih h k => ih h fun h => SETB h x.2.1 x.2.2 k) l
def drawC (ops : List Oper) (l : List PL) : Nat → CL → DSC → Loc → Heap → Dfr → KO → KPX → Ans :=
  xr (fun _ _ s σ h d k _ => incAll s.pend h fun h => k σ h d) (fun p _ ih nt cl s σ h d k kp => drawC2 P p ops nt cl s (fun s σ h d => ih nt cl s σ h d k kp) σ h d kp) l
def regC (draw : Bool) (ops : List Oper) (nt : Nat) (cl : CL) (σ : Loc) (h : Heap) (d : Dfr) (k : KO) (kp : KPX) : Ans :=
  xb draw (drawC P ops (planOf P ops) nt cl ⟨[], []⟩ σ h d k kp) (opsC P ops ops nt cl σ h d k kp)

def usesX (x : Operand) : Nat := match x with | .tmp t => Nat.shiftLeft 1 t | _ => 0
def usesL (l : List Operand) : Nat := lrec 0 (fun x _ ih => Nat.lor (usesX x) ih) l
def guM (g : Option (Nat × Bool)) (ops : List Oper) : Nat := ocase g 0 fun g => ocase (ops[g.1]?) 0 fun o => ocase o.dst 0 fun t => Nat.shiftLeft 1 t
def dstM (d : Option Tmp) : Nat := ocase d 0 fun t => Nat.shiftLeft 1 t
def without (m q : Nat) : Nat := Nat.xor m (Nat.land m q)
def liveO (o : Oper) (ops : List Oper) (N : Nat) : Nat := Nat.lor (Nat.lor (usesL o.op.operands.toList) (guM o.guard ops)) (without N (dstM o.dst))
def liveL (ops l : List Oper) (N : Nat) : Nat := lrec N (fun o _ ih => liveO o ops ih) l
structure Lv where
  f : Bool
  n : Nat
  x : List (Nat × Nat)
  r : Nat
def xget (i : Nat) (l : List (Nat × Nat)) : Nat := lrec 0 (fun p _ ih => bcase (Nat.beq p.1 i) p.2 ih) l
def liveC : Code → Lv → Nat
  | .skip, L => L.n
  | .region _ ops _, L => liveL ops.toList ops.toList L.n
  | .seq a b, L => liveC a ⟨L.f, liveC b L, L.x, L.r⟩
  | .cond x a b, L => Nat.lor (usesX x) (Nat.lor (liveC a L) (liveC b L))
  | .block id b, L => liveC b ⟨L.f, L.n, (id, L.n) :: L.x, L.r⟩
  | .loop b, L => liveC b ⟨L.f, 0, L.x, L.r⟩
  | .exit id, L => xget id L.x
  | .label _, L => L.n
  | .ret, L => L.r
  | _, _ => 0
def asgL (l : List Oper) : Nat := lrec 0 (fun o _ ih => Nat.lor (dstM o.dst) ih) l
def asgC : Code → Nat
  | .region _ ops _ => asgL ops.toList
  | .seq a b => Nat.lor (asgC a) (asgC b)
  | .cond _ a b => Nat.lor (asgC a) (asgC b)
  | .block _ b => asgC b
  | .loop b => asgC b
  | _ => 0
def hasG (draw : Bool) (l : List Oper) : Nat := bcase draw (lrec 1 (fun o _ ih => match o.guard with | some _ => 2 | none => ih) l) 1
def endsC : Code → Nat
  | .skip => 1
  | .region _ ops draw => hasG draw ops.toList
  | .seq _ b => endsC b
  | .cond _ a b => endsC a + endsC b
  | .block _ _ => 1
  | .label _ => 1
  | _ => 0
def exitsC (id : Nat) : Code → Nat
  | .seq a b => exitsC id a + exitsC id b
  | .cond _ a b => exitsC id a + exitsC id b
  | .block _ b => exitsC id b
  | .loop b => exitsC id b
  | .exit j => bcase (Nat.beq j id) 1 0
  | _ => 0
def bitsOf (nt m : Nat) : List Nat := nrec [] (fun t ih => bcase (bit t m) (t :: ih) ih) nt

def Bas : Bool → Type
  | true => Heap → Dfr → Ans
  | false => Heap → Ans
def Cur (b : Bool) : List Nat → Type
  | [] => Bas b
  | _ :: l => AV → Cur b l
def lam0 (b : Bool) : (Heap → Dfr → Ans) → Bas b := @Bool.rec (fun b => (Heap → Dfr → Ans) → TYH (Bas b)) (fun f h => f h []) (fun f => f) b
def app0 (b : Bool) : Bas b → Heap → Dfr → Ans := @Bool.rec (fun b => Bas b → Heap → Dfr → TYH Ans) (fun j h d => xl d (j h) fun _ _ => .no) (fun j => j) b
def lamC (b : Bool) (l : List Nat) : Loc → KE → Cur b l := @List.rec Nat (fun l => Loc → KE → TYH (Cur b l)) (fun σ f => lam0 b (f σ)) (fun t _ ih σ f v => ih ((t, v) :: σ) f) l
def appC (b : Bool) (l : List Nat) : Cur b l → KE := @List.rec Nat (fun l => Cur b l → TYH KE) (fun j _ h d => app0 b j h d) (fun t _ ih j σ h d => xo (lget t σ) .no fun v => ih (j v) σ h d) l
def bitsK (nt m : Nat) : (List Nat → Ans) → Ans := xn (fun k => k []) (fun t ih k => xb (bit t m) (ih fun r => k (t :: r)) (ih k)) nt
def dropK (m : Nat) (σ : Loc) : (Loc → Ans) → Ans := xr (fun k => k []) (fun p _ ih k => xb (bit p.1 m) (ih k) (ih fun r => k (p :: r))) σ
def joinC (b : Bool) (f : Bool) (nt as lv : Nat) (σ : Loc) (k : KE) (g : KE → Ans) : Ans :=
  xb b (bitsK nt (Nat.land as lv) fun ts => dropK as σ fun σ0 => JO (lamC f ts σ0 k) fun j => g fun σ h d => appC f ts j σ h d) (g k)

def onLv (L : Lv) (k : Bool → Nat → List (Nat × Nat) → Nat → Ans) : Ans := @Lv.rec (fun _ => TYH Ans) (fun f n x r => k f n x r) L
def seqX (kn : KE) (K : KX) (x : AX) : KE :=
  @AX.rec (fun _ => TYH KE)
    ( kn)
    (fun j =>  K (.exit j))
    (fun l =>  K (.goto l))
    ( K .ret)
    (fun c =>  K (.panic c))
    x
def blockX (id : Nat) (kn : KE) (K : KX) (x : AX) : KE :=
  @AX.rec (fun _ => TYH KE)
    ( kn)
    (fun j =>  xb (Nat.beq j id) kn (K (.exit j)))
    (fun l =>  K (.goto l))
    ( K .ret)
    (fun c =>  K (.panic c))
    x
abbrev CM := Nat → CL → Lv → Loc → Heap → Dfr → KX → Ans
def two (n : Nat) : Bool := Nat.ble 2 n
def cRegion (ops : List Oper) (draw : Bool) : CM := fun nt cl _ σ h d K => regC P draw ops nt cl σ h d (K .normal) (fun σ d c h => K (.panic c) σ h d)
def cSeq1 (a : Code) (ia ib : CM) (nt : Nat) (cl : CL) (f : Bool) (n : Nat) (x : List (Nat × Nat)) (r : Nat) (σ : Loc) (h : Heap) (d : Dfr) (K : KX) (lb : Nat) : Ans :=
  joinC (two (endsC a)) f nt (asgC a) lb σ (fun σ h d => ib nt cl ⟨f, n, x, r⟩ σ h d K) fun kn => ia nt cl ⟨f, lb, x, r⟩ σ h d (seqX kn K)
def cSeq (a b : Code) (ia ib : CM) : CM := fun nt cl L σ h d K => onLv L fun f n x r => xf (liveC b ⟨f, n, x, r⟩) fun lb => cSeq1 a ia ib nt cl f n x r σ h d K lb
def cCond (x : Operand) (ia ib : CM) : CM := fun nt cl L σ h d K => evC σ x fun v => IFB v (ia nt cl L σ h d K) (ib nt cl L σ h d K)
def cBlock (id : Nat) (b : Code) (ib : CM) : CM := fun nt cl L σ h d K => onLv L fun f n x r =>
  joinC (two (endsC b + exitsC id b)) f nt (asgC b) n σ (K .normal) fun kn => ib nt cl ⟨f, n, (id, n) :: x, r⟩ σ h d (blockX id kn K)
def deadK : KE := fun _ _ _ => .no
def cLoop1 (fu : Nat) (ib : CM) (nt : Nat) (cl : CL) (f : Bool) (x : List (Nat × Nat)) (r lv : Nat) (K : KX) (ts : List Nat) (σ0 : Loc) : Cur f ts :=
  LP fu (lamC f ts [] deadK) fun j => lamC f ts σ0 fun σ h d => ib nt cl ⟨f, lv, x, r⟩ σ h d (seqX (fun σ h d => appC f ts j σ h d) K)
def cLoop (fu : Nat) (b : Code) (ib : CM) : CM := fun nt cl L σ h d K => onLv L fun f _ x r => xf (liveC b ⟨f, 0, x, r⟩) fun lv =>
  bitsK nt (Nat.land (asgC b) lv) fun ts => dropK (asgC b) σ fun σ0 => appC f ts (cLoop1 fu ib nt cl f x r lv K ts σ0) σ h d
variable (fu : Nat)
def comp (c : Code) : CM :=
  @Code.rec (fun _ => CM) (fun _ _ _ σ h d K => K .normal σ h d) (fun _ ops draw => cRegion P ops.toList draw) (fun a b ia ib => cSeq a b ia ib)
    (fun x _ _ ia ib => cCond x ia ib) (fun id b ib => cBlock id b ib) (fun b ib => cLoop fu b ib) (fun _ _ _ _ _ _ => fun _ _ _ _ _ _ _ => .no)
    (fun id => fun _ _ _ σ h d K => K (.exit id) σ h d) (fun _ _ => fun _ _ _ _ _ _ _ => .no) (fun _ => fun _ _ _ σ h d K => K .normal σ h d)
    (fun _ => fun _ _ _ _ _ _ _ => .no) (fun _ _ _ σ h d K => K .ret σ h d) (fun _ => fun _ _ _ _ _ _ _ => .no) c

variable (orc : Orc)
def fullH (f : FuncId) : Nat := match P.funcs[f]? with | some fn => ones fn.ntmps | none => 0
def resAns (kr : KR) (kp : KP) : RC → Ans
  | .fail _ => .no
  | .fin (.ret v, h) => kr v h
  | .fin (.pan c, h) => kp c h
  | .ch n k => allN n fun i => resAns kr kp (k i)
def regOf (σ : Loc) : T AV := lrec .e (fun p _ ih => T.set (digs p.1) ih (some p.2)) σ
def SLOW (f : FuncId) (σ : Loc) (d : Dfr) (u : DM) (h : Heap) (kr : KR) (kp : KP) : Ans :=
  ocase (P.funcs[f]?) .no fun fn => resAns kr kp (leaveA P d (callDF P (fullH P) (fix P (fullH P) orc 60)) fn ⟨regOf σ, [], h, d⟩ u h)
def resC1 (r : ResultVar) (σ : Loc) (h : Heap) (k : AV → Ans) : Ans :=
  match r with
  | .tmp t => xo (lget t σ) .no k
  | .cell t ty => xo (lget t σ) .no fun p => xo (aggSz P ty) .no fun s => xo s (LD p h k) fun n => LDN n p h k
def resCL (l : List ResultVar) (σ : Loc) (h : Heap) : (List AV → Ans) → Ans := xr (fun k => k []) (fun r _ ih k => resC1 P r σ h fun v => ih fun l => k (v :: l)) l
def oneC (l : List AV) (k : AV → Ans) : Ans := xl l (k (.tuple l)) fun a r => xl r (k a) fun _ _ => k (.tuple l)
def resM (l : List ResultVar) : Nat := lrec 0 (fun r _ ih => Nat.lor (match r with | .tmp t => Nat.shiftLeft 1 t | .cell t _ => Nat.shiftLeft 1 t) ih) l
def hasD : Code → Bool
  | .region _ ops _ => ops.toList.any fun o => match o.op with | .defer _ => true | _ => false
  | .seq a b => hasD a || hasD b
  | .cond _ a b => hasD a || hasD b
  | .block _ b => hasD b
  | .loop b => hasD b
  | _ => false
def resT (r : ResultVar) : Nat := match r with | .tmp t => t | .cell t _ => t
def selC (l : List ResultVar) (σ : Loc) : (Loc → Ans) → Ans := xr (fun k => k []) (fun r _ ih k => xo (lget (resT r) σ) (ih k) fun v => ih fun q => k ((resT r, v) :: q)) l
def slowC (b : Bool) (f : FuncId) (fn : Func) (σ : Loc) (d : Dfr) (u : DM) (h : Heap) (kr : KR) (kp : KP) : Ans := xb b (selC fn.results.toList σ fun σ => SLOW P orc f σ d u h kr kp) .no
def endN (b : Bool) (f : FuncId) (fn : Func) (kr : KR) (kp : KP) (σ : Loc) (h : Heap) (d : Dfr) : Ans :=
  ENDD d (resCL P fn.results.toList σ h fun l => oneC l fun v => kr v h) (slowC P orc b f fn σ d .returning h kr kp)
def endX (b : Bool) (f : FuncId) (fn : Func) (kr : KR) (kp : KP) (x : AX) : KE :=
  @AX.rec (fun _ => TYH KE)
    ( endN P orc b f fn kr kp)
    (fun _ =>  fun _ _ _ => .no)
    (fun _ =>  fun _ _ _ => .no)
    ( endN P orc b f fn kr kp)
    (fun c =>  fun σ h d => ENDD d (kp c h) (slowC P orc b f fn σ d (.panicking c) h kr kp))
    x
def argC (n : Nat) : Nat → List AV → Loc → (Loc → Ans) → Ans :=
  xn (fun _ l σ k => xl l (k σ) fun _ _ => .no) (fun _ ih i l σ k => xl l .no fun a l => ih (Nat.add i 1) l ((i, a) :: σ) k) n
def bodyC (f : FuncId) (fn : Func) (n : Nat) (c : Code) (cl : CL) (args : List AV) (h : Heap) (kr : KR) (kp : KP) : Ans :=
  xb (Nat.ble n fn.ntmps) (argC n 0 args [] fun σ => xf fn.ntmps fun nt => xf (resM fn.results.toList) fun r => comp P fu c nt cl ⟨hasD c, r, [], r⟩ σ h [] (endX P orc (hasD c) f fn kr kp)) .no
def compF (f : FuncId) (n : Nat) (cl : CL) (args : List AV) (h : Heap) (kr : KR) (kp : KP) : Ans :=
  xo (P.funcs[f]?) .no fun fn => xo fn.body .no fun c => bodyC P fu orc f fn n c cl args h kr kp
end
end
end Go.Ev
