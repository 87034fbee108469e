import Derived.Recover
import Derived.Orders
set_option linter.all false
namespace Go.Ev
noncomputable section

def TY (β : Type) : Type := β
def bcase {β : Type} (c : Bool) (x y : β) : β := @Bool.rec (fun _ => TY β) y x c
def ocase {α β : Type} (o : Option α) (n : β) (s : α → β) : β := @Option.rec α (fun _ => TY β) n s o
def lcase {α β : Type} (o : List α) (n : β) (s : α → List α → β) : β := @List.rec α (fun _ => TY β) n (fun a l _ => s a l) o
noncomputable def lrec {α β : Type} (z : β) (f : α → List α → β → β) (l : List α) : β := @List.rec α (fun _ => TY β) z f l
noncomputable def nrec {β : Type} (z : β) (f : Nat → β → β) (n : Nat) : β := @Nat.rec (fun _ => TY β) z f n
theorem bcase_true {β : Type} (x y : β) : bcase true x y = x := rfl
theorem bcase_false {β : Type} (x y : β) : bcase false x y = y := rfl
theorem ocase_none {α β : Type} (n : β) (s : α → β) : ocase none n s = n := rfl
theorem ocase_some {α β : Type} (a : α) (n : β) (s : α → β) : ocase (some a) n s = s a := rfl
theorem lcase_nil {α β : Type} (n : β) (s : α → List α → β) : lcase [] n s = n := rfl
theorem lcase_cons {α β : Type} (a : α) (l : List α) (n : β) (s : α → List α → β) : lcase (a :: l) n s = s a l := rfl
theorem lrec_nil {α β : Type} (z : β) (f : α → List α → β → β) : lrec z f [] = z := rfl
theorem lrec_cons {α β : Type} (z : β) (f : α → List α → β → β) (a : α) (l : List α) : lrec z f (a :: l) = f a l (lrec z f l) := rfl
theorem nrec_zero {β : Type} (z : β) (f : Nat → β → β) : nrec z f 0 = z := rfl
theorem nrec_succ {β : Type} (z : β) (f : Nat → β → β) (n : Nat) : nrec z f (n + 1) = f n (nrec z f n) := rfl

inductive Res (α : Type) where
  | fail (why : Nat)
  | fin (a : α)
  | ch (n : Nat) (k : Nat → Res α)
noncomputable def Res.bind {α β : Type} (r : Res α) : (α → Res β) → Res β :=
  Res.rec (motive := fun _ => (α → Res β) → Res β) (fun w _ => .fail w) (fun a f => f a) (fun n _ ih f => .ch n fun i => ih i f) r
theorem Res.bind_fail {α β : Type} (w : Nat) (f : α → Res β) : (Res.fail w : Res α).bind f = .fail w := rfl
theorem Res.bind_fin {α β : Type} (a : α) (f : α → Res β) : (Res.fin a).bind f = f a := rfl
theorem Res.bind_ch {α β : Type} (n : Nat) (k : Nat → Res α) (f : α → Res β) : (Res.ch n k).bind f = .ch n fun i => (k i).bind f := rfl

inductive T (α : Type) where
  | e
  | n (v : Option α) (l r : T α)
  deriving Inhabited

def digsF (f : Nat) : Nat → List Bool :=
  nrec (fun _ => []) (fun _ ih n => bcase (Nat.beq n (nat_lit 0)) [] (Nat.beq (Nat.mod n (nat_lit 2)) (nat_lit 1) :: ih (Nat.div (Nat.sub n (nat_lit 1)) (nat_lit 2)))) f
def digs (n : Nat) : List Bool := digsF n n

namespace T
variable {α : Type}
def val (t : T α) : Option α := @T.rec α (fun _ => Option α) none (fun v _ _ _ _ => v) t
def kidl (t : T α) : T α := @T.rec α (fun _ => T α) .e (fun _ l _ _ _ => l) t
def kidr (t : T α) : T α := @T.rec α (fun _ => T α) .e (fun _ _ r _ _ => r) t
def kid (b : Bool) : T α → T α := @Bool.rec (fun _ => T α → T α) kidr kidl b
def putl (t : T α) : T α → T α := @T.rec α (fun _ => T α → T α) (fun x => .n none x .e) (fun v _ r _ _ x => .n v x r) t
def putr (t : T α) : T α → T α := @T.rec α (fun _ => T α → T α) (fun x => .n none .e x) (fun v l _ _ _ x => .n v l x) t
def put (b : Bool) : T α → T α → T α := @Bool.rec (fun _ => T α → T α → T α) putr putl b
def setv (t : T α) : Option α → T α := @T.rec α (fun _ => Option α → T α) (fun x => .n x .e .e) (fun _ l r _ _ x => .n x l r) t
def get (p : List Bool) : T α → Option α := lrec val (fun b _ ih t => ih (kid b t)) p
def set (p : List Bool) : T α → Option α → T α := lrec setv (fun b _ ih t x => put b t (ih (kid b t) x)) p
end T
end
end Go.Ev

namespace Go.Ev
noncomputable section

structure Trm where
  a : Nat
  v : Nat
  mx : Nat
  lo : Nat
  deriving Inhabited
inductive AV where
  | int (k : IntKind) (m : Nat)
  | bool (b : Bool)
  | str (n : Nat) (bits : Nat)
  | ptr (b off : Nat)
  | nilp
  | slice (b off len cap : Nat)
  | gslice (b off len sz : Nat)
  | eslice
  | nilslice
  | map (b : Nat)
  | nilmap
  | func (fn : Fn) (fs cs : List AV)
  | nilfunc
  | iface (t : TypeId) (v : AV)
  | niliface
  | agg (l : List AV)
  | tuple (l : List AV)
  | oslice (b : Nat)
  | imod (m r : Nat)
  | optr (b : Nat)
  | sint (k : IntKind) (c : Nat) (ts : List Trm)
  | sstr (l : List AV)
  | sneg (k : IntKind) (c : Nat) (ts : List Trm)
  deriving Inhabited

structure AEnt where
  key : AV
  val : AV
  born : Nat
  deriving Inhabited

inductive BK where
  | ex
  | gr
  | ro
  | rg

inductive ABlk where
  | cells (c : T AV) (n : Nat) (t : TypeId) (k : BK)
  | map (es : List AEnt) (clock : Nat)
  | siter (n bits pos : Nat)
  | miter (m : Option Nat) (since : Nat) (seen : List Nat) (stepped : Nat)
  | titer (l : List AV) (pos : Nat)
instance : Inhabited ABlk := ⟨.siter 0 0 0⟩

structure Heap where
  next : Nat
  bl : T ABlk
  deriving Inhabited

def Heap.get (h : Heap) (b : Nat) : Option ABlk := T.get (digs b) h.bl
def Heap.set (h : Heap) (b : Nat) (x : Option ABlk) : Heap := ⟨h.next, T.set (digs b) h.bl x⟩
def Heap.new (h : Heap) (x : ABlk) : Heap := ⟨Nat.add h.next (nat_lit 1), T.set (digs h.next) h.bl (some x)⟩

def AV.one (v : AV) : Bool :=
  @AV.rec (fun _ => Bool) (fun _ => Unit)
    (fun _ _ =>  true)
    (fun _ =>  true)
    (fun _ _ =>  true)
    (fun _ _ =>  true)
    ( true)
    (fun _ _ _ _ =>  true)
    (fun _ _ _ _ =>  true)
    ( true)
    ( true)
    (fun _ =>  true)
    ( true)
    (fun _ _ _ _ _ =>  true)
    ( true)
    (fun _ _ _ =>  true)
    ( true)
    (fun _ _ =>  false)
    (fun _ _ =>  false)
    (fun _ =>  true)
    (fun _ _ =>  true)
    (fun _ =>  true)
    (fun _ _ _ =>  true)
    (fun _ _ =>  true)
    (fun _ _ _ =>  true)
    ()
    (fun _ _ _ _ => ())
    v
def AV.cells (v : AV) : List AV :=
  @AV.rec (fun _ => List AV) (fun _ => Unit)
    (fun _ _ =>  [v])
    (fun _ =>  [v])
    (fun _ _ =>  [v])
    (fun _ _ =>  [v])
    ( [v])
    (fun _ _ _ _ =>  [v])
    (fun _ _ _ _ =>  [v])
    ( [v])
    ( [v])
    (fun _ =>  [v])
    ( [v])
    (fun _ _ _ _ _ =>  [v])
    ( [v])
    (fun _ _ _ =>  [v])
    ( [v])
    (fun l _ =>  l)
    (fun _ _ =>  [v])
    (fun _ =>  [v])
    (fun _ _ =>  [v])
    (fun _ =>  [v])
    (fun _ _ _ =>  [v])
    (fun _ _ =>  [v])
    (fun _ _ _ =>  [v])
    ()
    (fun _ _ _ _ => ())
    v

def maxT (ts : List Trm) : Nat := lrec (nat_lit 0) (fun t _ ih => Nat.add (Nat.mul t.a t.mx) ih) ts
def Trm.beq (t u : Trm) : Bool := bcase (Nat.beq t.a u.a) (bcase (Nat.beq t.v u.v) (bcase (Nat.beq t.mx u.mx) (Nat.beq t.lo u.lo) false) false) false
def beqT (ts : List Trm) : List Trm → Bool := lrec (fun us => lcase us true fun _ _ => false) (fun t _ ih us => lcase us false fun u us => bcase (t.beq u) (ih us) false) ts

def kcode (k : IntKind) : Nat :=
  @IntKind.rec (fun _ => Nat)
    ( nat_lit 0)
    ( nat_lit 1)
    ( nat_lit 2)
    ( nat_lit 3)
    ( nat_lit 4)
    ( nat_lit 5)
    ( nat_lit 6)
    ( nat_lit 7)
    k
def kbeq (k k' : IntKind) : Bool := Nat.beq (kcode k) (kcode k')
def maxu (k : IntKind) : Nat :=
  @IntKind.rec (fun _ => Nat)
    ( nat_lit 255)
    ( nat_lit 65535)
    ( nat_lit 4294967295)
    ( nat_lit 18446744073709551615)
    ( nat_lit 255)
    ( nat_lit 65535)
    ( nat_lit 4294967295)
    ( nat_lit 18446744073709551615)
    k
def maxs (k : IntKind) : Nat :=
  @IntKind.rec (fun _ => Nat)
    ( nat_lit 127)
    ( nat_lit 32767)
    ( nat_lit 2147483647)
    ( nat_lit 9223372036854775807)
    ( nat_lit 255)
    ( nat_lit 65535)
    ( nat_lit 4294967295)
    ( nat_lit 18446744073709551615)
    k
def isPos (k : IntKind) (m : Nat) : Bool := Nat.ble m (maxs k)
def sg (k : IntKind) (m : Nat) : Int := bif isPos k m then (m : Int) else (m : Int) - (maxu k : Int) - 1
def code (k : IntKind) (n : Int) : Nat := (n % ((maxu k : Int) + 1)).toNat
def norm (k : IntKind) (x : Nat) : Nat := bcase (Nat.ble x (maxu k)) x (Nat.land x (maxu k))

def nadd (k : IntKind) (a b : Nat) : Nat := norm k (Nat.add a b)
def nsub (k : IntKind) (a b : Nat) : Nat := bcase (Nat.ble b a) (Nat.sub a b) (Nat.sub (maxu k) (Nat.sub (Nat.sub b a) (nat_lit 1)))
def nle1 (a b : Nat) : Bool := Nat.ble (Nat.add a (nat_lit 1)) b
def nlt (k : IntKind) (a b : Nat) : Bool :=
  bcase (isPos k a) (bcase (isPos k b) (nle1 a b) false) (bcase (isPos k b) true (nle1 a b))

abbrev IOp := IntKind → Nat → Nat → Option AV
def iAdd : IOp := fun k a b => some (.int k (nadd k a b))
def iSub : IOp := fun k a b => some (.int k (nsub k a b))
def pos2 (k : IntKind) (a b : Nat) : Bool := bcase (isPos k a) (isPos k b) false
def iMul : IOp := fun k a b => bcase (pos2 k a b) (some (.int k (norm k (Nat.mul a b)))) (some (.int k (code k (sg k a * sg k b))))
def iQuo : IOp := fun k a b => bcase (Nat.beq b (nat_lit 0)) none (bcase (pos2 k a b) (some (.int k (Nat.div a b))) (some (.int k (code k (Int.tdiv (sg k a) (sg k b))))))
def iRem : IOp := fun k a b => bcase (Nat.beq b (nat_lit 0)) none (bcase (pos2 k a b) (some (.int k (Nat.mod a b))) (some (.int k (code k (Int.tmod (sg k a) (sg k b))))))
def iAnd : IOp := fun k a b => some (.int k (Nat.land a b))
def iOr : IOp := fun k a b => some (.int k (Nat.lor a b))
def iXor : IOp := fun k a b => some (.int k (Nat.xor a b))
def iAndNot : IOp := fun k a b => some (.int k (Nat.land a (Nat.sub (maxu k) b)))
def iEql : IOp := fun _ a b => some (.bool (Nat.beq a b))
def iNeq : IOp := fun _ a b => some (.bool (!(Nat.beq a b)))
def iLss : IOp := fun k a b => some (.bool (nlt k a b))
def iLeq : IOp := fun k a b => some (.bool (!(nlt k b a)))
def iGtr : IOp := fun k a b => some (.bool (nlt k b a))
def iGeq : IOp := fun k a b => some (.bool (!(nlt k a b)))
def intOp (op : BinOp) : IOp :=
  @BinOp.rec (fun _ => IOp)
    ( iAdd)
    ( iSub)
    ( iMul)
    ( iQuo)
    ( iRem)
    ( iAnd)
    ( iOr)
    ( iXor)
    ( fun _ _ _ => none)
    ( fun _ _ _ => none)
    ( iAndNot)
    ( iEql)
    ( iNeq)
    ( iLss)
    ( iLeq)
    ( iGtr)
    ( iGeq)
    op

def minN (a b : Nat) : Nat := bcase (Nat.ble a b) a b
def iShl : IntKind → Nat → Nat → Option AV := fun k a b => bcase (isPos k a) (some (.int k (norm k (Nat.shiftLeft a (minN b k.bits))))) (some (.int k (code k (sg k a * 2 ^ (minN b k.bits)))))
def iShr : IntKind → Nat → Nat → Option AV := fun k a b => bcase (isPos k a) (some (.int k (Nat.shiftRight a (minN b k.bits)))) (some (.int k (code k (Int.fdiv (sg k a) (2 ^ (minN b k.bits))))))

def pack (l : List UInt8) : Nat := lrec (nat_lit 0) (fun b _ ih => Nat.add b.toNat (Nat.mul (nat_lit 256) ih)) l
def sat (bits i : Nat) : Nat := Nat.land (Nat.shiftRight bits (Nat.mul (nat_lit 8) i)) (nat_lit 255)
def low (bits n : Nat) : Nat := Nat.sub bits (Nat.shiftLeft (Nat.shiftRight bits (Nat.mul (nat_lit 8) n)) (Nat.mul (nat_lit 8) n))
def sub (bits l h : Nat) : Nat := low (Nat.shiftRight bits (Nat.mul (nat_lit 8) l)) (Nat.sub h l)
def cat (n a b : Nat) : Nat := Nat.add a (Nat.shiftLeft b (Nat.mul (nat_lit 8) n))
def byte0 (a : Nat) : Nat := Nat.land a (nat_lit 255)
def shr8 (a : Nat) : Nat := Nat.shiftRight a (nat_lit 8)
def pred (a : Nat) : Nat := Nat.sub a (nat_lit 1)
def is0 (a : Nat) : Bool := Nat.beq a (nat_lit 0)
def sltF (f : Nat) : Nat → Nat → Nat → Nat → Bool :=
  nrec (fun _ _ _ _ => false) (fun _ ih n a m b =>
    bcase (is0 m) false (bcase (is0 n) true
    (bcase (Nat.beq (byte0 a) (byte0 b)) (ih (pred n) (shr8 a) (pred m) (shr8 b)) (nle1 (byte0 a) (byte0 b))))) f
def slt (n a m b : Nat) : Bool := sltF (Nat.add (Nat.add n m) (nat_lit 1)) n a m b
def seq (n a m b : Nat) : Bool := bcase (Nat.beq n m) (Nat.beq a b) false

abbrev SOp := Nat → Nat → Nat → Nat → Option AV
def sAdd : SOp := fun n a m b => bcase (Nat.ble (Nat.add n m) (nat_lit 1000000)) (some (.str (Nat.add n m) (cat n a b))) none
def sEql : SOp := fun n a m b => some (.bool (seq n a m b))
def sNeq : SOp := fun n a m b => some (.bool (!(seq n a m b)))
def sLss : SOp := fun n a m b => some (.bool (slt n a m b))
def sLeq : SOp := fun n a m b => some (.bool (bcase (slt n a m b) true (seq n a m b)))
def sGtr : SOp := fun n a m b => some (.bool (!(bcase (slt n a m b) true (seq n a m b))))
def sGeq : SOp := fun n a m b => some (.bool (!(slt n a m b)))
def strOp (op : BinOp) : SOp :=
  @BinOp.rec (fun _ => SOp)
    ( sAdd)
    ( fun _ _ _ _ => none)
    ( fun _ _ _ _ => none)
    ( fun _ _ _ _ => none)
    ( fun _ _ _ _ => none)
    ( fun _ _ _ _ => none)
    ( fun _ _ _ _ => none)
    ( fun _ _ _ _ => none)
    ( fun _ _ _ _ => none)
    ( fun _ _ _ _ => none)
    ( fun _ _ _ _ => none)
    ( sEql)
    ( sNeq)
    ( sLss)
    ( sLeq)
    ( sGtr)
    ( sGeq)
    op

def asInt (x : AV) : Option (IntKind × Nat) :=
  @AV.rec (fun _ => Option (IntKind × Nat)) (fun _ => Unit)
    (fun k m =>  some (k, m))
    (fun _ =>  none)
    (fun _ _ =>  none)
    (fun _ _ =>  none)
    ( none)
    (fun _ _ _ _ =>  none)
    (fun _ _ _ _ =>  none)
    ( none)
    ( none)
    (fun _ =>  none)
    ( none)
    (fun _ _ _ _ _ =>  none)
    ( none)
    (fun _ _ _ =>  none)
    ( none)
    (fun _ _ =>  none)
    (fun _ _ =>  none)
    (fun _ =>  none)
    (fun _ _ =>  none)
    (fun _ =>  none)
    (fun _ _ _ =>  none)
    (fun _ _ =>  none)
    (fun _ _ _ =>  none)
    ()
    (fun _ _ _ _ => ())
    x
def asBool (x : AV) : Option Bool :=
  @AV.rec (fun _ => Option Bool) (fun _ => Unit)
    (fun _ _ =>  none)
    (fun b =>  some b)
    (fun _ _ =>  none)
    (fun _ _ =>  none)
    ( none)
    (fun _ _ _ _ =>  none)
    (fun _ _ _ _ =>  none)
    ( none)
    ( none)
    (fun _ =>  none)
    ( none)
    (fun _ _ _ _ _ =>  none)
    ( none)
    (fun _ _ _ =>  none)
    ( none)
    (fun _ _ =>  none)
    (fun _ _ =>  none)
    (fun _ =>  none)
    (fun _ _ =>  none)
    (fun _ =>  none)
    (fun _ _ _ =>  none)
    (fun _ _ =>  none)
    (fun _ _ _ =>  none)
    ()
    (fun _ _ _ _ => ())
    x
def asStr (x : AV) : Option (Nat × Nat) :=
  @AV.rec (fun _ => Option (Nat × Nat)) (fun _ => Unit)
    (fun _ _ =>  none)
    (fun _ =>  none)
    (fun n b =>  some (n, b))
    (fun _ _ =>  none)
    ( none)
    (fun _ _ _ _ =>  none)
    (fun _ _ _ _ =>  none)
    ( none)
    ( none)
    (fun _ =>  none)
    ( none)
    (fun _ _ _ _ _ =>  none)
    ( none)
    (fun _ _ _ =>  none)
    ( none)
    (fun _ _ =>  none)
    (fun _ _ =>  none)
    (fun _ =>  none)
    (fun _ _ =>  none)
    (fun _ =>  none)
    (fun _ _ _ =>  none)
    (fun _ _ =>  none)
    (fun _ _ _ =>  none)
    ()
    (fun _ _ _ _ => ())
    x
def asPtr (x : AV) : Option (Nat × Nat) :=
  @AV.rec (fun _ => Option (Nat × Nat)) (fun _ => Unit)
    (fun _ _ =>  none)
    (fun _ =>  none)
    (fun _ _ =>  none)
    (fun b o =>  some (b, o))
    ( none)
    (fun _ _ _ _ =>  none)
    (fun _ _ _ _ =>  none)
    ( none)
    ( none)
    (fun _ =>  none)
    ( none)
    (fun _ _ _ _ _ =>  none)
    ( none)
    (fun _ _ _ =>  none)
    ( none)
    (fun _ _ =>  none)
    (fun _ _ =>  none)
    (fun _ =>  none)
    (fun _ _ =>  none)
    (fun _ =>  none)
    (fun _ _ _ =>  none)
    (fun _ _ =>  none)
    (fun _ _ _ =>  none)
    ()
    (fun _ _ _ _ => ())
    x
def asMap (x : AV) : Option Nat :=
  @AV.rec (fun _ => Option Nat) (fun _ => Unit)
    (fun _ _ =>  none)
    (fun _ =>  none)
    (fun _ _ =>  none)
    (fun _ _ =>  none)
    ( none)
    (fun _ _ _ _ =>  none)
    (fun _ _ _ _ =>  none)
    ( none)
    ( none)
    (fun b =>  some b)
    ( none)
    (fun _ _ _ _ _ =>  none)
    ( none)
    (fun _ _ _ =>  none)
    ( none)
    (fun _ _ =>  none)
    (fun _ _ =>  none)
    (fun _ =>  none)
    (fun _ _ =>  none)
    (fun _ =>  none)
    (fun _ _ _ =>  none)
    (fun _ _ =>  none)
    (fun _ _ _ =>  none)
    ()
    (fun _ _ _ _ => ())
    x
def asAgg (x : AV) : Option (List AV) :=
  @AV.rec (fun _ => Option (List AV)) (fun _ => Unit)
    (fun _ _ =>  none)
    (fun _ =>  none)
    (fun _ _ =>  none)
    (fun _ _ =>  none)
    ( none)
    (fun _ _ _ _ =>  none)
    (fun _ _ _ _ =>  none)
    ( none)
    ( none)
    (fun _ =>  none)
    ( none)
    (fun _ _ _ _ _ =>  none)
    ( none)
    (fun _ _ _ =>  none)
    ( none)
    (fun l _ =>  some l)
    (fun _ _ =>  none)
    (fun _ =>  none)
    (fun _ _ =>  none)
    (fun _ =>  none)
    (fun _ _ _ =>  none)
    (fun _ _ =>  none)
    (fun _ _ _ =>  none)
    ()
    (fun _ _ _ _ => ())
    x
def asTuple (x : AV) : Option (List AV) :=
  @AV.rec (fun _ => Option (List AV)) (fun _ => Unit)
    (fun _ _ =>  none)
    (fun _ =>  none)
    (fun _ _ =>  none)
    (fun _ _ =>  none)
    ( none)
    (fun _ _ _ _ =>  none)
    (fun _ _ _ _ =>  none)
    ( none)
    ( none)
    (fun _ =>  none)
    ( none)
    (fun _ _ _ _ _ =>  none)
    ( none)
    (fun _ _ _ =>  none)
    ( none)
    (fun _ _ =>  none)
    (fun l _ =>  some l)
    (fun _ =>  none)
    (fun _ _ =>  none)
    (fun _ =>  none)
    (fun _ _ _ =>  none)
    (fun _ _ =>  none)
    (fun _ _ _ =>  none)
    ()
    (fun _ _ _ _ => ())
    x
def asSl (x : AV) : Option (Nat × Nat × Nat) :=
  @AV.rec (fun _ => Option (Nat × Nat × Nat)) (fun _ => Unit)
    (fun _ _ =>  none)
    (fun _ =>  none)
    (fun _ _ =>  none)
    (fun _ _ =>  none)
    ( none)
    (fun b o n _ =>  some (b, o, n))
    (fun b o n _ =>  some (b, o, n))
    ( none)
    ( none)
    (fun _ =>  none)
    ( none)
    (fun _ _ _ _ _ =>  none)
    ( none)
    (fun _ _ _ =>  none)
    ( none)
    (fun _ _ =>  none)
    (fun _ _ =>  none)
    (fun _ =>  none)
    (fun _ _ =>  none)
    (fun _ =>  none)
    (fun _ _ _ =>  none)
    (fun _ _ =>  none)
    (fun _ _ _ =>  none)
    ()
    (fun _ _ _ _ => ())
    x
def slLen (x : AV) : Option Nat :=
  @AV.rec (fun _ => Option Nat) (fun _ => Unit)
    (fun _ _ =>  none)
    (fun _ =>  none)
    (fun _ _ =>  none)
    (fun _ _ =>  none)
    ( none)
    (fun _ _ n _ =>  some n)
    (fun _ _ n _ =>  some n)
    ( some (nat_lit 0))
    ( some (nat_lit 0))
    (fun _ =>  none)
    ( none)
    (fun _ _ _ _ _ =>  none)
    ( none)
    (fun _ _ _ =>  none)
    ( none)
    (fun _ _ =>  none)
    (fun _ _ =>  none)
    (fun _ =>  none)
    (fun _ _ =>  none)
    (fun _ =>  none)
    (fun _ _ _ =>  none)
    (fun _ _ =>  none)
    (fun _ _ _ =>  none)
    ()
    (fun _ _ _ _ => ())
    x
def natOf (x : AV) : Option Nat :=
  @AV.rec (fun _ => Option Nat) (fun _ => Unit)
    (fun k m =>  bcase (isPos k m) (some m) none)
    (fun _ =>  none)
    (fun _ _ =>  none)
    (fun _ _ =>  none)
    ( none)
    (fun _ _ _ _ =>  none)
    (fun _ _ _ _ =>  none)
    ( none)
    ( none)
    (fun _ =>  none)
    ( none)
    (fun _ _ _ _ _ =>  none)
    ( none)
    (fun _ _ _ =>  none)
    ( none)
    (fun _ _ =>  none)
    (fun _ _ =>  none)
    (fun _ =>  none)
    (fun _ _ =>  none)
    (fun _ =>  none)
    (fun _ _ _ =>  none)
    (fun _ _ =>  none)
    (fun _ _ _ =>  none)
    ()
    (fun _ _ _ _ => ())
    x
def asCells (x : ABlk) : Option (T AV) :=
  @ABlk.rec (fun _ => Option (T AV))
    (fun c _ _ _ =>  some c)
    (fun _ _ =>  none)
    (fun _ _ _ =>  none)
    (fun _ _ _ _ =>  none)
    (fun _ _ =>  none)
    x

def insT (t : Trm) (ts : List Trm) : List Trm :=
  lrec [t] (fun u r ih => bcase (Nat.beq t.v u.v) (⟨Nat.add t.a u.a, u.v, u.mx, u.lo⟩ :: r) (bcase (Nat.ble t.v u.v) (t :: u :: r) (u :: ih))) ts
def addT (ts us : List Trm) : List Trm := lrec us (fun t _ ih => insT t ih) ts
def mulT (n : Nat) (ts : List Trm) : List Trm := lrec [] (fun t _ ih => ⟨Nat.mul n t.a, t.v, t.mx, t.lo⟩ :: ih) ts
def decT (u : Trm) (ts : List Trm) : Option (List Trm) :=
  lrec none (fun t r ih => bcase (Nat.beq t.v u.v) (bcase (Nat.beq t.a u.a) (some r) (bcase (Nat.ble u.a t.a) (some (⟨Nat.sub t.a u.a, t.v, t.mx, t.lo⟩ :: r)) none)) (ocase ih none fun q => some (t :: q))) ts
def subT (us ts : List Trm) : Option (List Trm) := lrec (some ts) (fun u _ ih => ocase ih none (decT u)) us
def quoT (m : Nat) (ts : List Trm) : List Trm := lrec [] (fun t _ ih => bcase (Nat.ble m t.a) (⟨Nat.div t.a m, t.v, t.mx, t.lo⟩ :: ih) ih) ts
def remT (m : Nat) (ts : List Trm) : List Trm := lrec [] (fun t _ ih => bcase (is0 (Nat.mod t.a m)) ih (⟨Nat.mod t.a m, t.v, t.mx, t.lo⟩ :: ih)) ts
def cutT (u : Trm) (ts : List Trm) : List Trm × Nat :=
  lrec ([], u.a) (fun t r ih => bcase (Nat.beq t.v u.v) (bcase (Nat.ble t.a u.a) (r, Nat.sub u.a t.a) (⟨Nat.sub t.a u.a, t.v, t.mx, t.lo⟩ :: r, nat_lit 0)) (t :: ih.1, ih.2)) ts
def cutLo (lo x : Nat) (ts : List Trm) : List Trm × Nat :=
  lrec ([], nat_lit 0) (fun t r ih => bcase (Nat.beq t.v lo) (bcase (Nat.ble t.a x) (r, t.a) (⟨Nat.sub t.a x, t.v, t.mx, t.lo⟩ :: r, x)) (t :: ih.1, ih.2)) ts
def gap2 (u : Trm) (a : List Trm × Nat) (q : Nat) : List Trm × Nat := bcase (is0 u.lo) (a.1, q) ((cutLo u.lo a.2 a.1).1, Nat.add q (cutLo u.lo a.2 a.1).2)
def gap (ts us : List Trm) : List Trm × Nat := lrec (ts, nat_lit 0) (fun u _ ih => gap2 u (cutT u ih.1) ih.2) us
def leP (d c : Nat) (ts : List Trm) (c' : Nat) (us : List Trm) : Bool := Nat.ble (Nat.add (Nat.add c d) (maxT (gap ts us).1)) (Nat.add c' (gap ts us).2)
def ltS (c : Nat) (ts : List Trm) (c' : Nat) (us : List Trm) : Option Bool := bcase (leP (nat_lit 1) c ts c' us) (some true) (bcase (leP (nat_lit 0) c' us c ts) (some false) none)
def eqS (c : Nat) (ts : List Trm) (c' : Nat) (us : List Trm) : Option Bool :=
  bcase (bcase (Nat.beq c c') (beqT ts us) false) (some true) (bcase (leP (nat_lit 1) c ts c' us) (some false) (bcase (leP (nat_lit 1) c' us c ts) (some false) none))
def mkS (k : IntKind) (c : Nat) (ts : List Trm) : Option AV :=
  bcase (Nat.ble (Nat.add c (maxT ts)) (maxs k)) (lcase ts (some (.int k c)) fun _ _ => some (.sint k c ts)) none
def linOf (x : AV) : Option (IntKind × Nat × List Trm) :=
  @AV.rec (fun _ => Option (IntKind × Nat × List Trm)) (fun _ => Unit)
    (fun k m =>  bcase (isPos k m) (some (k, m, [])) none)
    (fun _ =>  none)
    (fun _ _ =>  none)
    (fun _ _ =>  none)
    ( none)
    (fun _ _ _ _ =>  none)
    (fun _ _ _ _ =>  none)
    ( none)
    ( none)
    (fun _ =>  none)
    ( none)
    (fun _ _ _ _ _ =>  none)
    ( none)
    (fun _ _ _ =>  none)
    ( none)
    (fun _ _ =>  none)
    (fun _ _ =>  none)
    (fun _ =>  none)
    (fun _ _ =>  none)
    (fun _ =>  none)
    (fun k c ts =>  some (k, c, ts))
    (fun _ _ =>  none)
    (fun _ _ _ =>  none)
    ()
    (fun _ _ _ _ => ())
    x

abbrev LOp := IntKind → Nat → List Trm → Nat → List Trm → Option AV
def lAdd : LOp := fun k c ts d us => mkS k (Nat.add c d) (addT ts us)
def lSub : LOp := fun k c ts d us => bcase (Nat.ble d c) (ocase (subT us ts) none fun r => mkS k (Nat.sub c d) r) none
def lMul1 (k : IntKind) (n c : Nat) (ts : List Trm) : Option AV := bcase (is0 n) none (mkS k (Nat.mul n c) (mulT n ts))
def lMul : LOp := fun k c ts d us => lcase us (lMul1 k d c ts) fun _ _ => lcase ts (lMul1 k c d us) fun _ _ => none
def lDiv (k : IntKind) (v : Option AV) (c : Nat) (ts : List Trm) (m : Nat) (us : List Trm) : Option AV :=
  lcase us (bcase (is0 m) none (bcase (nle1 (Nat.add (Nat.mod c m) (maxT (remT m ts))) m) v none)) fun _ _ => none
def lQuo : LOp := fun k c ts d us => lDiv k (mkS k (Nat.div c d) (quoT d ts)) c ts d us
def lRem : LOp := fun k c ts d us => lDiv k (mkS k (Nat.mod c d) (remT d ts)) c ts d us
def mkB (r : Option Bool) : Option AV := ocase r none fun b => some (.bool b)
def mkN (r : Option Bool) : Option AV := ocase r none fun b => some (.bool (!b))
def lEql : LOp := fun _ c ts d us => mkB (eqS c ts d us)
def lNeq : LOp := fun _ c ts d us => mkN (eqS c ts d us)
def lLss : LOp := fun _ c ts d us => mkB (ltS c ts d us)
def lGtr : LOp := fun _ c ts d us => mkB (ltS d us c ts)
def lLeq : LOp := fun _ c ts d us => mkN (ltS d us c ts)
def lGeq : LOp := fun _ c ts d us => mkN (ltS c ts d us)
def linOp (op : BinOp) : LOp :=
  @BinOp.rec (fun _ => LOp)
    ( lAdd)
    ( lSub)
    ( lMul)
    ( lQuo)
    ( lRem)
    ( fun _ _ _ _ _ => none)
    ( fun _ _ _ _ _ => none)
    ( fun _ _ _ _ _ => none)
    ( fun _ _ _ _ _ => none)
    ( fun _ _ _ _ _ => none)
    ( fun _ _ _ _ _ => none)
    ( lEql)
    ( lNeq)
    ( lLss)
    ( lLeq)
    ( lGtr)
    ( lGeq)
    op

def bytesL (n : Nat) : Nat → List AV := nrec (fun _ => []) (fun _ ih bits => .int .u8 (byte0 bits) :: ih (shr8 bits)) n
def unb1 (v : AV) (r : Option Nat) : Option Nat :=
  ocase (asInt v) none fun x => bcase (kbeq x.1 .u8) (ocase r none fun b => some (Nat.add x.2 (Nat.shiftLeft b (nat_lit 8)))) none
def unbytes (l : List AV) : Option Nat := lrec (some (nat_lit 0)) (fun v _ ih => unb1 v ih) l
def lenL (l : List AV) : Nat := lrec (nat_lit 0) (fun _ _ ih => Nat.add ih (nat_lit 1)) l
def isByte (v : AV) : Bool := ocase (linOf v) false fun p => kbeq p.1 .u8
def allByte (l : List AV) : Bool := lrec true (fun v _ ih => bcase (isByte v) ih false) l
def mkStr (l : List AV) : Option AV := ocase (unbytes l) (bcase (allByte l) (some (.sstr l)) none) fun b => some (.str (lenL l) b)
def strL (x : AV) : Option (List AV) :=
  @AV.rec (fun _ => Option (List AV)) (fun _ => Unit)
    (fun _ _ =>  none)
    (fun _ =>  none)
    (fun n b =>  some (bytesL n b))
    (fun _ _ =>  none)
    ( none)
    (fun _ _ _ _ =>  none)
    (fun _ _ _ _ =>  none)
    ( none)
    ( none)
    (fun _ =>  none)
    ( none)
    (fun _ _ _ _ _ =>  none)
    ( none)
    (fun _ _ _ =>  none)
    ( none)
    (fun _ _ =>  none)
    (fun _ _ =>  none)
    (fun _ =>  none)
    (fun _ _ =>  none)
    (fun _ =>  none)
    (fun _ _ _ =>  none)
    (fun l _ =>  some l)
    (fun _ _ _ =>  none)
    ()
    (fun _ _ _ _ => ())
    x
def eqB (a b : AV) : Option Bool := ocase (linOf a) none fun p => ocase (linOf b) none fun q => eqS p.2.1 p.2.2 q.2.1 q.2.2
def ltB (a b : AV) : Option Bool := ocase (linOf a) none fun p => ocase (linOf b) none fun q => ltS p.2.1 p.2.2 q.2.1 q.2.2
def eqLs0 (l : List AV) : List AV → Option Bool :=
  lrec (fun m => lcase m (some true) fun _ _ => some false) (fun a _ ih m => lcase m (some false) fun b m => ocase (eqB a b) none fun r => bcase r (ih m) (some false)) l
def eqLs (l m : List AV) : Option Bool := bcase (Nat.beq (lenL l) (lenL m)) (eqLs0 l m) (some false)
def ltLs (l : List AV) : List AV → Option Bool :=
  lrec (fun m => lcase m (some false) fun _ _ => some true) (fun a _ ih m => lcase m (some false) fun b m => ocase (eqB a b) none fun r => bcase r (ih m) (ltB a b)) l
abbrev TOp := List AV → List AV → Option AV
def tAdd : TOp := fun l m => bcase (Nat.ble (Nat.add (lenL l) (lenL m)) (nat_lit 1000000)) (mkStr (l ++ m)) none
def tEql : TOp := fun l m => mkB (eqLs l m)
def tNeq : TOp := fun l m => mkN (eqLs l m)
def tLss : TOp := fun l m => mkB (ltLs l m)
def tGtr : TOp := fun l m => mkB (ltLs m l)
def tLeq : TOp := fun l m => mkN (ltLs m l)
def tGeq : TOp := fun l m => mkN (ltLs l m)
def txtOp (op : BinOp) : TOp :=
  @BinOp.rec (fun _ => TOp)
    ( tAdd)
    ( fun _ _ => none)
    ( fun _ _ => none)
    ( fun _ _ => none)
    ( fun _ _ => none)
    ( fun _ _ => none)
    ( fun _ _ => none)
    ( fun _ _ => none)
    ( fun _ _ => none)
    ( fun _ _ => none)
    ( fun _ _ => none)
    ( tEql)
    ( tNeq)
    ( tLss)
    ( tLeq)
    ( tGtr)
    ( tGeq)
    op
def isSym (x : AV) : Bool :=
  @AV.rec (fun _ => Bool) (fun _ => Unit)
    (fun _ _ =>  false)
    (fun _ =>  false)
    (fun _ _ =>  false)
    (fun _ _ =>  false)
    ( false)
    (fun _ _ _ _ =>  false)
    (fun _ _ _ _ =>  false)
    ( false)
    ( false)
    (fun _ =>  false)
    ( false)
    (fun _ _ _ _ _ =>  false)
    ( false)
    (fun _ _ _ =>  false)
    ( false)
    (fun _ _ =>  false)
    (fun _ _ =>  false)
    (fun _ =>  false)
    (fun _ _ =>  false)
    (fun _ =>  false)
    (fun _ _ _ =>  true)
    (fun _ _ =>  true)
    (fun _ _ _ =>  true)
    ()
    (fun _ _ _ _ => ())
    x
def negOf (x : AV) : Option IntKind :=
  @AV.rec (fun _ => Option IntKind) (fun _ => Unit)
    (fun k m =>  bcase (isPos k m) none (some k))
    (fun _ =>  none)
    (fun _ _ =>  none)
    (fun _ _ =>  none)
    ( none)
    (fun _ _ _ _ =>  none)
    (fun _ _ _ _ =>  none)
    ( none)
    ( none)
    (fun _ =>  none)
    ( none)
    (fun _ _ _ _ _ =>  none)
    ( none)
    (fun _ _ _ =>  none)
    ( none)
    (fun _ _ =>  none)
    (fun _ _ =>  none)
    (fun _ =>  none)
    (fun _ _ =>  none)
    (fun _ =>  none)
    (fun _ _ _ =>  none)
    (fun _ _ =>  none)
    (fun _ _ _ =>  none)
    ()
    (fun _ _ _ _ => ())
    x
def gtC (op : BinOp) : Option AV :=
  @BinOp.rec (fun _ => Option AV)
    ( none)
    ( none)
    ( none)
    ( none)
    ( none)
    ( none)
    ( none)
    ( none)
    ( none)
    ( none)
    ( none)
    ( some (.bool false))
    ( some (.bool true))
    ( some (.bool false))
    ( some (.bool false))
    ( some (.bool true))
    ( some (.bool true))
    op
def ltC (op : BinOp) : Option AV :=
  @BinOp.rec (fun _ => Option AV)
    ( none)
    ( none)
    ( none)
    ( none)
    ( none)
    ( none)
    ( none)
    ( none)
    ( none)
    ( none)
    ( none)
    ( some (.bool false))
    ( some (.bool true))
    ( some (.bool true))
    ( some (.bool true))
    ( some (.bool false))
    ( some (.bool false))
    op
def asNeg (x : AV) : Option (IntKind × Nat × List Trm) :=
  @AV.rec (fun _ => Option (IntKind × Nat × List Trm)) (fun _ => Unit)
    (fun _ _ =>  none)
    (fun _ =>  none)
    (fun _ _ =>  none)
    (fun _ _ =>  none)
    ( none)
    (fun _ _ _ _ =>  none)
    (fun _ _ _ _ =>  none)
    ( none)
    ( none)
    (fun _ =>  none)
    ( none)
    (fun _ _ _ _ _ =>  none)
    ( none)
    (fun _ _ _ =>  none)
    ( none)
    (fun _ _ =>  none)
    (fun _ _ =>  none)
    (fun _ =>  none)
    (fun _ _ =>  none)
    (fun _ =>  none)
    (fun _ _ _ =>  none)
    (fun _ _ =>  none)
    (fun k c ts =>  some (k, c, ts))
    ()
    (fun _ _ _ _ => ())
    x
def symT (op : BinOp) (x y : AV) : Option AV := ocase (strL x) none fun l => ocase (strL y) none fun m => txtOp op l m
def symE (op : BinOp) (x y : AV) : Option AV :=
  ocase (linOf x) (ocase (negOf x) (symT op x y) fun k => ocase (linOf y) none fun q => bcase (kbeq k q.1) (ltC op) none) fun p => ocase (linOf y) (ocase (negOf y) none fun k => bcase (kbeq p.1 k) (gtC op) none) fun q => bcase (kbeq p.1 q.1) (linOp op p.1 p.2.1 p.2.2 q.2.1 q.2.2) none

def quoS (p : Nat × List Trm) (m : Nat) : Option (Nat × List Trm) := bcase (nle1 (Nat.add (Nat.mod p.1 m) (maxT (remT m p.2))) m) (some (Nat.div p.1 m, quoT m p.2)) none
def remS (p : Nat × List Trm) (m : Nat) : Option (Nat × List Trm) := bcase (nle1 (Nat.add (Nat.mod p.1 m) (maxT (remT m p.2))) m) (some (Nat.mod p.1 m, remT m p.2)) none
def consD (p : Option (Nat × List Trm)) (l : Option (List AV)) : Option (List AV) := ocase p none fun q => ocase (mkS .u8 (Nat.add (nat_lit 48) q.1) q.2) none fun a => ocase l none fun l => some (a :: l)
def digL (p : Nat × List Trm) : Option (List AV) :=
  ocase (ltS p.1 p.2 (nat_lit 10) []) none fun b => bcase b (consD (some p) (some []))
    (ocase (ltS p.1 p.2 (nat_lit 100) []) none fun b => bcase b (consD (quoS p (nat_lit 10)) (consD (remS p (nat_lit 10)) (some [])))
      (ocase (ltS p.1 p.2 (nat_lit 1000) []) none fun b => bcase b (consD (quoS p (nat_lit 100)) (ocase (quoS p (nat_lit 10)) none fun q => consD (remS q (nat_lit 10)) (consD (remS p (nat_lit 10)) (some [])))) none))
def itoaA (x : AV) : Option AV :=
  @AV.rec (fun _ => Option AV) (fun _ => Unit)
    (fun _ _ =>  none)
    (fun _ =>  none)
    (fun _ _ =>  none)
    (fun _ _ =>  none)
    ( none)
    (fun _ _ _ _ =>  none)
    (fun _ _ _ _ =>  none)
    ( none)
    ( none)
    (fun _ =>  none)
    ( none)
    (fun _ _ _ _ _ =>  none)
    ( none)
    (fun _ _ _ =>  none)
    ( none)
    (fun _ _ =>  none)
    (fun _ _ =>  none)
    (fun _ =>  none)
    (fun _ _ =>  none)
    (fun _ =>  none)
    (fun k c ts =>  bcase (kbeq k .i64) (ocase (digL (c, ts)) none mkStr) none)
    (fun _ _ =>  none)
    (fun _ _ _ =>  none)
    ()
    (fun _ _ _ _ => ())
    x

mutual
def abs : Value → Option AV
  | .bool b => some (.bool b)
  | .int k n => bif decide (sg k (code k n) = n) && Nat.ble (code k n) (maxu k) then some (.int k (code k n)) else none
  | .string s => some (.str s.data.toList.length (pack s.data.toList))
  | .pointer none => some .nilp
  | .slice none 0 0 => some .nilslice
  | .map none => some .nilmap
  | .nilFunc => some .nilfunc
  | .nilIface => some .niliface
  | .agg ⟨l⟩ => match absL l with | some l => some (.agg l) | none => none
  | .tuple ⟨l⟩ => match absL l with | some l => some (.tuple l) | none => none
  | .iface t v => match abs v with | some v => some (.iface t v) | none => none
  | _ => none
def absL : List Value → Option (List AV)
  | [] => some []
  | v :: l => match abs v, absL l with | some a, some r => some (a :: r) | _, _ => none
end

end
end Go.Ev

namespace Go.Ev
noncomputable section

inductive OpR where
  | bad (why : Nat)
  | val (v : AV) (h : Heap)
  | skip (h : Heap)
  | enter (f : FuncId) (args : List AV) (h : Heap)
  | pan (v : AV) (h : Heap)
  | dfr (f : FuncId) (args : List AV) (h : Heap)
  | ch (n : Nat) (k : Nat → Option (AV × Heap))
  | rcv
  deriving Inhabited

section
variable (P : Program)

def sizeA (t : TypeId) : Option Nat := match P.info? t with | some i => some i.size | none => none
def aggA (t : TypeId) : Option Bool := match P.underlying t with | some (.struct _) => some true | some (.array _ _) => some true | some _ => some false | none => none
def zeroA (t : TypeId) : Option AV := match P.info? t with | some i => (match i.zero with | some v => abs v | none => none) | none => none
def aggSz (t : TypeId) : Option (Option Nat) :=
  match P.underlying t with
  | some (.struct _) => (match P.info? t with | some i => some (some i.size) | none => none)
  | some (.array _ _) => (match P.info? t with | some i => some (some i.size) | none => none)
  | some _ => some none
  | none => none
def slSz (t : TypeId) : Option Nat := match P.underlying t with | some (.slice e) => sizeA P e | _ => none
def arrSz (t : TypeId) : Option (Nat × Nat) := match P.underlying t with | some (.array n e) => (match sizeA P e with | some s => some (n, s) | none => none) | _ => none
def fieldOff (t : TypeId) (f : Nat) : Option Nat :=
  match P.underlying t with
  | some (.struct fields) => (match fields[f]? with
    | some fd => (match sizeA P fd.type with | some sz => bif Nat.ble 1 sz then some fd.offset else none | none => none)
    | none => none)
  | _ => none
def fieldPart (t : TypeId) (f : Nat) : Option (TypeId × Nat) :=
  match P.underlying t with
  | some (.struct fields) => (match fields[f]? with | some fd => some (fd.type, fd.offset) | none => none)
  | _ => none
def isStrT (t : TypeId) : Bool := match P.underlying t with | some .string => true | _ => false
def isSliceT (t : TypeId) : Bool := match P.underlying t with | some (.slice _) => true | _ => false
def isMapT (t : TypeId) : Bool := match P.underlying t with | some (.map _ _) => true | _ => false
def arrLen (t : TypeId) : Option Nat := match P.underlying t with | some (.array n _) => some n | _ => none

def consO (v : AV) (l : Option (List AV)) : Option (List AV) := ocase l none fun l => some (v :: l)
def getL (c : T AV) (k : Nat) : Nat → Option (List AV) :=
  nrec (fun _ => some []) (fun _ ih off => ocase (T.get (digs off) c) none fun v => consO v (ih (Nat.add off (nat_lit 1)))) k
def setL (l : List AV) : Nat → T AV → T AV :=
  lrec (fun _ c => c) (fun v _ ih off c => ih (Nat.add off (nat_lit 1)) (T.set (digs off) c (some v))) l
def allOne (l : List AV) : Bool := lrec true (fun v _ ih => bcase v.one ih false) l
def dropL (n : Nat) : List AV → List AV := nrec (fun l => l) (fun _ ih l => lcase l [] fun _ l => ih l) n
def takeL (n : Nat) : List AV → List AV := nrec (fun _ => []) (fun _ ih l => lcase l [] fun a l => a :: ih l) n
def nthL (n : Nat) : List AV → Option AV := nrec (fun l => lcase l none fun a _ => some a) (fun _ ih l => lcase l none fun _ l => ih l) n

def partS (s : Option Nat) (l : List AV) (off : Nat) : Option AV :=
  ocase s (nthL off l) fun s => bcase (Nat.ble (Nat.add off s) (lenL l)) (some (.agg (takeL s (dropL off l)))) none
def partA (t : TypeId) (l : List AV) (off : Nat) : Option AV := ocase (aggSz P t) none fun s => partS s l off

def newCells (h : Heap) (t : TypeId) (l : List AV) : AV × Heap :=
  (.ptr h.next (nat_lit 0), h.new (.cells (setL l (nat_lit 0) .e) (lenL l) t .ex))
def newGrown (h : Heap) (t : TypeId) (l : List AV) : Heap :=
  h.new (.cells (setL l (nat_lit 0) .e) (lenL l) t .gr)
def BK.ro? (k : BK) : Bool := match k with | .ro => true | .rg => true | _ => false
def BK.ex? (k : BK) : Bool := match k with | .gr => false | .rg => false | _ => true

def loadC (s : Option Nat) (off : Nat) (c : T AV) : Option AV :=
  ocase s (T.get (digs off) c) fun s => ocase (getL c s off) none fun l => some (.agg l)
def loadA (h : Heap) (t : TypeId) (p : AV) : Option AV :=
  ocase (asPtr p) none fun p => ocase (h.get p.1) none fun b => ocase (asCells b) none fun c => ocase (aggSz P t) none fun s => loadC s p.2 c

def storeB (h : Heap) (b off : Nat) (l : List AV) (x : ABlk) : Option Heap :=
  @ABlk.rec (fun _ => Option Heap)
    (fun c n t k =>  bcase k.ro? none (bcase (allOne l) (bcase (Nat.ble (Nat.add off (lenL l)) n) (some (h.set b (some (.cells (setL l off c) n t k)))) none) none))
    (fun _ _ =>  none)
    (fun _ _ _ =>  none)
    (fun _ _ _ _ =>  none)
    (fun _ _ =>  none)
    x
def storeL (h : Heap) (b off : Nat) (l : List AV) : Option Heap := ocase (h.get b) none (storeB h b off l)
def storeA (h : Heap) (t : TypeId) (p v : AV) : Option Heap :=
  ocase (asPtr p) none fun p => ocase (sizeA P t) none fun s => bcase (Nat.beq (lenL v.cells) s) (storeL h p.1 p.2 v.cells) none

def allocA (h : Heap) (t : TypeId) : Option (AV × Heap) :=
  ocase (zeroA P t) none fun z => bcase (allOne z.cells) (some (newCells h t z.cells)) none

def fill1 (place : Option (Nat × Nat)) (v : AV) (cells : List AV) : Option (List AV) :=
  ocase place none fun p => bcase (Nat.beq (lenL v.cells) p.2) (bcase (Nat.ble (Nat.add p.1 p.2) (lenL cells)) (some (takeL p.1 cells ++ (v.cells ++ dropL (Nat.add p.1 p.2) cells))) none) none
def fillA (place : Nat → Option (Nat × Nat)) (parts : List (Nat × AV)) : List AV → Option (List AV) :=
  lrec (fun c => some c) (fun x _ ih c => ocase (fill1 (place x.1) x.2 c) none ih) parts

def evs (l : List Operand) : (Operand → Option AV) → Option (List AV) :=
  lrec (fun _ => some []) (fun x _ ih ev => ocase (ev x) none fun v => consO v (ih ev)) l
def consP (i : Nat) (v : AV) (l : Option (List (Nat × AV))) : Option (List (Nat × AV)) := ocase l none fun l => some ((i, v) :: l)
def mapOpt (l : List (Nat × Operand)) : (Operand → Option AV) → Option (List (Nat × AV)) :=
  lrec (fun _ => some []) (fun x _ ih ev => ocase (ev x.2) none fun v => consP x.1 v (ih ev)) l

def placesA (fields : List Field) (i : Nat) : Option (Nat × Nat) :=
  match fields[i]? with
  | some f => match sizeA P f.type with | some s => some (f.offset, s) | none => none
  | none => none

def placeOf (t : TypeId) : Option (Nat → Option (Nat × Nat)) :=
  match P.underlying t with
  | some (.struct fields) => bif fields.toList.all (fun f => (P.info? f.type).isSome) then some (placesA P fields.toList) else none
  | some (.array _ elem) => (match sizeA P elem with | some s => some fun i => some (Nat.mul i s, s) | none => none)
  | _ => none
def mkAgg (l : Option (List AV)) : Option AV := ocase l none fun l => some (.agg l)
def buildA (t : TypeId) (parts : List (Nat × AV)) : Option AV :=
  ocase (zeroA P t) none fun z => ocase (placeOf P t) none fun f => mkAgg (fillA f parts z.cells)

def repL (l : List AV) (n : Nat) : List AV := nrec [] (fun _ ih => l ++ ih) n

def slZero (t : TypeId) (len : Nat) : Option (TypeId × Nat × List AV) :=
  match P.underlying t with
  | some (.slice elem) =>
    match sizeA P elem, zeroA P elem with
    | some s, some z => bif Nat.ble (Nat.mul len s) 16777216 && Nat.beq (lenL z.cells) s && Nat.ble 1 s then some (elem, s, repL z.cells len) else none
    | _, _ => none
  | _ => none
def buildSliceA (h : Heap) (t : TypeId) (len : Nat) (parts : List (Nat × AV)) : Option (AV × Heap) :=
  ocase (slZero P t len) none fun z => ocase (fillA (fun i => some (Nat.mul i z.2.1, z.2.1)) parts z.2.2) none fun l =>
    bcase (allOne l) (some (.slice h.next (nat_lit 0) len len, (newCells h z.1 l).2)) none

def structEqF (rec : TypeId → AV → AV → Option Bool) (l : List Field) : List AV → List AV → Option Bool :=
  lrec (fun _ _ => some true) (fun f _ ih a b => bcase (f.name == "_") (ih a b)
    (ocase (partA P f.type a f.offset) none fun x => ocase (partA P f.type b f.offset) none fun y => ocase (rec f.type x y) none fun r => bcase r (ih a b) (some false))) l
def arrEqF (rec : TypeId → AV → AV → Option Bool) (elem : TypeId) (s : Nat) (a b : List AV) (n : Nat) : Nat → Option Bool :=
  nrec (fun _ => some true) (fun _ ih i =>
    ocase (partA P elem a (Nat.mul i s)) none fun x => ocase (partA P elem b (Nat.mul i s)) none fun y => ocase (rec elem x y) none fun r => bcase r (ih (Nat.add i 1)) (some false)) n
def aeq1 (rec : TypeId → AV → AV → Option Bool) (t : TypeId) (x y : AV) : Option Bool :=
    match P.underlying t, x, y with
    | some .bool, .bool a, .bool b => some (a == b)
    | some (.int _), .int k a, .int k' b => bif kbeq k k' then some (Nat.beq a b) else none
    | some .string, .str n a, .str m b => some (seq n a m b)
    | some .string, .sstr l, y => ocase (strL y) none (eqLs l)
    | some .string, x, .sstr m => ocase (strL x) none fun l => eqLs l m
    | some (.int _), .sint k c ts, y => ocase (linOf y) none fun q => bcase (kbeq k q.1) (eqS c ts q.2.1 q.2.2) none
    | some (.int _), x, .sint k c ts => ocase (linOf x) none fun q => bcase (kbeq q.1 k) (eqS q.2.1 q.2.2 c ts) none
    | some (.pointer _), .nilp, .nilp => some true
    | some (.pointer _), .nilp, .ptr _ _ => some false
    | some (.pointer _), .ptr _ _, .nilp => some false
    | some (.interface _), .niliface, .niliface => some true
    | some (.interface _), .niliface, .iface _ _ => some false
    | some (.interface _), .iface _ _, .niliface => some false
    | some (.interface _), .iface tx a, .iface ty b => bif Nat.beq tx ty then (match P.info? tx with | some i => bif i.comparable then rec tx a b else none | none => none) else some false
    | some (.struct fields), .agg a, .agg b => bif P.stoodInHeld t then none else structEqF P rec fields.toList a b
    | some (.array len elem), .agg a, .agg b => match sizeA P elem with | some s => arrEqF P rec elem s a b len 0 | none => none
    | some (.slice _), .nilslice, .nilslice => some true
    | some (.slice _), .nilslice, .slice _ _ _ _ => some false
    | some (.slice _), .slice _ _ _ _, .nilslice => some false
    | some (.slice _), .nilslice, .gslice _ _ _ _ => some false
    | some (.slice _), .gslice _ _ _ _, .nilslice => some false
    | some (.map _ _), .nilmap, .nilmap => some true
    | some (.map _ _), .nilmap, .map _ => some false
    | some (.map _ _), .map _, .nilmap => some false
    | some (.func _ _ _), .nilfunc, .nilfunc => some true
    | some (.func _ _ _), .nilfunc, .func _ _ _ => some false
    | some (.func _ _ _), .func _ _ _, .nilfunc => some false
    | _, _, _ => none
def aeqF (n : Nat) : TypeId → AV → AV → Option Bool := nrec (fun _ _ _ => none) (fun _ ih => aeq1 P ih) n

def keyOk : Nat → TypeId → AV → Bool
  | 0, _, _ => false
  | d + 1, t, v =>
    match P.underlying t, v with
    | some (.int _), .int _ _ => true
    | some .string, .str _ _ => true
    | some .string, .sstr _ => true
    | some .bool, .bool _ => true
    | some (.struct fields), .agg l => fields.toList.all fun f => f.name == "_" || (match partA P f.type l f.offset with | some x => keyOk d f.type x | none => false)
    | some (.array len elem), .agg l => (match sizeA P elem with | some s => (List.range len).all fun i => (match partA P elem l (i * s) with | some x => keyOk d elem x | none => false) | none => false)
    | _, _ => false

def findA (t : TypeId) (k : AV) (es : List AEnt) : Nat → Option (Option (Nat × AEnt)) :=
  lrec (fun _ => some none) (fun e _ ih i => match aeqF P 20 t k e.key with
    | some r => bif r then some (some (i, e)) else ih (Nat.add i 1)
    | none => none) es

def lookupA (h : Heap) (xType : TypeId) (x k : AV) (ok : Bool) : Option AV :=
  match P.underlying xType with
  | some (.map key elem) =>
    bif keyOk P 20 key k then
      match zeroA P elem with
      | some z =>
        let none' : AV := bif ok then .tuple [z, .bool false] else z
        match x with
        | .nilmap => some none'
        | .map b => match h.get b with
          | some (.map es _) => match findA P key k es 0 with
            | some (some (_, e)) => some (bif ok then .tuple [e.val, .bool true] else e.val)
            | some none => some none'
            | none => none
          | _ => none
        | _ => none
      | none => none
    else none
  | _ => none

def modA (f : AEnt → AEnt) (n : Nat) : List AEnt → List AEnt := nrec (fun l => List.casesOn l [] fun e l => f e :: l) (fun _ ih l => List.casesOn l [] fun e l => e :: ih l) n
def remA (n : Nat) : List AEnt → List AEnt := nrec (fun l => List.casesOn l [] fun _ l => l) (fun _ ih l => List.casesOn l [] fun e l => e :: ih l) n

def sameB (x y : AV) : Bool :=
  match x, y with
  | .int k m, .int k' m' => bcase (kbeq k k') (Nat.beq m m') false
  | .sint k c ts, .sint k' c' us => bcase (kbeq k k') (bcase (Nat.beq c c') (beqT ts us) false) false
  | _, _ => false
def sameTx (l : List AV) : List AV → Bool := lrec (fun m => lcase m true fun _ _ => false) (fun a _ ih m => lcase m false fun b m => bcase (sameB a b) (ih m) false) l
def same1 (x y : AV) : Bool :=
  match x, y with
  | .int k m, .int k' m' => bcase (kbeq k k') (Nat.beq m m') false
  | .str n a, .str m b => bcase (Nat.beq n m) (Nat.beq a b) false
  | .bool a, .bool b => a == b
  | .sstr l, .sstr m => sameTx l m
  | _, _ => false
def sameL (l : List AV) : List AV → Bool := lrec (fun m => lcase m true fun _ _ => false) (fun a _ ih m => lcase m false fun b m => bcase (same1 a b) (ih m) false) l
def sameK (x y : AV) : Bool := match x, y with | .agg l, .agg m => sameL l m | _, _ => same1 x y

def mapUpdateA (h : Heap) (mt : TypeId) (x k v : AV) : Option Heap :=
  match P.underlying mt, x with
  | some (.map key _), .map b =>
    bif keyOk P 20 key k then
      match h.get b with
      | some (.map es clock) => match findA P key k es 0 with
        | some (some (i, e)) => bcase (sameK e.key k) (some (h.set b (some (.map (modA (fun e => ⟨k, v, e.born⟩) i es) clock)))) none
        | some none => some (h.set b (some (.map (es ++ [⟨k, v, clock⟩]) (Nat.add clock 1))))
        | none => none
      | _ => none
    else none
  | _, _ => none

def mapEntryA (h : Heap) (mt : TypeId) (x k : AV) : Option (AV × Heap) :=
  match P.underlying mt, x with
  | some (.map key elem), .map b =>
    bif keyOk P 20 key k then
      match h.get b, zeroA P elem with
      | some (.map es clock), some z => match findA P key k es 0 with
        | some (some (i, e)) => bcase (bcase (sameK e.key k) (Nat.ble e.born 1000000) false) (some (.tuple [e.val, .int .i64 e.born], h.set b (some (.map (modA (fun e => ⟨k, e.val, e.born⟩) i es) clock)))) none
        | some none => bcase (Nat.ble clock 1000000) (some (.tuple [z, .int .i64 clock], h.set b (some (.map (es ++ [⟨k, z, clock⟩]) (Nat.add clock 1))))) none
        | none => none
      | _, _ => none
    else none
  | _, _ => none

def idxBorn (born : Nat) (es : List AEnt) : Nat → Option Nat := lrec (fun _ => none) (fun e _ ih i => bif Nat.beq e.born born then some i else ih (Nat.add i 1)) es

def entryStoreA (h : Heap) (x stamp v : AV) : Option Heap :=
  match x, stamp with
  | .map b, .int .i64 m => bif !(isPos .i64 m) then none else
    match h.get b with
    | some (.map es clock) => match idxBorn m es 0 with
      | some i => some (h.set b (some (.map (modA (fun e => ⟨e.key, v, e.born⟩) i es) clock)))
      | none => none
    | _ => none
  | _, _ => none

def deleteA (h : Heap) (mt : TypeId) (x k : AV) : Option Heap :=
  match P.underlying mt with
  | some (.map key _) =>
    bif keyOk P 20 key k then
      match x with
      | .nilmap => some h
      | .map b => match h.get b with
        | some (.map es clock) => match findA P key k es 0 with
          | some (some (i, _)) => some (h.set b (some (.map (remA i es) clock)))
          | some none => some (h.set b (some (.map es clock)))
          | none => none
        | _ => none
      | _ => none
    else none
  | _ => none

def rangeA (h : Heap) (xType : TypeId) (x : AV) : Option (AV × Heap) :=
  match P.underlying xType, x with
  | some .string, .str n bits => some (.ptr h.next 0, h.new (.siter n bits 0))
  | some .string, .sstr l => some (.ptr h.next 0, h.new (.titer l 0))
  | some (.map _ _), .nilmap => some (.ptr h.next 0, h.new (.miter none 0 [] 0))
  | some (.map _ _), .map b => match h.get b with
    | some (.map _ clock) => some (.ptr h.next 0, h.new (.miter (some b) clock [] clock))
    | _ => none
  | _, _ => none

def memN (x : Nat) (l : List Nat) : Bool := lrec false (fun y _ ih => bif Nat.beq x y then true else ih) l
def leftA (seen : List Nat) (es : List AEnt) : List AEnt := lrec [] (fun e _ ih => bif memN e.born seen then ih else e :: ih) es
def allBefore (since : Nat) (es : List AEnt) : Bool := lrec true (fun e _ ih => bif Nat.ble (Nat.add e.born 1) since then ih else false) es
def lenE (es : List AEnt) : Nat := lrec 0 (fun _ _ ih => Nat.add ih 1) es

def nextT (h : Heap) (r : Nat) (l : List AV) (pos : Nat) (a : AV) : OpR :=
  match linOf a with
  | some p => bif kbeq p.1 .u8 && (Nat.ble (Nat.add p.2.1 (maxT p.2.2)) 127 && Nat.ble pos 1000000) then
      (match mkS .i32 p.2.1 p.2.2 with | some v => .val (.tuple [.bool true, .int .i64 pos, v]) (h.set r (some (.titer l (Nat.add pos 1)))) | none => .bad 60)
    else .bad 60
  | none => .bad 60
def nextA (h : Heap) (it : AV) (isString : Bool) : OpR :=
  match it with
  | .ptr r 0 =>
    match h.get r, isString with
    | some (.siter n bits pos), true =>
      bif nle1 pos n then
        let c := sat bits pos
        bif Nat.ble c 127 && Nat.ble pos 1000000 then .val (.tuple [.bool true, .int .i64 pos, .int .i32 c]) (h.set r (some (.siter n bits (Nat.add pos 1))))
        else .bad 60
      else .val (.tuple [.bool false]) h
    | some (.titer l pos), true => (match nthL pos l with | some a => nextT h r l pos a | none => .val (.tuple [.bool false]) h)
    | some (.miter none _ _ _), false => .val (.tuple [.bool false]) h
    | some (.miter (some m) since seen stepped), false =>
      match h.get m with
      | some (.map es clock) =>
        bif allBefore since es && Nat.beq clock since && Nat.beq stepped since then
          match leftA seen es with
          | [] => .val (.tuple [.bool false]) h
          | [e] => .val (.tuple [.bool true, e.key, e.val]) (h.set r (some (.miter (some m) since (seen ++ [e.born]) clock)))
          | left => .ch (lenE left) fun i => match left[i]? with
            | some e => some (.tuple [.bool true, e.key, e.val], h.set r (some (.miter (some m) since (seen ++ [e.born]) clock)))
            | none => none
        else .bad 61
      | _ => .bad 62
    | _, _ => .bad 63
  | _ => .bad 64

def lastN (l : List Nat) : Option Nat := lrec (fun d => d) (fun x _ ih _ => ih (some x)) l none
def findBorn (b : Nat) (es : List AEnt) : Option AEnt := lrec none (fun e _ ih => bif Nat.beq e.born b then some e else ih) es
def entryA (h : Heap) (it : AV) : Option AV :=
  match it with
  | .ptr r 0 => match h.get r with
    | some (.miter (some m) _ seen stepped) => match h.get m, lastN seen with
      | some (.map es clock), some b => bif Nat.beq clock stepped then (match findBorn b es with | some e => some (.tuple [e.key, e.val]) | none => none) else none
      | _, _ => none
    | _ => none
  | _ => none

def bndA (x : Option AV) (dflt y : Nat) : Option Nat :=
  match x with
  | none => some dflt
  | some v => match natOf v with | some i => bif Nat.ble i y then some i else none | none => none

def okMax (hi mx : Option AV) : Bool := match mx, hi with | none, _ => true | some _, some _ => true | some _, none => false
def bnds (lo hi mx : Option AV) (len cap : Nat) : Option (Nat × Nat × Nat) :=
  bcase (okMax hi mx) (ocase (bndA mx cap cap) none fun m => ocase (bndA hi len m) none fun h => ocase (bndA lo (nat_lit 0) h) none fun l => some (l, h, m)) none
def mkSl (b off s : Nat) (q : Nat × Nat × Nat) : AV :=
  bcase (Nat.beq q.2.2 q.1) (.slice b off (Nat.sub q.2.1 q.1) (Nat.sub q.2.2 q.1)) (.slice b (Nat.add off (Nat.mul q.1 s)) (Nat.sub q.2.1 q.1) (Nat.sub q.2.2 q.1))
def mkGs (b off len s : Nat) (q : Nat × Nat × Nat) : AV :=
  bcase (Nat.beq q.1 (nat_lit 0)) (.gslice b off q.2.1 s) (bcase (nle1 q.1 len) (.gslice b (Nat.add off (Nat.mul q.1 s)) (Nat.sub q.2.1 q.1) s) .eslice)
def noMx (mx : Option AV) : Bool := match mx with | none => true | some _ => false
def sliceA (t : TypeId) (x : AV) (lo hi mx : Option AV) : Option AV :=
  match P.underlying t, x with
  | some .string, .str n bits => bcase (noMx mx) (ocase (bnds lo hi none n n) none fun q => some (.str (Nat.sub q.2.1 q.1) (sub bits q.1 q.2.1))) none
  | some .string, .sstr l => bcase (noMx mx) (ocase (bnds lo hi none (lenL l) (lenL l)) none fun q => mkStr (takeL (Nat.sub q.2.1 q.1) (dropL q.1 l))) none
  | some (.slice elem), .slice b off len cap => ocase (sizeA P elem) none fun s => ocase (bnds lo hi mx len cap) none fun q => some (mkSl b off s q)
  | some (.slice elem), .gslice b off len sz => bcase (noMx mx) (ocase (sizeA P elem) none fun s => bcase (Nat.beq s sz) (ocase (bnds lo hi none len len) none fun q => some (mkGs b off len s q)) none) none
  | some (.slice elem), .nilslice => ocase (sizeA P elem) none fun _ => ocase (bnds lo hi mx 0 0) none fun _ => some .nilslice
  | some (.array n elem), .ptr b off => ocase (sizeA P elem) none fun s => ocase (bnds lo hi mx n n) none fun q => some (mkSl b off s q)
  | _, _ => none

def slAddr (s : Nat) (i : Nat) (x : AV) : Option AV :=
  ocase (asSl x) none fun p => bcase (nle1 i p.2.2) (some (.ptr p.1 (Nat.add p.2.1 (Nat.mul i s)))) none
def arrAddr (n s : Nat) (i : Nat) (x : AV) : Option AV :=
  ocase (asPtr x) none fun p => bcase (nle1 i n) (some (.ptr p.1 (Nat.add p.2 (Nat.mul i s)))) none
def indexAddrA (t : TypeId) (x i : AV) : Option AV :=
  ocase (natOf i) none fun i => ocase (slSz P t) (ocase (arrSz P t) none fun a => arrAddr a.1 a.2 i x) fun s => slAddr s i x

def strAt (i : Nat) (x : AV) : Option AV := ocase (asStr x) (ocase (strL x) none (nthL i)) fun p => bcase (nle1 i p.1) (some (.int .u8 (sat p.2 i))) none
def arrAt (t : TypeId) (i : Nat) (x : AV) : Option AV :=
  match P.underlying t with
  | some (.array len elem) => ocase (asAgg x) none fun l => ocase (sizeA P elem) none fun s => bcase (nle1 i len) (partA P elem l (Nat.mul i s)) none
  | _ => none
def indexA (t : TypeId) (x i : AV) : Option AV :=
  ocase (natOf i) none fun i => bcase (isStrT P t) (strAt i x) (arrAt P t i x)


def elemsA (h : Heap) (size : Nat) : AV → Option (Nat × List AV)
  | .slice b off len _ => match h.get b with | some (.cells c _ _ _) => (match getL c (Nat.mul len size) off with | some l => some (len, l) | none => none) | _ => none
  | .gslice b off len sz => bif Nat.beq sz size then (match h.get b with | some (.cells c _ _ _) => (match getL c (Nat.mul len size) off with | some l => some (len, l) | none => none) | _ => none) else none
  | .nilslice => some (0, [])
  | .str n bits => bif Nat.beq size 1 then some (n, bytesL n bits) else none
  | .sstr l => bif Nat.beq size 1 then some (lenL l, l) else none
  | .eslice => some (0, [])
  | _ => none

def t2Ok (t2 : Option TypeId) : Bool := match t2 with | none => true | some u => (match P.underlying u with | some (.int _) => false | some _ => true | none => false)
def appendA (h : Heap) (t : TypeId) (t2 : Option TypeId) (x y : AV) : Option (AV × Heap) :=
  match P.underlying t with
  | some (.slice elem) =>
    match sizeA P elem, P.info? elem, zeroA P elem with
    | some s, some inf, some z =>
      bif Nat.ble 1 s && Nat.beq (lenL z.cells) s && t2Ok P t2 then
      match elemsA h s y with
      | some (n, l) =>
        bif allOne l && Nat.ble n 1000000 && Nat.ble inf.bytes 1000000 then
        match x with
        | .nilslice => bif Nat.beq n 0 then some (.nilslice, h) else
            some (.gslice h.next 0 n s, newGrown h elem l)
        | .slice b off len cap =>
          bif Nat.ble (Nat.add len n) cap then
            (match storeL h b (Nat.add off (Nat.mul len s)) l with | some h' => some (.slice b off (Nat.add len n) cap, h') | none => none)
          else bif Nat.ble (Nat.add len n) 1000000 then
            match h.get b with
            | some (.cells c m _ _) => match getL c (Nat.mul len s) off with
              | some l0 => bif allOne l0 then
                  bif Nat.beq off 0 && Nat.ble m (Nat.mul (Nat.add len n) s) then some (.gslice h.next 0 (Nat.add len n) s, h.new (.cells (setL l (Nat.mul len s) c) (Nat.mul (Nat.add len n) s) elem .gr))
                  else some (.gslice h.next 0 (Nat.add len n) s, newGrown h elem (l0 ++ l))
                else none
              | none => none
            | _ => none
          else none
        | .gslice b off len sz =>
          bif Nat.beq sz s && Nat.ble (Nat.add len n) 1000000 then
            bif Nat.beq n 0 then some (.gslice b off len sz, h) else
            bif Nat.beq off 0 then
              match h.get b with
              | some (.cells c m ty k) =>
                bif !k.ro? && Nat.beq ty elem then
                  (bif Nat.ble m (Nat.mul (Nat.add len n) s) then some (.gslice h.next 0 (Nat.add len n) s, (h.set b none).new (.cells (setL l (Nat.mul len s) c) (Nat.mul (Nat.add len n) s) elem .gr))
                  else match getL c (Nat.mul len s) 0 with
                    | some l0 => some (.gslice h.next 0 (Nat.add len n) s, (h.set b none).new (.cells (setL (l0 ++ l) 0 .e) (Nat.mul (Nat.add len n) s) elem .gr))
                    | none => none)
                else none
              | _ => none
            else none
          else none
        | _ => none
        else none
      | none => none
      else none
    | _, _, _ => none
  | _ => none

def copyS (h : Heap) (b off len s n : Nat) (l : List AV) : Option (AV × Heap) :=
  bcase (Nat.ble n 1000000) (ocase (storeL h b off (takeL (Nat.mul (minN n len) s) l)) none fun h' => some (.int .i64 (minN n len), h')) none
def copyD (h : Heap) (s n : Nat) (l : List AV) (x : AV) : Option (AV × Heap) :=
  match x with
  | .slice b off len _ => copyS h b off len s n l
  | .gslice b off len _ => copyS h b off len s n l
  | .nilslice => some (.int .i64 0, h)
  | _ => none
def copyA (h : Heap) (t : TypeId) (x y : AV) : Option (AV × Heap) :=
  match P.underlying t with
  | some (.slice elem) => ocase (sizeA P elem) none fun s => ocase (elemsA h s y) none fun q => copyD h s q.1 q.2 x
  | _ => none

def makeSliceA (h : Heap) (t : TypeId) (len cap : AV) : Option (AV × Heap) :=
  match P.underlying t, natOf len, natOf cap with
  | some (.slice elem), some l, some c => match P.info? elem, zeroA P elem with
    | some inf, some z =>
      bif Nat.ble l c && Nat.ble c 1000000 && Nat.ble inf.bytes 1000000 && Nat.beq (lenL z.cells) inf.size && allOne z.cells && Nat.ble 1 inf.size then
        some (.slice h.next 0 l c, (newCells h elem (repL z.cells c)).2)
      else none
    | _, _ => none
  | _, _, _ => none

def mkInt (n : Nat) : AV := .int .i64 n
def lenMap (b : Option ABlk) : Option Nat := match b with | some (.map es _) => some (lenE es) | _ => none
def mapLen (h : Heap) (x : AV) : Option Nat := match x with | .nilmap => some 0 | .map b => lenMap (h.get b) | _ => none
def okLen (n : Option Nat) : Option AV := ocase n none fun n => bcase (Nat.ble n (nat_lit 9223372036854775807)) (some (mkInt n)) none
def lenA (h : Heap) (t : TypeId) (x : AV) : Option AV :=
  bcase (isSliceT P t) (okLen (slLen x)) (bcase (isStrT P t) (ocase (asStr x) (ocase (strL x) none fun l => okLen (some (lenL l))) fun p => okLen (some p.1)) (bcase (isMapT P t) (okLen (mapLen h x)) (okLen (arrLen P t))))

def capA (t : TypeId) (x : AV) : Option AV :=
  match P.underlying t, x with
  | some (.slice _), .slice _ _ _ c => okLen (some c)
  | some (.slice _), .nilslice => some (.int .i64 0)
  | _, _ => none

def clearS (h : Heap) (e : TypeId) (b off n : Nat) : Option Heap :=
  bcase (Nat.beq n 0) (some h) (ocase (zeroA P e) none fun z => bcase (Nat.beq (lenL z.cells) 1) (storeL h b off (repL z.cells n)) none)
def clearA (h : Heap) (t : TypeId) (x : AV) : Option Heap :=
  match P.underlying t, x with
  | some (.slice e), .slice b off n _ => clearS P h e b off n
  | some (.slice e), .gslice b off n _ => clearS P h e b off n
  | some (.map _ _), .nilmap => some h
  | some (.map _ _), .map b => match h.get b with | some (.map _ clock) => some (h.set b (some (.map [] clock))) | _ => none
  | _, _ => none

def isConvA (s d : TypeId) : Bool := match P.underlying s, P.underlying d with | some .string, some (.slice _) => true | _, _ => false
def convV (h : Heap) (src dst : TypeId) (x : AV) : Option AV :=
  match P.underlying src, P.underlying dst, x with
  | some (.pointer _), some .unsafePointer, .nilp => some .nilp
  | some (.pointer t), some .unsafePointer, .ptr b off => (match h.get b, sizeA P t with
    | some (.cells _ n _ _), some s => bif Nat.ble (Nat.add off 1) n && Nat.ble 1 s then some (.ptr b off) else none
    | _, _ => none)
  | some .unsafePointer, some (.pointer _), .nilp => some .nilp
  | some .unsafePointer, some (.pointer u), .ptr b off => (match h.get b with
    | some (.cells _ n e k) => bif k.ex? && liesAt P P.depth e (n / P.cellsOf e) off u 1 && (sizeA P u).isSome then some (.ptr b off) else none
    | _ => none)
  | some _, some (.int k), .int k' m => some (.int k (bif isPos k' m then norm k m else code k (sg k' m)))
  | some _, some (.int k), .sint _ c ts => mkS k c ts
  | some _, some .string, .str n b => some (.str n b)
  | some _, some .string, .sstr l => some (.sstr l)
  | some (.slice e), some .string, y => match P.underlying e, elemsA h 1 y with
    | some (.int .u8), some (n, l) => (match y with | .str _ _ => none | .sstr _ => none | _ => mkStr l)
    | _, _ => none
  | _, _, _ => none
def convB (h : Heap) (dst : TypeId) (x : AV) : Option (AV × Heap) :=
  match P.underlying dst, x with
  | some (.slice e), .str n bits => (match P.underlying e with
    | some (.int .u8) => bcase (Nat.ble n 1000000) (some (.gslice h.next 0 n 1, newGrown h e (bytesL n bits))) none
    | _ => none)
  | some (.slice e), .sstr l => (match P.underlying e with
    | some (.int .u8) => bcase (Nat.ble (lenL l) 1000000) (some (.gslice h.next 0 (lenL l) 1, newGrown h e l)) none
    | _ => none)
  | _, _ => none
def convertA (h : Heap) (src dst : TypeId) (x : AV) : Option (AV × Heap) :=
  bcase (isConvA P src dst) (convB P h dst x) (ocase (convV P h src dst x) none fun v => some (v, h))

def unOpA (op : UnOp) (x : AV) : Option AV :=
  match op, x with
  | .neg, .int k m => some (.int k (nsub k 0 m))
  | .neg, .sint k c ts => bcase (nle1 (maxs k) (maxu k)) (some (.sneg k c ts)) none
  | .xor, .int k m => some (.int k (Nat.sub (maxu k) m))
  | .not, .bool b => some (.bool (!b))
  | _, _ => none

def isConstO : Operand → Bool
  | .const _ => true
  | _ => false

def cmpV (op : BinOp) (r : Bool) : Option AV := some (.bool (match op with | .eql => r | _ => !r))
def ptrEq (op : BinOp) (t : TypeId) (o o' : Nat) : Option AV :=
  match P.underlying t with
  | some (.pointer e) => ocase (sizeA P e) none fun s => bcase (Nat.ble (nat_lit 1) s) (cmpV op (Nat.beq o o')) none
  | _ => none
def eqA (op : BinOp) (t : TypeId) (xo yo : Operand) (x y : AV) : Option AV :=
  match x, y with
  | .niliface, .niliface => bcase (isConstO xo || isConstO yo) (ocase (aeqF P 20 t x y) none (cmpV op)) none
  | .agg _, .agg _ => bcase (P.eqGuardType P.depth t) none (ocase (aeqF P 20 t x y) none (cmpV op))
  | .ptr b o, .ptr b' o' => bcase (Nat.beq b b') (ptrEq P op t o o') none
  | _, _ => ocase (aeqF P 20 t x y) none (cmpV op)

def arithS (g : SOp) (e : AV → AV → Option AV) (x y : AV) : Option AV :=
  ocase (asStr x) (e x y) fun a => ocase (asStr y) (e x y) fun b => g a.1 a.2 b.1 b.2
def arith (f : IOp) (g : SOp) (e : AV → AV → Option AV) (x y : AV) : Option AV :=
  ocase (asInt x) (arithS g e x y) fun a => ocase (asInt y) (e x y) fun b => bcase (kbeq a.1 b.1) (f a.1 a.2 b.2) none
def shiftA (f : IntKind → Nat → Nat → Option AV) (x y : AV) : Option AV :=
  ocase (asInt x) none fun a => ocase (natOf y) none fun b => f a.1 a.2 b
def symOr (op : BinOp) (e : AV → AV → Option AV) (x y : AV) : Option AV := bcase (bcase (isSym x) true (isSym y)) (symE op x y) (e x y)
def noE (_ _ : AV) : Option AV := none
def modM (x : AV) : Option (Nat × Nat) :=
  @AV.rec (fun _ => Option (Nat × Nat)) (fun _ => Unit)
    (fun _ _ =>  none)
    (fun _ =>  none)
    (fun _ _ =>  none)
    (fun _ _ =>  none)
    ( none)
    (fun _ _ _ _ =>  none)
    (fun _ _ _ _ =>  none)
    ( none)
    ( none)
    (fun _ =>  none)
    ( none)
    (fun _ _ _ _ _ =>  none)
    ( none)
    (fun _ _ _ =>  none)
    ( none)
    (fun _ _ =>  none)
    (fun _ _ =>  none)
    (fun _ =>  none)
    (fun m r =>  some (m, r))
    (fun _ =>  none)
    (fun _ _ _ =>  none)
    (fun _ _ =>  none)
    (fun _ _ _ =>  none)
    ()
    (fun _ _ _ _ => ())
    x
def modE (x y : AV) : Option AV :=
  ocase (modM x) none fun p => ocase (asInt y) none fun q => bcase (bcase (kbeq q.1 .i64) (bcase (Nat.ble (nat_lit 1) p.1) (bcase (Nat.ble p.1 (nat_lit 255)) (Nat.beq q.2 p.1) false) false) false) (some (.int .i64 p.2)) none
def noS : SOp := fun _ _ _ _ => none
def binOpA (op : BinOp) : TypeId → Operand → Operand → AV → AV → Option AV :=
  @BinOp.rec (fun _ => TypeId → Operand → Operand → AV → AV → Option AV)
    ( fun _ _ _ => arith iAdd sAdd (symE .add))
    ( fun _ _ _ => arith (intOp op) (strOp op) (symE op))
    ( fun _ _ _ => arith (intOp op) (strOp op) (symE op))
    ( fun _ _ _ => arith (intOp op) (strOp op) (symE op))
    ( fun _ _ _ => arith iRem noS (symOr .rem modE))
    ( fun _ _ _ => arith (intOp op) (strOp op) (symE op))
    ( fun _ _ _ => arith (intOp op) (strOp op) (symE op))
    ( fun _ _ _ => arith (intOp op) (strOp op) (symE op))
    ( fun _ _ _ => shiftA iShl)
    ( fun _ _ _ => shiftA iShr)
    ( fun _ _ _ => arith (intOp op) (strOp op) (symE op))
    ( fun t xo yo => arith iEql sEql (symOr .eql (eqA P .eql t xo yo)))
    ( fun t xo yo => arith iNeq sNeq (symOr .neq (eqA P .neq t xo yo)))
    ( fun _ _ _ => arith iLss sLss (symE .lss))
    ( fun _ _ _ => arith iLeq sLeq (symE .leq))
    ( fun _ _ _ => arith iGtr sGtr (symE .gtr))
    ( fun _ _ _ => arith iGeq sGeq (symE .geq))
    op

def typeAssertA (x : AV) (asserted : TypeId) (ok : Bool) : Option AV :=
  match P.underlying asserted with
  | some (.interface _) => none
  | some _ => match x with
    | .iface t v => bif Nat.beq t asserted then some (bif ok then .tuple [v, .bool true] else v)
        else bif ok then (match zeroA P asserted with | some z => some (.tuple [z, .bool false]) | none => none) else none
    | .niliface => bif ok then (match zeroA P asserted with | some z => some (.tuple [z, .bool false]) | none => none) else none
    | _ => none
  | none => none

def fieldAddrA (s : TypeId) (x : AV) (f : Nat) : Option AV :=
  ocase (asPtr x) none fun p => ocase (fieldOff P s f) none fun o => some (.ptr p.1 (Nat.add p.2 o))
def fieldA (s : TypeId) (x : AV) (f : Nat) : Option AV :=
  ocase (asAgg x) none fun l => ocase (fieldPart P s f) none fun p => partA P p.1 l p.2

def okFn (fn : Fn) : Bool := match fn with | .func _ => true | _ => false
def nilCheckA (x : AV) : Option AV :=
  @AV.rec (fun _ => Option AV) (fun _ => Unit)
    (fun _ _ =>  some x)
    (fun _ =>  some x)
    (fun _ _ =>  some x)
    (fun _ _ =>  some x)
    ( none)
    (fun _ _ _ _ =>  some x)
    (fun _ _ _ _ =>  some x)
    ( some x)
    ( some x)
    (fun _ =>  some x)
    ( some x)
    (fun fn _ _ _ _ =>  bcase (okFn fn) (some x) none)
    ( none)
    (fun _ _ _ =>  some x)
    ( none)
    (fun _ _ =>  some x)
    (fun _ _ =>  some x)
    (fun _ =>  some x)
    (fun _ _ =>  some x)
    (fun _ =>  some x)
    (fun _ _ _ =>  some x)
    (fun _ _ =>  some x)
    (fun _ _ _ =>  some x)
    ()
    (fun _ _ _ _ => ())
    x

def ov (h : Heap) (v : Option AV) : OpR := ocase v (.bad 1) fun v => .val v h
def ovh (r : Option (AV × Heap)) : OpR := ocase r (.bad 2) fun r => .val r.1 r.2
def osk (h : Option Heap) : OpR := ocase h (.bad 3) fun h => .skip h

def optEv (ev : Operand → Option AV) : Option Operand → Option (Option AV)
  | none => some none
  | some x => match ev x with | some v => some (some v) | none => none

def ixF (n : Nat) : Nat → Nat → Nat → Nat := nrec (fun _ _ _ => 18446744073709551615) (fun _ ih a c i => bcase (Nat.beq (byte0 a) c) i (ih (shr8 a) c (Nat.add i 1))) n
def cntF (n : Nat) : Nat → Nat → Nat := nrec (fun _ _ => 0) (fun _ ih a c => bcase (Nat.beq (byte0 a) c) (Nat.add (ih (shr8 a) c) 1) (ih (shr8 a) c)) n
def exSame (args : List AV) (h : Heap) : OpR := match args with | [x] => .val x h | _ => .bad 72
def exMake (rts : Array TypeId) (args : List AV) (h : Heap) : OpR :=
  match args with
  | [.int .i64 n] => (match rts.toList with
    | [t] => (match P.underlying t with
      | some (.slice e) => bcase (Nat.ble n 1000000) (.val (.gslice h.next 0 n 1) (h.new (.cells .e 0 e .gr))) (.bad 70)
      | _ => .bad 71)
    | _ => .bad 71)
  | _ => .bad 71
def ixT (c : Nat) (l : List AV) : Nat → Option Nat := lrec (fun _ => some 18446744073709551615) (fun v _ ih i => ocase (eqB v (.int .u8 c)) none fun r => bcase r (some i) (ih (Nat.add i 1))) l
def cntT (c : Nat) (l : List AV) : Option Nat := lrec (some 0) (fun v _ ih => ocase (eqB v (.int .u8 c)) none fun r => ocase ih none fun m => some (bcase r (Nat.add m 1) m)) l
def exIndex (args : List AV) (h : Heap) : OpR :=
  match args with
  | [.str n a, .int .u8 c] => bcase (Nat.ble n 1000000) (.val (.int .i64 (ixF n a c 0)) h) (.bad 73)
  | [.sstr l, .int .u8 c] => bcase (Nat.ble (lenL l) 1000000) (ocase (ixT c l 0) (.bad 73) fun i => .val (.int .i64 i) h) (.bad 73)
  | _ => .bad 73
def exCount (args : List AV) (h : Heap) : OpR :=
  match args with
  | [.str n a, .int .u8 c] => bcase (Nat.ble n 1000000) (.val (.int .i64 (cntF n a c)) h) (.bad 74)
  | [.sstr l, .int .u8 c] => bcase (Nat.ble (lenL l) 1000000) (ocase (cntT c l) (.bad 74) fun i => .val (.int .i64 i) h) (.bad 74)
  | _ => .bad 74
def externA (h : Heap) (fn : Func) (args : List AV) : OpR :=
  bcase (fn.name == "internal/abi.NoEscape") (exSame args h)
  (bcase (fn.name == "internal/bytealg.MakeNoZero") (exMake P fn.resultTypes args h)
  (bcase (fn.name == "internal/bytealg.IndexByteString") (exIndex args h)
  (bcase (fn.name == "internal/bytealg.CountString") (exCount args h) (.bad 75))))

def callB (fn : Func) (h : Heap) (f : FuncId) (args : List AV) : OpR := ocase fn.body (externA P h fn args) fun _ => .enter f args h
def callF (h : Heap) (f : FuncId) (args : List AV) : OpR := ocase (P.funcs[f]?) (.bad 80) fun fn => callB P fn h f args

def biAppend (ts : List TypeId) (args : List AV) (h : Heap) : OpR := match ts, args with | t :: ts, [x, y] => ovh (appendA P h t ts.head? x y) | _, _ => .bad 90
def biLen (ts : List TypeId) (args : List AV) (h : Heap) : OpR := match ts, args with | t :: _, [x] => ov h (lenA P h t x) | _, _ => .bad 90
def biCap (ts : List TypeId) (args : List AV) (h : Heap) : OpR := match ts, args with | t :: _, [x] => ov h (capA P t x) | _, _ => .bad 90
def biCopy (ts : List TypeId) (args : List AV) (h : Heap) : OpR := match ts, args with | t :: _, [x, y] => ovh (copyA P h t x y) | _, _ => .bad 90
def okT (h : Option Heap) : OpR := match h with | some h => .val (.tuple []) h | none => .bad 91
def biDelete (ts : List TypeId) (args : List AV) (h : Heap) : OpR := match ts, args with | t :: _, [x, k] => okT (deleteA P h t x k) | _, _ => .bad 90
def biClear (ts : List TypeId) (args : List AV) (h : Heap) : OpR := match ts, args with | t :: _, [x] => okT (clearA P h t x) | _, _ => .bad 90
def symMin (x y : AV) : Option AV := ocase (linOf x) none fun p => ocase (linOf y) none fun q => bcase (kbeq p.1 q.1) (ocase (ltS q.2.1 q.2.2 p.2.1 p.2.2) none fun r => some (bcase r y x)) none
def symMax (x y : AV) : Option AV := ocase (linOf x) none fun p => ocase (linOf y) (ocase (asNeg y) none fun q => bcase (kbeq p.1 q.1) (some x) none) fun q => bcase (kbeq p.1 q.1) (ocase (ltS p.2.1 p.2.2 q.2.1 q.2.2) none fun r => some (bcase r y x)) none
def minV (args : List AV) : Option AV := match args with | [.int k a, .int k' b] => bif kbeq k k' then some (.int k (bif nlt k b a then b else a)) else none | [x, y] => symMin x y | _ => none
def maxV (args : List AV) : Option AV := match args with | [.int k a, .int k' b] => bif kbeq k k' then some (.int k (bif nlt k a b then b else a)) else none | [x, y] => symMax x y | _ => none
def biMin (args : List AV) (h : Heap) : OpR := ov h (minV args)
def biMax (args : List AV) (h : Heap) : OpR := ov h (maxV args)
def biSliceData (args : List AV) (h : Heap) : OpR :=
  match args with
  | [.slice b off _ c] => bif Nat.ble 1 c then .val (.ptr b off) h else .bad 94
  | [.gslice b off len _] => bif Nat.ble 1 len then .val (.ptr b off) h else .bad 95
  | [.nilslice] => .val .nilp h
  | _ => .bad 90
def strOf (h : Heap) (b : Nat) (v : Option AV) : OpR := ocase v (.bad 96) fun v => .val v (h.set b none)
def strB (h : Heap) (b n : Nat) (c : T AV) : OpR := ocase (getL c n (nat_lit 0)) (.bad 97) fun l => strOf h b (mkStr l)
def strAtE (e : TypeId) (b n : Nat) (h : Heap) : OpR :=
  match h.get b with
  | some (.cells c m e' k) => bcase (!k.ro? && (Nat.beq e e' && Nat.beq (P.cellsOf e) 1) && (Nat.ble n m && Nat.ble 1 n && Nat.ble n 1000000)) (strB h b n c) (.bad 98)
  | _ => .bad 99
def biString (ts : List TypeId) (args : List AV) (h : Heap) : OpR :=
  match ts, args with
  | [_, _], [.nilp, .int .i64 0] => .val (.str 0 0) h
  | [pt, _], [.ptr b 0, .int .i64 n] => (match P.underlying pt with | some (.pointer e) => strAtE P e b n h | _ => .bad 99)
  | _, _ => .bad 90
def builtinF (b : Builtin) : Program → List TypeId → List AV → Heap → OpR :=
  @Builtin.rec (fun _ => Program → List TypeId → List AV → Heap → OpR)
    ( biAppend)
    ( biCap)
    ( biClear)
    ( fun _ _ _ _ => .bad 100)
    ( fun _ _ _ _ => .bad 100)
    ( biCopy)
    ( biDelete)
    ( fun _ _ _ _ => .bad 100)
    ( biLen)
    ( fun _ _ _ _ => .bad 100)
    ( fun _ _ => biMax)
    ( fun _ _ => biMin)
    ( fun _ _ _ _ => .bad 100)
    ( fun _ _ _ _ => .bad 100)
    ( fun _ _ _ _ => .bad 100)
    ( fun _ _ _ _ => .bad 100)
    ( fun _ _ _ _ => .bad 100)
    ( fun _ _ _ _ => .rcv)
    ( fun _ _ _ _ => .bad 100)
    ( fun _ _ _ _ => .bad 100)
    ( fun _ _ => biSliceData)
    ( biString)
    ( fun _ _ _ _ => .bad 100)
    ( fun _ _ _ _ => .bad 100)
    ( fun _ _ _ _ => .bad 100)
    ( fun _ _ _ _ => .bad 100)
    b

def panA (x : AV) (h : Heap) : OpR := match x with | .iface t v => .pan (.iface t v) h | _ => .bad 101

abbrev Ev := Operand → Option AV
abbrev OpF := Program → Ev → Heap → OpR
def o1 (x : Operand) (f : AV → Heap → OpR) (ev : Ev) (h : Heap) : OpR := ocase (ev x) (.bad 10) fun v => f v h
def o2 (x y : Operand) (f : AV → AV → Heap → OpR) (ev : Ev) (h : Heap) : OpR := ocase (ev x) (.bad 12) fun v => ocase (ev y) (.bad 11) fun u => f v u h
def o3 (x y z : Operand) (f : AV → AV → AV → Heap → OpR) (ev : Ev) (h : Heap) : OpR := ocase (ev x) (.bad 13) fun v => o2 y z (f v) ev h

def opMove (x : Operand) (ev : Ev) (h : Heap) : OpR := ocase (ev x) (.bad 14) fun v => .val v h
def opPick (c a b : Operand) (ev : Ev) (h : Heap) : OpR := ocase (ev c) (.bad 15) fun v => ocase (asBool v) (.bad 15) fun t => bcase t (opMove a ev h) (opMove b ev h)
def boxA (t : TypeId) (v : AV) (h : Heap) : OpR := bcase (allOne v.cells) (ovh (some (newCells h t v.cells))) (.bad 16)
def opBuild (t : TypeId) (parts : List (Nat × Operand)) : OpF := fun P ev h => ocase (mapOpt parts ev) (.bad 17) fun l => ov h (buildA P t l)
def opBuildSlice (t : TypeId) (len : Nat) (parts : List (Nat × Operand)) : OpF := fun P ev h => ocase (mapOpt parts ev) (.bad 18) fun l => ovh (buildSliceA P h t len l)
def mkIface (P : Program) (t : TypeId) (v : AV) (h : Heap) : OpR := match P.underlying t with | some (.interface _) => .bad 21 | some _ => .val (.iface t v) h | none => .bad 22
def opMakeFunc (fn : Fn) (fs cs : List Operand) : OpF := fun _ ev h => match evs fs ev with | some a => (match evs cs ev with | some b => .val (.func fn a b) h | none => .bad 23) | none => .bad 24
def newMap (P : Program) (t : TypeId) (h : Heap) : OpR := match P.underlying t with | some (.map _ _) => .val (.map h.next) (h.new (.map [] 0)) | _ => .bad 25
def opMakeMap (t : TypeId) (r : Option Operand) : OpF := fun P ev h => match r with
  | none => newMap P t h
  | some x => (match ev x with | some (.int _ _) => newMap P t h | _ => .bad 26)
def opSlice (t : TypeId) (x : Operand) (lo hi mx : Option Operand) : OpF := fun P ev h =>
  match ev x with
  | some v => (match optEv ev lo with | some a => (match optEv ev hi with | some b => (match optEv ev mx with | some c => ov h (sliceA P t v a b c) | none => .bad 27) | none => .bad 27) | none => .bad 27)
  | none => .bad 27
def opExtract (i : Nat) (v : AV) (h : Heap) : OpR := ocase (asTuple v) (.bad 41) fun l => ov h (nthL i l)
def callV (P : Program) (f : Option AV) (args : List AV) (h : Heap) : OpR := match f with | some (.func (.func g) fs cs) => callF P h g (fs ++ (args ++ cs)) | _ => .bad 44
def dfrV (f : Option AV) (args : List AV) (h : Heap) : OpR := match f with | some (.func (.func g) fs cs) => .dfr g (fs ++ (args ++ cs)) h | _ => .bad 45
def opCall (cal : Callee) (args : List Operand) (ts : List TypeId) : OpF :=
  match cal with
  | .builtin b => fun P ev h => (match evs args ev with | some l => builtinF b P ts l h | none => .bad 42)
  | .invoke _ _ => fun _ _ _ => .bad 43
  | .value f => fun P ev h => (match evs args ev with | some l => callV P (ev f) l h | none => .bad 42)
def opDefer (cal : Callee) (args : List Operand) : OpF :=
  match cal with
  | .value f => fun _ ev h => (match evs args ev with | some l => dfrV (ev f) l h | none => .bad 46)
  | _ => fun _ _ _ => .bad 46

def opF (o : Op) : OpF :=
  @Op.rec (fun _ => OpF)
    (fun x =>  fun _ => opMove x)
    (fun x =>  fun _ => opMove x)
    (fun c a b =>  fun _ => opPick c a b)
    (fun t =>  fun P _ h => ovh (allocA P h t))
    (fun t x =>  fun _ => o1 x (boxA t))
    (fun t parts =>  opBuild t parts.toList)
    (fun t len parts =>  opBuildSlice t len parts.toList)
    (fun t m k x =>  fun P => o3 m k x fun a b c h => osk (mapUpdateA P h t a b c))
    (fun t a =>  fun P => o1 a fun p h => ov h (loadA P h t p))
    (fun t a x =>  fun P => o2 a x fun p v h => osk (storeA P h t p v))
    (fun _ =>  fun _ _ _ => .bad 48)
    (fun _ =>  fun _ _ _ => .bad 48)
    (fun x =>  fun _ => o1 x fun v h => ov h (nilCheckA v))
    (fun op t x y _ =>  fun P => o2 x y fun a b h => ov h (binOpA P op t x y a b))
    (fun op _ x =>  fun _ => o1 x fun v h => ov h (unOpA op v))
    (fun s d x =>  fun P => o1 x fun v h => ovh (convertA P h s d v))
    (fun _ _ =>  fun _ _ _ => .bad 48)
    (fun t x =>  fun P => o1 x (mkIface P t))
    (fun fn fs cs =>  opMakeFunc fn fs.toList cs.toList)
    (fun t r =>  opMakeMap t r)
    (fun _ _ =>  fun _ _ _ => .bad 48)
    (fun t l c =>  fun P => o2 l c fun a b h => ovh (makeSliceA P h t a b))
    (fun t x lo hi mx =>  opSlice t x lo hi mx)
    (fun t x f =>  fun P => o1 x fun v h => ov h (fieldAddrA P t v f))
    (fun t x f =>  fun P => o1 x fun v h => ov h (fieldA P t v f))
    (fun t x i =>  fun P => o2 x i fun a b h => ov h (indexAddrA P t a b))
    (fun t x i =>  fun P => o2 x i fun a b h => ov h (indexA P t a b))
    (fun t x i ok =>  fun P => o2 x i fun a b h => ov h (lookupA P h t a b ok))
    (fun t m k x =>  fun P => o3 m k x fun a b c h => osk (mapUpdateA P h t a b c))
    (fun t m k =>  fun P => o2 m k fun a b h => ovh (mapEntryA P h t a b))
    (fun _ m s x =>  fun _ => o3 m s x fun a b c h => osk (entryStoreA h a b c))
    (fun t x =>  fun P => o1 x fun v h => ovh (rangeA P h t v))
    (fun it s =>  fun _ => o1 it fun v h => nextA h v s)
    (fun it =>  fun _ => o1 it fun v h => ov h (entryA h v))
    (fun x _ t ok =>  fun P => o1 x fun v h => ov h (typeAssertA P v t ok))
    (fun t i =>  fun _ => o1 t (opExtract i))
    (fun c =>  opCall c.callee c.args.toList c.argTypes.toList)
    (fun _ =>  fun _ _ _ => .bad 48)
    (fun c =>  opDefer c.callee c.args.toList)
    (fun x =>  fun _ => o1 x panA)
    (fun _ _ =>  fun _ _ _ => .bad 48)
    (fun _ _ _ =>  fun _ _ _ => .bad 48)
    (fun _ _ =>  fun _ _ _ => .bad 48)
    o
end
end
end Go.Ev
