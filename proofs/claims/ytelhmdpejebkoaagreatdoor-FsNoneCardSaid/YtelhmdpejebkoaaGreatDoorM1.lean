import GoSem.Core.World
import GoSem.Core.View
import GoSem.Core.Layout
import GoSem.Core.Region
import GoSem.Op.Equal
import Derived.Laws.IdiomCopy
import Derived.Deep.MidRow
import Derived.Laws.Entries
import Derived.Laws.Strings
import Derived.ChangeKeysEq
import Derived.Laws.BytesString
set_option linter.unusedVariables false
set_option linter.unusedSimpArgs false

/-
  The data of a deterministic machine for a part of Go: paths, tries, ropes, values, heaps. Conditions: none (definitions and their plain laws).
-/
namespace Go.AM
noncomputable section

/-! ## Digits and paths (slots of a frame, numbers of functions) -/
inductive D where
  | a | b | c | d | e | f | g | h
  deriving DecidableEq, Inhabited

def D.n : D → Nat
  | .a => 0 | .b => 1 | .c => 2 | .d => 3 | .e => 4 | .f => 5 | .g => 6 | .h => 7

inductive P3 where
  | mk (x y z : D)
  deriving DecidableEq, Inhabited

def P3.n : P3 → Nat
  | .mk x y z => x.n * 64 + y.n * 8 + z.n

def D.of : Nat → D
  | 0 => .a | 1 => .b | 2 => .c | 3 => .d | 4 => .e | 5 => .f | 6 => .g | _ => .h

/-- Numbers of functions. -/
inductive P4 where
  | mk (w : D) (p : P3)
  deriving DecidableEq, Inhabited

def P4.n : P4 → Nat
  | .mk w p => w.n * 512 + p.n

def P3.of (n : Nat) : P3 := .mk (.of (n / 64)) (.of (n / 8 % 8)) (.of (n % 8))

def P4.of (n : Nat) : P4 := .mk (.of (n / 512)) (.of (n % 512))

/-! ## Nodes of eight, three deep: a frame's slots -/
inductive N8 (α : Type) where
  | mk (a b c d e f g h : α)

section
variable {α β : Type}

def N8.ga (x : N8 α) (k : α → β) : β := N8.casesOn x fun v _ _ _ _ _ _ _ => k v
def N8.gb (x : N8 α) (k : α → β) : β := N8.casesOn x fun _ v _ _ _ _ _ _ => k v
def N8.gc (x : N8 α) (k : α → β) : β := N8.casesOn x fun _ _ v _ _ _ _ _ => k v
def N8.gd (x : N8 α) (k : α → β) : β := N8.casesOn x fun _ _ _ v _ _ _ _ => k v
def N8.ge (x : N8 α) (k : α → β) : β := N8.casesOn x fun _ _ _ _ v _ _ _ => k v
def N8.gf (x : N8 α) (k : α → β) : β := N8.casesOn x fun _ _ _ _ _ v _ _ => k v
def N8.gg (x : N8 α) (k : α → β) : β := N8.casesOn x fun _ _ _ _ _ _ v _ => k v
def N8.gh (x : N8 α) (k : α → β) : β := N8.casesOn x fun _ _ _ _ _ _ _ v => k v
def N8.getK (x : N8 α) (i : D) (k : α → β) : β := (D.casesOn (motive := fun _ => N8 α → (α → β) → β) i N8.ga N8.gb N8.gc N8.gd N8.ge N8.gf N8.gg N8.gh) x k

def N8.sa (x : N8 α) (v : α) (k : N8 α → β) : β := N8.casesOn x fun _ x1 x2 x3 x4 x5 x6 x7 => k (.mk v x1 x2 x3 x4 x5 x6 x7)
def N8.sb (x : N8 α) (v : α) (k : N8 α → β) : β := N8.casesOn x fun x0 _ x2 x3 x4 x5 x6 x7 => k (.mk x0 v x2 x3 x4 x5 x6 x7)
def N8.sc (x : N8 α) (v : α) (k : N8 α → β) : β := N8.casesOn x fun x0 x1 _ x3 x4 x5 x6 x7 => k (.mk x0 x1 v x3 x4 x5 x6 x7)
def N8.sd (x : N8 α) (v : α) (k : N8 α → β) : β := N8.casesOn x fun x0 x1 x2 _ x4 x5 x6 x7 => k (.mk x0 x1 x2 v x4 x5 x6 x7)
def N8.se (x : N8 α) (v : α) (k : N8 α → β) : β := N8.casesOn x fun x0 x1 x2 x3 _ x5 x6 x7 => k (.mk x0 x1 x2 x3 v x5 x6 x7)
def N8.sf (x : N8 α) (v : α) (k : N8 α → β) : β := N8.casesOn x fun x0 x1 x2 x3 x4 _ x6 x7 => k (.mk x0 x1 x2 x3 x4 v x6 x7)
def N8.sg (x : N8 α) (v : α) (k : N8 α → β) : β := N8.casesOn x fun x0 x1 x2 x3 x4 x5 _ x7 => k (.mk x0 x1 x2 x3 x4 x5 v x7)
def N8.sh (x : N8 α) (v : α) (k : N8 α → β) : β := N8.casesOn x fun x0 x1 x2 x3 x4 x5 x6 _ => k (.mk x0 x1 x2 x3 x4 x5 x6 v)
def N8.setK (x : N8 α) (i : D) (v : α) (k : N8 α → β) : β := (D.casesOn (motive := fun _ => N8 α → α → (N8 α → β) → β) i N8.sa N8.sb N8.sc N8.sd N8.se N8.sf N8.sg N8.sh) x v k

def N8.all (v : α) : N8 α := .mk v v v v v v v v

abbrev T8 (α : Type) := N8 (N8 (N8 α))

def T8.getG (x y z : D) (t : T8 α) (k : α → β) : β := N8.getK t x fun t1 => N8.getK t1 y fun t2 => N8.getK t2 z k
def T8.getK (t : T8 α) (p : P3) (k : α → β) : β := (P3.casesOn (motive := fun _ => T8 α → (α → β) → β) p T8.getG) t k

def T8.setG (x y z : D) (t : T8 α) (v : α) (k : T8 α → β) : β :=
  N8.getK t x fun t1 => N8.getK t1 y fun t2 => N8.setK t2 z v fun t2 => N8.setK t1 y t2 fun t1 => N8.setK t x t1 k
def T8.setK (t : T8 α) (p : P3) (v : α) (k : T8 α → β) : β := (P3.casesOn (motive := fun _ => T8 α → α → (T8 α → β) → β) p T8.setG) t v k

def F8.getK (t : N8 (T8 α)) (p : P4) (k : α → β) : β :=
  P4.casesOn p fun w p => N8.getK t w fun t => T8.getK t p k

def T8.all (v : α) : T8 α := N8.all (N8.all (N8.all v))

/-! ## Numbers of blocks, digits of four, the least first -/
end

inductive Id where
  | z
  | q0 (p : Id)
  | q1 (p : Id)
  | q2 (p : Id)
  | q3 (p : Id)
  deriving DecidableEq, Inhabited

def Id.val : Id → Nat
  | .z => 0
  | .q0 p => 4 * p.val
  | .q1 p => 4 * p.val + 1
  | .q2 p => 4 * p.val + 2
  | .q3 p => 4 * p.val + 3

section
variable {α β : Type}

def Id.succK (i : Id) : (Id → β) → β :=
  Id.rec (motive := fun _ => (Id → β) → β) (fun k => k (.q1 .z)) (fun p _ k => k (.q1 p)) (fun p _ k => k (.q2 p)) (fun p _ k => k (.q3 p))
    (fun _ ih k => ih fun p => k (.q0 p)) i

def Id.same (i : Id) : Id → Bool :=
  Id.rec (motive := fun _ => Id → Bool) (fun j => Id.casesOn j true (fun _ => false) (fun _ => false) (fun _ => false) (fun _ => false))
    (fun _ ih j => Id.casesOn j false (fun q => ih q) (fun _ => false) (fun _ => false) (fun _ => false))
    (fun _ ih j => Id.casesOn j false (fun _ => false) (fun q => ih q) (fun _ => false) (fun _ => false))
    (fun _ ih j => Id.casesOn j false (fun _ => false) (fun _ => false) (fun q => ih q) (fun _ => false))
    (fun _ ih j => Id.casesOn j false (fun _ => false) (fun _ => false) (fun _ => false) (fun q => ih q)) i

/-- A trie by such numbers. -/
inductive HT (α : Type) where
  | e
  | n (v : Option α) (c0 c1 c2 c3 : HT α)

def HT.get (i : Id) : HT α → Option α :=
  Id.rec (motive := fun _ => HT α → Option α)
    (fun t => HT.casesOn t none fun v _ _ _ _ => v)
    (fun _ ih t => HT.casesOn t none fun _ c _ _ _ => ih c)
    (fun _ ih t => HT.casesOn t none fun _ _ c _ _ => ih c)
    (fun _ ih t => HT.casesOn t none fun _ _ _ c _ => ih c)
    (fun _ ih t => HT.casesOn t none fun _ _ _ _ c => ih c) i

def HT.setK (x : Option α) (i : Id) : HT α → (HT α → β) → β :=
  Id.rec (motive := fun _ => HT α → (HT α → β) → β)
    (fun t k => HT.casesOn t (k (.n x .e .e .e .e)) fun _ a b c d => k (.n x a b c d))
    (fun _ ih t k => HT.casesOn t (ih .e fun r => k (.n none r .e .e .e)) fun v a b c d => ih a fun r => k (.n v r b c d))
    (fun _ ih t k => HT.casesOn t (ih .e fun r => k (.n none .e r .e .e)) fun v a b c d => ih b fun r => k (.n v a r c d))
    (fun _ ih t k => HT.casesOn t (ih .e fun r => k (.n none .e .e r .e)) fun v a b c d => ih c fun r => k (.n v a b r d))
    (fun _ ih t k => HT.casesOn t (ih .e fun r => k (.n none .e .e .e r)) fun v a b c d => ih d fun r => k (.n v a b c r)) i

/-! ## Forcing -/
def forceN (n : Nat) (k : Nat → β) : β := Nat.rec (k 0) (fun m _ => k (Nat.succ m)) n

def forceI (i : Int) (k : Int → β) : β := Int.casesOn i (fun n => forceN n fun n => k (Int.ofNat n)) (fun n => forceN n fun n => k (Int.negSucc n))

def forceL (l : List α) (k : List α → β) : β :=
  List.rec (motive := fun _ => (List α → β) → β) (fun k => k []) (fun x _ ih k => ih fun r => k (x :: r)) l k

def nth (l : List α) : Nat → Option α :=
  List.rec (motive := fun _ => Nat → Option α) (fun _ => none) (fun x _ ih i => Nat.rec (some x) (fun m _ => ih m) i) l

/-- 'List.drop', then 'List.take'. -/
def dropK (l : List α) : Nat → List α :=
  List.rec (motive := fun _ => Nat → List α) (fun _ => []) (fun x r ih i => Nat.rec (x :: r) (fun m _ => ih m) i) l

def takeK (l : List α) : Nat → List α :=
  List.rec (motive := fun _ => Nat → List α) (fun _ => []) (fun x _ ih i => Nat.rec [] (fun m _ => x :: ih m) i) l

/-- A list with another one laid over it from a place on (what reaches beyond is lost). -/
def over (l : List α) : Nat → List α → List α :=
  List.rec (motive := fun _ => Nat → List α → List α) (fun _ _ => [])
    (fun x r ih i ys => Nat.rec (List.casesOn ys (x :: r) fun y ys => y :: ih 0 ys) (fun m _ => x :: ih m ys) i) l

/-! ## Ropes -/
inductive Rope (α : Type) where
  | l (xs : List α)
  | n (k : Nat) (a b : Rope α)

def Rope.get (r : Rope α) : Nat → Option α :=
  Rope.rec (motive := fun _ => Nat → Option α) (fun xs i => nth xs i)
    (fun k _ _ iha ihb i => bif Nat.ble k i then forceN (Nat.sub i k) ihb else iha i) r

/-- The cells from a place on, so many, ahead of a list. -/
def Rope.read (r : Rope α) : Nat → Nat → List α :=
  Rope.rec (motive := fun _ => Nat → Nat → List α) (fun xs i m => takeK (dropK xs i) m)
    (fun k _ _ iha ihb i m => bif Nat.ble k i then forceN (Nat.sub i k) fun j => ihb j m
      else bif Nat.ble (Nat.add i m) k then iha i m
      else List.append (iha i (Nat.sub k i)) (forceN (Nat.sub m (Nat.sub k i)) fun m' => ihb 0 m')) r

/-- A list laid over a rope, from a place on. 'm': its length. -/
def Rope.writeK (r : Rope α) : Nat → Nat → List α → (Rope α → β) → β :=
  Rope.rec (motive := fun _ => Nat → Nat → List α → (Rope α → β) → β) (fun xs i _ ys k => forceL (over xs i ys) fun l => k (.l l))
    (fun n a b iha ihb i m ys k => bif Nat.ble n i then forceN (Nat.sub i n) fun j => ihb j m ys fun b' => k (.n n a b')
      else bif Nat.ble (Nat.add i m) n then iha i m ys fun a' => k (.n n a' b)
      else forceN (Nat.sub n i) fun p => iha i p (takeK ys p) fun a' => forceN (Nat.sub m p) fun q => ihb 0 q (dropK ys p) fun b' => k (.n n a' b')) r

def Rope.toList : Rope α → List α
  | .l xs => xs
  | .n _ a b => a.toList ++ b.toList

def Rope.ok : Rope α → Prop
  | .l _ => True
  | .n k a b => a.ok ∧ b.ok ∧ k = a.toList.length

end
end
end Go.AM

/-
  The deterministic machine: values, heaps, operations, statements, and how they are run. Conditions: none (definitions).
-/
namespace Go.AM
noncomputable section

/-- A slice's capacity: a number, or unknown; then the cells of an element. -/
inductive Cap where
  | k (n : Nat)
  | u (sz : Nat)
  deriving Inhabited

/-- A cell's value. Strings are lists of bytes; a pointer is a block's number and a place in it; a slice's capacity may be unknown. -/
inductive Sc where
  | b (x : Bool)
  | i (k : IntKind) (n : Int)
  | s (l : List Nat)
  | p0
  | p (r : Id) (off : Nat)
  | s0
  | sl (r : Id) (off len : Nat) (cap : Cap)
  | m0
  | m (r : Id)
  | f0
  | f (fn : P4) (fs cs : List (Id × Nat))
  | y (r : Id)
  deriving Inhabited

/-- A variable's value: one cell, or several; nothing ('undef' is the empty tuple), or several results. -/
inductive AV where
  | c (x : Sc)
  | g (l : List Sc)
  | t (l : List AV)
  deriving Inhabited

def AV.cells : AV → List Sc
  | .c x => [x]
  | .g l => l
  | .t _ => []

abbrev Tm := T8 AV

inductive Opd where
  | t (p : P3)
  | k (v : AV)
  deriving Inhabited

/-- How a statement is left. -/
inductive Ex where
  | nor
  | exit (id : Nat)
  | ret
  deriving DecidableEq, Inhabited

/-! ## Operations -/
/-- What is compared by '==', where the type must be known. -/
inductive EqK where
  | b | p | s | m | f
  deriving DecidableEq, Inhabited

/-- Which cells a type has, where '==' compares all of them, one by one. -/
inductive CK where
  | b | i | s
  deriving DecidableEq, Inhabited

/-- Those that look at their operands alone. -/
inductive POp where
  | mv (x : Opd)
  | pick (c a b : Opd)
  | bin (op : BinOp) (x y : Opd)
  | eqx (neg : Bool) (q : EqK) (x y : Opd)
  | eqa (neg : Bool) (ks : List (Nat × CK)) (x y : Opd)
  | un (op : UnOp) (x : Opd)
  | cvt (k : IntKind) (x : Opd)
  | fa (off : Nat) (x : Opd)
  | iar (n sz : Nat) (x i : Opd)
  | isl (sz : Nat) (x i : Opd)
  | ixa (n sz : Nat) (agg : Bool) (x i : Opd)
  | ixs (x i : Opd)
  | fld (off n : Nat) (agg : Bool) (x : Opd)
  | sls (x : Opd) (lo hi : Option Opd)
  | slc (sz : Nat) (x : Opd) (lo hi mx : Option Opd)
  | sla (n sz : Nat) (x : Opd) (lo hi mx : Option Opd)
  | ext (i : Nat) (x : Opd)
  | nil (x : Opd)
  | bld (z : List (Nat × Sc)) (ps : List (Nat × Nat × Opd))
  | len (str : Bool) (x : Opd)
  | cap (x : Opd)
  | mm (max : Bool) (xs : List Opd)
  | mkf (f : P4) (fs cs : List Opd)
  deriving Inhabited

/-- Those that read memory, and leave it. -/
inductive ROp where
  | ld (x : Opd)
  | lda (n : Nat) (x : Opd)
  | lkp (ka : Bool) (ks : List (Nat × CK)) (z : AV) (ok : Bool) (m k : Opd)
  | mlen (x : Opd)
  | b2s (x : Opd)
  | usp (x : Opd)
  deriving Inhabited

/-- Those that make memory. -/
inductive AOp where
  | new (z : List (Nat × Sc))
  | box (x : Opd)
  | bls (z : List (Nat × Sc)) (len : Nat) (ps : List (Nat × Nat × Opd))
  | mks (sz bytes : Nat) (z : List Sc) (l c : Opd)
  | mkm
  | s2b (x : Opd)
  deriving Inhabited

/-- Functions without a body. -/
inductive Xt where
  | nop
  | nop1
  | aload (k : IntKind)
  | astore
  | aadd (k : IntKind)
  | aswap (k : IntKind)
  | acas (k : IntKind)
  | ixb
  deriving Inhabited

/-- Those that act. -/
inductive EOp where
  | st (n : Nat) (x v : Opd)
  | call (f : P4) (xs : List Opd)
  | cv (f : Opd) (xs : List Opd)
  | app (sz bytes : Nat) (s x : Opd)
  | cpy (sz : Nat) (d s : Opd)
  | mup (ka : Bool) (ks : List (Nat × CK)) (m k x : Opd)
  | mnew (ka : Bool) (ks : List (Nat × CK)) (m k x : Opd)
  | del (ka : Bool) (ks : List (Nat × CK)) (m k : Opd)
  | mclr (m : Opd)
  | sclr (z : List Sc) (x : Opd)
  | xt (x : Xt) (xs : List Opd)
  | dfr (f : Opd) (xs : List Opd)
  deriving Inhabited

inductive XOp where
  | bad
  | p (o : POp)
  | r (o : ROp)
  | a (o : AOp)
  | e (o : EOp)
  deriving Inhabited

/-- What stands in a region: an operation, its slot, its guard; or one that is looked at again; or a number that is kept for a block, and what is made there. -/
inductive It where
  | o (dst : P3) (op : XOp)
  | o' (op : XOp)
  | g (c : P3) (want : Bool) (dst : P3) (op : XOp)
  | g' (c : P3) (want : Bool) (op : XOp)
  | chk (dst : P3) (op : ROp)
  | gchk (c : P3) (want : Bool) (dst : P3) (op : ROp)
  | rs (dst : P3)
  | al (dst : P3) (op : AOp)
  | gal (c : P3) (want : Bool) (dst : P3) (op : AOp)
  deriving Inhabited

inductive St where
  | skip
  | reg (l : List It)
  | seq (x y : St)
  | cond (c : Opd) (x y : St)
  | block (id : Nat) (x : St)
  | loop (x : St)
  | exit (id : Nat)
  | ret
  | rf (f : Opd) (ps : List P3) (x y : St)
  | bad
  deriving Inhabited

/-- What is put off to a function's end. -/
inductive Df where
  | call (f : P4) (xs : List AV)
  | coll (r : Id)
  deriving Inhabited

inductive Rs where
  | t (p : P3)
  | ld (p : P3)
  | lda (n : Nat) (p : P3)
  deriving Inhabited

inductive LS where
  | ready | busy | done | exhausted
  deriving DecidableEq, Inhabited

/-- A block. -/
inductive Blk where
  | cells (w : Bool) (r : Rope Sc)
  | mp (es : List (AV × AV)) (ck : Nat)
  | lp (s : LS) (pend : Option Ex) (tm : Tm) (ps : List P3) (x y : St)
  | dfr (open_ : Bool)

structure Hp where
  next : Id
  t : HT Blk

/-- What an operation comes to. -/
inductive RV where
  | ok (v : AV) (h : Hp)
  | dfr (d : Df) (h : Hp)
  | no

inductive RI where
  | ok (tm : Tm) (ds : List Df) (h : Hp)
  | no

inductive RS where
  | ok (e : Ex) (tm : Tm) (ds : List Df) (h : Hp)
  | no

/-- A function: with a body, or as a summary. -/
inductive AFn where
  | fn (params : List P3) (results : List Rs) (body : St)
  | orc (run : List AV → Hp → RV)

abbrev FT := N8 (T8 (Option AFn))

/-! ## Values -/
def Opd.get (x : Opd) (tm : Tm) : AV := Opd.casesOn x (fun p => T8.getK tm p fun v => v) (fun v => v)

def inPos (k : IntKind) (m : Nat) : Bool :=
  match k with
  | .i8 => Nat.ble m 127 | .i16 => Nat.ble m 32767 | .i32 => Nat.ble m 2147483647 | .i64 => Nat.ble m 9223372036854775807
  | .u8 => Nat.ble m 255 | .u16 => Nat.ble m 65535 | .u32 => Nat.ble m 4294967295 | .u64 => Nat.ble m 18446744073709551615

def inNeg (k : IntKind) (m : Nat) : Bool :=
  match k with
  | .i8 => Nat.ble m 127 | .i16 => Nat.ble m 32767 | .i32 => Nat.ble m 2147483647 | .i64 => Nat.ble m 9223372036854775807
  | _ => false

def inK (k : IntKind) (n : Int) : Bool :=
  match n with
  | .ofNat m => inPos k m
  | .negSucc m => inNeg k m

/-- Results in a kind's range stay; others are wrapped. -/
def mkInt (k : IntKind) (n : Int) : Sc := forceI n fun n => bif inK k n then .i k n else forceI (k.wrap n) fun r => .i k r

def sameL : List Nat → List Nat → Bool
  | [], [] => true
  | x :: a, y :: b => bif Nat.beq x y then sameL a b else false
  | _, _ => false

def lessL : List Nat → List Nat → Bool
  | _, [] => false
  | [], _ :: _ => true
  | x :: a, y :: b => bif Nat.ble y x then (bif Nat.beq x y then lessL a b else false) else true

def intEq : Int → Int → Bool
  | .ofNat a, .ofNat b => Nat.beq a b
  | .negSucc a, .negSucc b => Nat.beq a b
  | _, _ => false

def intLe : Int → Int → Bool
  | .ofNat a, .ofNat b => Nat.ble a b
  | .negSucc a, .negSucc b => Nat.ble b a
  | .negSucc _, .ofNat _ => true
  | .ofNat _, .negSucc _ => false

def kindEq : IntKind → IntKind → Bool
  | .i8, .i8 | .i16, .i16 | .i32, .i32 | .i64, .i64 | .u8, .u8 | .u16, .u16 | .u32, .u32 | .u64, .u64 => true
  | _, _ => false

def boolEq : Bool → Bool → Bool
  | true, true | false, false => true
  | _, _ => false

/-- Are two cells the same, for '==' of what bears no pointer? -/
def cellEq : Sc → Sc → Option Bool
  | .b x, .b y => some (boolEq x y)
  | .i k x, .i j y => bif kindEq k j then some (intEq x y) else none
  | .s x, .s y => some (sameL x y)
  | _, _ => none

def cellsEq : List Sc → List Sc → Option Bool
  | [], [] => some true
  | x :: a, y :: b => match cellEq x y, cellsEq a b with
    | some p, some q => some (bif p then q else false)
    | _, _ => none
  | _, _ => none

def ckOk : CK → Sc → Bool
  | .b, .b _ => true
  | .i, .i _ _ => true
  | .s, .s _ => true
  | _, _ => false

/-- Have some cells the kinds that they should? -/
def cksOk : List CK → List Sc → Bool
  | [], [] => true
  | k :: ks, x :: l => bif ckOk k x then cksOk ks l else false
  | _, _ => false

/-- Are two cells the same in every respect? (For what is looked at again.) -/
def cellIs : Sc → Sc → Bool
  | .b x, .b y => boolEq x y
  | .i k x, .i j y => bif kindEq k j then intEq x y else false
  | .s x, .s y => sameL x y
  | .p0, .p0 => true
  | .p r o, .p q u => bif r.same q then Nat.beq o u else false
  | .s0, .s0 => true
  | .sl r o n c, .sl q u m d => bif r.same q then bif Nat.beq o u then bif Nat.beq n m then (match c, d with | .u c, .u d => Nat.beq c d | .k c, .k d => Nat.beq c d | _, _ => false) else false else false else false
  | .m0, .m0 => true
  | .m r, .m q => r.same q
  | .f0, .f0 => true
  | _, _ => false

def cellsAre : List Sc → List Sc → Bool
  | [], [] => true
  | x :: a, y :: b => bif cellIs x y then cellsAre a b else false
  | _, _ => false

def avIs : AV → AV → Bool
  | .c x, .c y => cellIs x y
  | .g a, .g b => cellsAre a b
  | .t [], .t [] => true
  | .t [x, .c (.b p)], .t [y, .c (.b q)] => bif boolEq p q then (match x, y with | .c x, .c y => cellIs x y | .g a, .g b => cellsAre a b | _, _ => false) else false
  | _, _ => false

/-! ## Operations, run -/
def bitsOf (k : IntKind) (n : Int) : Nat := (n % (2 ^ k.bits : Int)).toNat

def iAdd (k : IntKind) (x y : Int) : Option Sc := some (mkInt k (Int.add x y))
def iSub (k : IntKind) (x y : Int) : Option Sc := some (mkInt k (Int.sub x y))
def iMul (k : IntKind) (x y : Int) : Option Sc := some (mkInt k (Int.mul x y))
def iQuo (k : IntKind) (x y : Int) : Option Sc := bif intEq y (.ofNat 0) then none else some (mkInt k (Int.tdiv x y))
def iRem (k : IntKind) (x y : Int) : Option Sc := bif intEq y (.ofNat 0) then none else forceI (Int.tmod x y) fun r => some (.i k r)
def iAnd (k : IntKind) (x y : Int) : Option Sc := some (mkInt k (Int.ofNat (Nat.land (bitsOf k x) (bitsOf k y))))
def iOr (k : IntKind) (x y : Int) : Option Sc := some (mkInt k (Int.ofNat (Nat.lor (bitsOf k x) (bitsOf k y))))
def iXor (k : IntKind) (x y : Int) : Option Sc := some (mkInt k (Int.ofNat (Nat.xor (bitsOf k x) (bitsOf k y))))
def iAndNot (k : IntKind) (x y : Int) : Option Sc := some (mkInt k (Int.ofNat (Nat.land (bitsOf k x) (Nat.xor (bitsOf k y) (Nat.sub (Nat.pow 2 k.bits) 1)))))
def iNo (_ : IntKind) (_ _ : Int) : Option Sc := none
def iBool (t : Bool) : Option Sc := Bool.casesOn t (some (.b false)) (some (.b true))
def iEql (_ : IntKind) (x y : Int) : Option Sc := iBool (intEq x y)
def iNeq (_ : IntKind) (x y : Int) : Option Sc := iBool (not (intEq x y))
def iLss (_ : IntKind) (x y : Int) : Option Sc := iBool (not (intLe y x))
def iLeq (_ : IntKind) (x y : Int) : Option Sc := iBool (intLe x y)
def iGtr (_ : IntKind) (x y : Int) : Option Sc := iBool (not (intLe x y))
def iGeq (_ : IntKind) (x y : Int) : Option Sc := iBool (intLe y x)

def binI (op : BinOp) (k : IntKind) (x y : Int) : Option Sc :=
  (BinOp.casesOn (motive := fun _ => IntKind → Int → Int → Option Sc) op iAdd iSub iMul iQuo iRem iAnd iOr iXor iNo iNo iAndNot iEql iNeq iLss iLeq iGtr iGeq) k x y

def binSh (left : Bool) (k : IntKind) (x y : Int) : Option Sc :=
  match y with
  | .ofNat n => forceN (Nat.min n k.bits) fun n => bif left then some (mkInt k (Int.mul x (Int.ofNat (Nat.pow 2 n)))) else forceI (Int.fdiv x (Int.ofNat (Nat.pow 2 n))) fun r => some (.i k r)
  | .negSucc _ => none

def binS (op : BinOp) (x y : List Nat) : Option Sc :=
  BinOp.casesOn op
    (bif Nat.ble (Nat.add x.length y.length) 4611686018427387904 then forceL (x ++ y) fun l => some (.s l) else none) none none none none none none none none none none
    (some (.b (sameL x y))) (some (.b (not (sameL x y)))) (some (.b (lessL x y))) (some (.b (not (lessL y x)))) (some (.b (lessL y x))) (some (.b (not (lessL x y))))

def pBin (op : BinOp) (x y : AV) : Option AV :=
  match x, y with
  | .c (.i k a), .c (.i j b) => (match op with
      | .shl => binSh true k a b
      | .shr => binSh false k a b
      | op => bif kindEq k j then binI op k a b else none).map .c
  | .c (.s a), .c (.s b) => (binS op a b).map .c
  | _, _ => none

def flip? (neg : Bool) (r : Option Bool) : Option AV := match r with
  | some t => some (.c (.b (bif neg then not t else t)))
  | none => none

def eqxB (q : EqK) (x y : AV) : Option Bool :=
  match q, x, y with
  | .b, .c (.b a), .c (.b b) => some (boolEq a b)
  | .p, .c .p0, .c .p0 => some true
  | .p, .c (.p _ _), .c .p0 | .p, .c .p0, .c (.p _ _) => some false
  | .s, .c .s0, .c .s0 => some true
  | .s, .c (.sl _ _ _ _), .c .s0 | .s, .c .s0, .c (.sl _ _ _ _) => some false
  | .m, .c .m0, .c .m0 => some true
  | .m, .c (.m _), .c .m0 | .m, .c .m0, .c (.m _) => some false
  | .f, .c .f0, .c .f0 => some true
  | .f, .c (.f _ _ _), .c .f0 | .f, .c .f0, .c (.f _ _ _) => some false
  | _, _, _ => none

def pEqx (neg : Bool) (q : EqK) (x y : AV) : Option AV := flip? neg (eqxB q x y)

def unruns {α : Type} : List (Nat × α) → List α
  | [] => []
  | (n, x) :: r => List.replicate n x ++ unruns r

def pEqa (neg : Bool) (ks : List (Nat × CK)) (x y : AV) : Option AV :=
  match x, y with
  | .g a, .g b => bif cksOk (unruns ks) a then bif cksOk (unruns ks) b then flip? neg (cellsEq a b) else none else none
  | _, _ => none

def pUn (op : UnOp) (x : AV) : Option AV :=
  match op, x with
  | .neg, .c (.i k n) => some (.c (mkInt k (Int.sub 0 n)))
  | .xor, .c (.i k n) => some (.c (mkInt k (Int.ofNat (Nat.xor (bitsOf k n) (Nat.sub (Nat.pow 2 k.bits) 1)))))
  | .not, .c (.b b) => some (.c (.b (not b)))
  | _, _ => none

def pCvt (k : IntKind) (x : AV) : Option AV :=
  match x with
  | .c (.i _ n) => some (.c (mkInt k n))
  | _ => none

def pFa (off : Nat) (x : AV) : Option AV :=
  match x with
  | .c (.p r o) => forceN (Nat.add o off) fun o => some (.c (.p r o))
  | _ => none

def pIar (n sz : Nat) (x i : AV) : Option AV :=
  match x, i with
  | .c (.p r o), .c (.i _ (.ofNat j)) => bif Nat.ble n j then none else forceN (Nat.add o (Nat.mul j sz)) fun o => some (.c (.p r o))
  | _, _ => none

def pIsl (sz : Nat) (x i : AV) : Option AV :=
  match x, i with
  | .c (.sl r o n _), .c (.i _ (.ofNat j)) => bif Nat.ble n j then none else forceN (Nat.add o (Nat.mul j sz)) fun o => some (.c (.p r o))
  | _, _ => none

def partOf (l : List Sc) (off n : Nat) (agg : Bool) : Option AV :=
  bif agg then forceL (takeK (dropK l off) n) fun l => bif Nat.beq l.length n then some (.g l) else none
  else (nth l off).map .c

def pIxa (n sz : Nat) (agg : Bool) (x i : AV) : Option AV :=
  match x, i with
  | .g l, .c (.i _ (.ofNat j)) => bif Nat.ble n j then none else partOf l (Nat.mul j sz) sz agg
  | _, _ => none

def pIxs (x i : AV) : Option AV :=
  match x, i with
  | .c (.s l), .c (.i _ (.ofNat j)) => (nth l j).map fun b => .c (.i .u8 (.ofNat b))
  | _, _ => none

def pFld (off n : Nat) (agg : Bool) (x : AV) : Option AV :=
  match x with
  | .g l => partOf l off n agg
  | _ => none

/-- A bound of a slice, if it is there: a number from 0 on. -/
def bnd (x : Option AV) (dflt : Nat) : Option Nat :=
  match x with
  | none => some dflt
  | some (.c (.i _ (.ofNat n))) => some n
  | _ => none

def pSls (x : AV) (lo hi : Option AV) : Option AV :=
  match x with
  | .c (.s l) => match bnd lo 0, bnd hi l.length with
    | some a, some b => bif Nat.ble b l.length then bif Nat.ble a b then forceL (takeK (dropK l a) (Nat.sub b a)) fun l => some (.c (.s l)) else none else none
    | _, _ => none
  | _ => none

def mkSl (r : Id) (o sz : Nat) (a b : Nat) (m : Cap) : Option AV :=
  forceN (match m with | .k m => bif Nat.beq m a then o else Nat.add o (Nat.mul a sz) | .u _ => Nat.add o (Nat.mul a sz)) fun o => forceN (Nat.sub b a) fun n =>
    match m with
    | .k m => forceN (Nat.sub m a) fun c => some (.c (.sl r o n (.k c)))
    | .u z => bif Nat.beq z sz then some (.c (.sl r o n (.u z))) else none

def Cap.least (c : Cap) (n : Nat) : Nat := match c with | .k m => m | .u _ => n

def cutSl (r : Id) (o sz n : Nat) (cap : Cap) (lo hi mx : Option AV) : Option AV :=
  match mx with
  | some (.c (.i _ (.ofNat m))) => bif Nat.ble m (cap.least n) then
      (match hi with
       | some (.c (.i _ (.ofNat b))) => bif Nat.ble b m then (match bnd lo 0 with | some a => bif Nat.ble a b then mkSl r o sz a b (.k m) else none | none => none) else none
       | _ => none) else none
  | none => match bnd hi n, bnd lo 0 with
    | some b, some a => bif Nat.ble b (cap.least n) then bif Nat.ble a b then mkSl r o sz a b cap else none else none
    | _, _ => none
  | _ => none

def pSlc (sz : Nat) (x : AV) (lo hi mx : Option AV) : Option AV :=
  match x with
  | .c .s0 => match mx with
    | none => match bnd hi 0, bnd lo 0 with
      | some 0, some 0 => some (.c .s0)
      | _, _ => none
    | some (.c (.i _ (.ofNat 0))) => match bnd hi 1, bnd lo 0 with
      | some 0, some 0 => some (.c .s0)
      | _, _ => none
    | some _ => none
  | .c (.sl r o n cap) => cutSl r o sz n cap lo hi mx
  | _ => none

def pSla (n sz : Nat) (x : AV) (lo hi mx : Option AV) : Option AV :=
  match x with
  | .c (.p r o) => cutSl r o sz n (.k n) lo hi mx
  | _ => none

def pExt (i : Nat) (x : AV) : Option AV :=
  match x with
  | .t l => nth l i
  | _ => none

def pNil (x : AV) : Option AV :=
  match x with
  | .c .p0 => none
  | .c .f0 => none
  | x => some x

def layParts (z : List Sc) (ps : List (Nat × Nat × Opd)) (tm : Tm) : Option (List Sc) :=
  List.rec (motive := fun _ => List Sc → Option (List Sc)) (fun z => some z)
    (fun p _ ih z => match p with
      | (off, n, x) => match x.get tm with
        | .t _ => none
        | v => bif Nat.beq v.cells.length n then bif Nat.ble (Nat.add off n) z.length then forceL (over z off v.cells) fun z => ih z else none else none) ps z

/-- Runs of cells, as a list. -/
def runs : List (Nat × Sc) → List Sc
  | [] => []
  | (n, x) :: r => List.replicate n x ++ runs r

def pBld (z : List (Nat × Sc)) (ps : List (Nat × Nat × Opd)) (tm : Tm) : Option AV := (layParts (runs z) ps tm).map .g

def natAV (n : Nat) : AV := forceN n fun n => .c (.i .i64 (.ofNat n))

def pLen (str : Bool) (x : AV) : Option AV :=
  match str, x with
  | true, .c (.s l) => some (natAV l.length)
  | false, .c .s0 => some (natAV 0)
  | false, .c (.sl _ _ n _) => some (natAV n)
  | _, _ => none

def pCap (x : AV) : Option AV :=
  match x with
  | .c .s0 => some (natAV 0)
  | .c (.sl _ _ _ (.k n)) => some (natAV n)
  | _ => none

def maxGo (max : Bool) (k : IntKind) (tm : Tm) (xs : List Opd) : Int → Option AV :=
  List.rec (motive := fun _ => Int → Option AV) (fun a => some (.c (.i k a)))
    (fun x _ ih a => match x.get tm with
      | .c (.i _ b) => ih (bif max then (bif intLe b a then a else b) else (bif intLe a b then a else b))
      | _ => none) xs

def pMm (max : Bool) (xs : List Opd) (tm : Tm) : Option AV :=
  match xs with
  | x :: r => match x.get tm with
    | .c (.i k a) => maxGo max k tm r a
    | _ => none
  | [] => none

def ptrs (tm : Tm) (xs : List Opd) : Option (List (Id × Nat)) :=
  List.rec (motive := fun _ => Option (List (Id × Nat))) (some [])
    (fun x _ ih => match x.get tm, ih with
      | .c (.p r o), some l => some ((r, o) :: l)
      | _, _ => none) xs

def optGet (tm : Tm) (x : Option Opd) : Option AV := x.map fun x => x.get tm

def POp.mv' (x : Opd) (tm : Tm) : Option AV := some (x.get tm)
def POp.pick' (c a b : Opd) (tm : Tm) : Option AV := match c.get tm with | .c (.b t) => some (bif t then a.get tm else b.get tm) | _ => none
def POp.bin' (op : BinOp) (x y : Opd) (tm : Tm) : Option AV := pBin op (x.get tm) (y.get tm)
def POp.eqx' (neg : Bool) (q : EqK) (x y : Opd) (tm : Tm) : Option AV := pEqx neg q (x.get tm) (y.get tm)
def POp.eqa' (neg : Bool) (ks : List (Nat × CK)) (x y : Opd) (tm : Tm) : Option AV := pEqa neg ks (x.get tm) (y.get tm)
def POp.un' (op : UnOp) (x : Opd) (tm : Tm) : Option AV := pUn op (x.get tm)
def POp.cvt' (k : IntKind) (x : Opd) (tm : Tm) : Option AV := pCvt k (x.get tm)
def POp.fa' (off : Nat) (x : Opd) (tm : Tm) : Option AV := pFa off (x.get tm)
def POp.iar' (n sz : Nat) (x i : Opd) (tm : Tm) : Option AV := pIar n sz (x.get tm) (i.get tm)
def POp.isl' (sz : Nat) (x i : Opd) (tm : Tm) : Option AV := pIsl sz (x.get tm) (i.get tm)
def POp.ixa' (n sz : Nat) (agg : Bool) (x i : Opd) (tm : Tm) : Option AV := pIxa n sz agg (x.get tm) (i.get tm)
def POp.ixs' (x i : Opd) (tm : Tm) : Option AV := pIxs (x.get tm) (i.get tm)
def POp.fld' (off n : Nat) (agg : Bool) (x : Opd) (tm : Tm) : Option AV := pFld off n agg (x.get tm)
def POp.sls' (x : Opd) (lo hi : Option Opd) (tm : Tm) : Option AV := pSls (x.get tm) (optGet tm lo) (optGet tm hi)
def POp.slc' (sz : Nat) (x : Opd) (lo hi mx : Option Opd) (tm : Tm) : Option AV := pSlc sz (x.get tm) (optGet tm lo) (optGet tm hi) (optGet tm mx)
def POp.sla' (n sz : Nat) (x : Opd) (lo hi mx : Option Opd) (tm : Tm) : Option AV := pSla n sz (x.get tm) (optGet tm lo) (optGet tm hi) (optGet tm mx)
def POp.ext' (i : Nat) (x : Opd) (tm : Tm) : Option AV := pExt i (x.get tm)
def POp.nil' (x : Opd) (tm : Tm) : Option AV := pNil (x.get tm)
def POp.bld' (z : List (Nat × Sc)) (ps : List (Nat × Nat × Opd)) (tm : Tm) : Option AV := pBld z ps tm
def POp.len' (str : Bool) (x : Opd) (tm : Tm) : Option AV := pLen str (x.get tm)
def POp.cap' (x : Opd) (tm : Tm) : Option AV := pCap (x.get tm)
def POp.mm' (max : Bool) (xs : List Opd) (tm : Tm) : Option AV := pMm max xs tm
def POp.mkf' (f : P4) (fs cs : List Opd) (tm : Tm) : Option AV := match ptrs tm fs, ptrs tm cs with | some a, some b => some (.c (.f f a b)) | _, _ => none

def POp.run (o : POp) (tm : Tm) : Option AV :=
  (POp.casesOn (motive := fun _ => Tm → Option AV) o POp.mv' POp.pick' POp.bin' POp.eqx' POp.eqa' POp.un' POp.cvt' POp.fa' POp.iar' POp.isl' POp.ixa' POp.ixs' POp.fld' POp.sls' POp.slc' POp.sla' POp.ext' POp.nil' POp.bld' POp.len' POp.cap' POp.mm' POp.mkf') tm

/-! ## Reading -/
def Hp.get (h : Hp) (r : Id) : Option Blk := HT.get r h.t

def rLd (x : AV) (h : Hp) : Option AV :=
  match x with
  | .c (.p r o) => match h.get r with
    | some (.cells _ l) => (l.get o).map .c
    | _ => none
  | _ => none

def readN (h : Hp) (r : Id) (o n : Nat) : Option (List Sc) :=
  match h.get r with
  | some (.cells _ l) => forceL (l.read o n) fun l => bif Nat.beq l.length n then some l else none
  | _ => none

def rLda (n : Nat) (x : AV) (h : Hp) : Option AV :=
  match x with
  | .c (.p r o) => (readN h r o n).map .g
  | _ => none

/-- Are two keys of a map one? (Numbers, texts, and structs of these.) -/
def keyEq : AV → AV → Option Bool
  | .c x, .c y => cellEq x y
  | .g x, .g y => cellsEq x y
  | _, _ => none

/-- Is a key of its type's form? -/
def keyOk (ka : Bool) (ks : List (Nat × CK)) (k : AV) : Bool :=
  match ka, k with
  | true, .g l => cksOk (unruns ks) l
  | false, .c x => cksOk (unruns ks) [x]
  | _, _ => false

/-- Can a key be held against all that are there? -/
def cmpAll (k : AV) : List (AV × AV) → Bool
  | [] => true
  | e :: r => match keyEq k e.1 with
    | some _ => cmpAll k r
    | none => false

def isKey (k q : AV) : Bool :=
  match keyEq k q with
  | some t => t
  | none => false

def find (k : AV) : List (AV × AV) → Option AV
  | [] => none
  | (q, v) :: r => bif isKey k q then some v else find k r

def lkRes (z : AV) (ok : Bool) (r : Option AV) : AV :=
  match r with
  | some v => bif ok then .t [v, .c (.b true)] else v
  | none => bif ok then .t [z, .c (.b false)] else z

def rLkp (ka : Bool) (ks : List (Nat × CK)) (z : AV) (ok : Bool) (m k : AV) (h : Hp) : Option AV :=
  bif keyOk ka ks k then
  match m with
  | .c .m0 => some (lkRes z ok none)
  | .c (.m r) => (match h.get r with
    | some (.mp es _) => bif cmpAll k es then some (lkRes z ok (find k es)) else none
    | _ => none)
  | _ => none
  else none

def rMlen (m : AV) (h : Hp) : Option AV :=
  match m with
  | .c .m0 => some (natAV 0)
  | .c (.m r) => match h.get r with
    | some (.mp es _) => some (natAV es.length)
    | _ => none
  | _ => none

def bytesOfCells : List Sc → Option (List Nat)
  | [] => some []
  | .i .u8 (.ofNat b) :: r => match bytesOfCells r with
    | some l => bif Nat.ble b 255 then some (b :: l) else none
    | none => none
  | _ => none

def rB2s (x : AV) (h : Hp) : Option AV :=
  match x with
  | .c .s0 => some (.c (.s []))
  | .c (.sl r o n _) => match readN h r o n with
    | some l => match bytesOfCells l with
      | some l => forceL l fun l => some (.c (.s l))
      | none => none
    | none => none
  | _ => none

/-- A pointer, as one of no type. -/
def rUsp (x : AV) (h : Hp) : Option AV :=
  match x with
  | .c (.p r o) => match h.get r with
    | some (.cells _ l) => (l.get o).map fun _ => .c (.p r o)
    | _ => none
  | _ => none

def ROp.ld' (x : Opd) (tm : Tm) (h : Hp) : Option AV := rLd (x.get tm) h
def ROp.lda' (n : Nat) (x : Opd) (tm : Tm) (h : Hp) : Option AV := rLda n (x.get tm) h
def ROp.lkp' (ka : Bool) (ks : List (Nat × CK)) (z : AV) (ok : Bool) (m k : Opd) (tm : Tm) (h : Hp) : Option AV := rLkp ka ks z ok (m.get tm) (k.get tm) h
def ROp.mlen' (m : Opd) (tm : Tm) (h : Hp) : Option AV := rMlen (m.get tm) h
def ROp.b2s' (x : Opd) (tm : Tm) (h : Hp) : Option AV := rB2s (x.get tm) h
def ROp.usp' (x : Opd) (tm : Tm) (h : Hp) : Option AV := rUsp (x.get tm) h

def ROp.run (o : ROp) (tm : Tm) (h : Hp) : Option AV :=
  (ROp.casesOn (motive := fun _ => Tm → Hp → Option AV) o ROp.ld' ROp.lda' ROp.lkp' ROp.mlen' ROp.b2s' ROp.usp') tm h

/-! ## Making memory -/
def Hp.newK {β : Type} (h : Hp) (b : Blk) (k : Id → Hp → β) : β :=
  match h with
  | ⟨i, t⟩ => HT.setK (some b) i t fun t => i.succK fun j => k i ⟨j, t⟩

def Hp.setK {β : Type} (h : Hp) (r : Id) (b : Option Blk) (k : Hp → β) : β :=
  match h with
  | ⟨i, t⟩ => HT.setK b r t fun t => k ⟨i, t⟩

def repL {α : Type} (z : List α) : Nat → List α
  | 0 => []
  | n + 1 => z ++ repL z n

/-- So many copies of some cells, as a rope. -/
def ropeRep {α : Type} (z : List α) (sz : Nat) : Nat → Nat → Rope α
  | 0, c => .l (repL z c)
  | d + 1, c => bif Nat.ble c 8 then .l (repL z c) else .n (Nat.mul (Nat.div c 2) sz) (ropeRep z sz d (Nat.div c 2)) (ropeRep z sz d (Nat.sub c (Nat.div c 2)))

/-- A list as a rope: a leaf, or halves. -/
def ropeGo {α : Type} : Nat → Nat → List α → Rope α
  | 0, _, l => .l l
  | d + 1, n, l => bif Nat.ble n 16 then .l l else .n (Nat.div n 2) (ropeGo d (Nat.div n 2) (takeK l (Nat.div n 2))) (ropeGo d (Nat.sub n (Nat.div n 2)) (dropK l (Nat.div n 2)))

def ropeOf {α : Type} (l : List α) : Rope α := ropeGo 20 l.length l

/-- What an operation makes: a block, and its value by the block's number. -/
abbrev MK := Blk → (Id → AV) → RV
def AOp.new' (z : List (Nat × Sc)) (_ : Tm) (k : MK) : RV := forceL (runs z) fun l => k (.cells true (ropeOf l)) fun r => .c (.p r 0)
def boxV (l : List Sc) (k : MK) : RV := forceL l fun l => k (.cells true (ropeOf l)) fun r => .c (.p r 0)
def aBox (v : AV) (k : MK) : RV := AV.casesOn v (fun x => boxV [x] k) (fun l => boxV l k) (fun _ => .no)
def AOp.box' (x : Opd) (tm : Tm) (k : MK) : RV := aBox (x.get tm) k
def AOp.bls' (z : List (Nat × Sc)) (n : Nat) (ps : List (Nat × Nat × Opd)) (tm : Tm) (k : MK) : RV :=
  match layParts (runs z) ps tm with
  | some l => forceL l fun l => k (.cells true (ropeOf l)) fun r => .c (.sl r 0 n (.k n))
  | none => .no
def aMks (sz bytes : Nat) (z : List Sc) (l c : AV) (k : MK) : RV :=
  match l, c with
  | .c (.i _ (.ofNat l)), .c (.i _ (.ofNat c)) =>
    bif Nat.ble l c then bif Nat.ble (Nat.mul c bytes) 1099511627776 then bif Nat.ble c 1099511627776 then
      k (.cells true (ropeRep z sz 40 c)) fun r => .c (.sl r 0 l (.k c)) else .no else .no else .no
  | _, _ => .no
def AOp.mks' (sz bytes : Nat) (z : List Sc) (l c : Opd) (tm : Tm) (k : MK) : RV := aMks sz bytes z (l.get tm) (c.get tm) k
def AOp.mkm' (_ : Tm) (k : MK) : RV := k (.mp [] 0) fun r => .c (.m r)
def aS2b (x : AV) (k : MK) : RV :=
  match x with
  | .c (.s l) => forceL (l.map fun b => Sc.i .u8 (.ofNat b)) fun cs => forceN l.length fun n => k (.cells true (ropeOf cs)) fun r => .c (.sl r 0 n (.u 1))
  | _ => .no
def AOp.s2b' (x : Opd) (tm : Tm) (k : MK) : RV := aS2b (x.get tm) k

def AOp.mkK (o : AOp) (tm : Tm) (k : MK) : RV :=
  (AOp.casesOn (motive := fun _ => Tm → MK → RV) o AOp.new' AOp.box' AOp.bls' AOp.mks' AOp.mkm' AOp.s2b') tm k

def AOp.run (o : AOp) (tm : Tm) (h : Hp) : RV := o.mkK tm fun B f => h.newK B fun r h => .ok (f r) h
/-- .. in a place that was kept for it. -/
def AOp.at_ (o : AOp) (r : Id) (tm : Tm) (h : Hp) : RV := o.mkK tm fun B f => h.setK r (some B) fun h => .ok (f r) h

/-! ## Acting -/
def store (h : Hp) (r : Id) (o n : Nat) (l : List Sc) : Option Hp :=
  bif Nat.beq n 0 then some h else
  match h.get r with
  | some (.cells true c) => match c.get (Nat.pred (Nat.add o n)) with
    | some _ => c.writeK o n l fun c => h.setK r (some (.cells true c)) fun h => some h
    | none => none
  | _ => none

def eSt (n : Nat) (x v : AV) (h : Hp) : RV :=
  match x, v with
  | _, .t _ => .no
  | .c (.p r o), v => bif Nat.beq v.cells.length n then (match store h r o n v.cells with | some h => .ok (.t []) h | none => .no) else .no
  | _, _ => .no

/-- The cells that a slice or a text tells, of so many elements. -/
def firsts (sz n : Nat) (x : AV) (h : Hp) : Option (List Sc) :=
  match x with
  | .c .s0 => bif Nat.beq n 0 then some [] else none
  | .c (.sl r o _ _) => bif Nat.beq (Nat.mul n sz) 0 then some [] else readN h r o (Nat.mul n sz)
  | .c (.s l) => bif Nat.beq sz 1 then some ((takeK l n).map fun b => Sc.i .u8 (.ofNat b)) else none
  | _ => none

def lenNat (x : AV) : Option Nat :=
  match x with
  | .c .s0 => some 0
  | .c (.sl _ _ n _) => some n
  | .c (.s l) => some l.length
  | _ => none

def appNew (sz : Nat) (h : Hp) (need : Nat) (l : List Sc) (dead : Option Id) : RV :=
  match dead with
  | none => forceL l fun l => h.newK (.cells true (ropeOf l)) fun r h => .ok (.c (.sl r 0 need (.u sz))) h
  | some q => forceL l fun l => h.setK q none fun h => h.newK (.cells true (ropeOf l)) fun r h => .ok (.c (.sl r 0 need (.u sz))) h

def isW (h : Hp) (r : Id) : Bool :=
  match h.get r with
  | some (.cells true _) => true
  | _ => false

def eApp (sz bytes : Nat) (s x : AV) (h : Hp) : RV :=
  match lenNat x with
  | none => .no
  | some n => match s with
    | .c .s0 => match firsts sz n x h with
      | some new => bif Nat.beq n 0 then .ok (.c .s0) h else
          bif Nat.ble (Nat.mul n (Nat.succ bytes)) 1099511627776 then appNew sz h n new none else .no
      | none => .no
    | .c (.sl r o k cap) => forceN (Nat.add k n) fun need =>
        match firsts sz n x h with
        | none => .no
        | some new => bif Nat.ble (Nat.mul need (Nat.succ bytes)) 1099511627776 then
          (match cap with
           | .k c => bif Nat.ble need c then
               (match store h r (Nat.add o (Nat.mul k sz)) (Nat.mul n sz) new with
                | some h => .ok (.c (.sl r o need (.k c))) h
                | none => .no)
             else (match firsts sz k s h with
               | some old => appNew sz h need (old ++ new) none
               | none => .no)
           | .u z => bif Nat.beq z sz then bif isW h r then (match firsts sz k s h with
               | some old => appNew sz h need (old ++ new) (some r)
               | none => .no) else .no else .no) else .no
    | _ => .no

def eCpy (sz : Nat) (d s : AV) (h : Hp) : RV :=
  match lenNat s, d with
  | some _, .c .s0 => .ok (natAV 0) h
  | some m, .c (.sl r o n _) => forceN (Nat.min m n) fun k => match firsts sz k s h with
    | some l => (match store h r o (Nat.mul k sz) l with | some h => .ok (natAV k) h | none => .no)
    | none => .no
  | _, _ => .no

/-- An entry's value, turned; none: there is no such key. -/
def put (k v : AV) : List (AV × AV) → Option (List (AV × AV))
  | [] => none
  | (q, u) :: r => bif isKey k q then some ((k, v) :: r) else (match put k v r with
      | some r => some ((q, u) :: r)
      | none => none)

def cut (k : AV) : List (AV × AV) → List (AV × AV)
  | [] => []
  | (q, u) :: r => bif isKey k q then r else (q, u) :: cut k r

def isOne (v : AV) : Bool := match v with | .t _ => false | _ => true

def eMup (ka : Bool) (ks : List (Nat × CK)) (m k x : AV) (h : Hp) : RV :=
  bif keyOk ka ks k then bif isOne x then
  match m with
  | .c (.m r) => match h.get r with
    | some (.mp es c) => bif cmpAll k es then (match put k x es with
      | some es => forceL es fun es => h.setK r (some (.mp es c)) fun h => .ok (.t []) h
      | none => forceL (es ++ [(k, x)]) fun es => forceN (Nat.succ c) fun c => h.setK r (some (.mp es c)) fun h => .ok (.t []) h) else .no
    | _ => .no
  | _ => .no
  else .no else .no

/-- A new key. -/
def eMnew (ka : Bool) (ks : List (Nat × CK)) (m k x : AV) (h : Hp) : RV :=
  match m with
  | .c (.m r) => match h.get r with
    | some (.mp es _) => (match find k es with | none => eMup ka ks m k x h | _ => .no)
    | _ => .no
  | _ => .no

def eDel (ka : Bool) (ks : List (Nat × CK)) (m k : AV) (h : Hp) : RV :=
  bif keyOk ka ks k then
  match m with
  | .c .m0 => .ok (.t []) h
  | .c (.m r) => match h.get r with
    | some (.mp es c) => bif cmpAll k es then forceL (cut k es) fun es => h.setK r (some (.mp es c)) fun h => .ok (.t []) h else .no
    | _ => .no
  | _ => .no
  else .no

def eClr (m : AV) (h : Hp) : RV :=
  match m with
  | .c .m0 => .ok (.t []) h
  | .c (.m r) => match h.get r with
    | some (.mp _ c) => h.setK r (some (.mp [] c)) fun h => .ok (.t []) h
    | _ => .no
  | _ => .no

def eSclr (z : List Sc) (x : AV) (h : Hp) : RV :=
  match x with
  | .c .s0 => .ok (.t []) h
  | .c (.sl r o n _) => (match store h r o (Nat.mul n z.length) (repL z n) with | some h => .ok (.t []) h | none => .no)
  | _ => .no

def ixB (b : Nat) : List Nat → Nat → Option Nat
  | [], _ => none
  | x :: r, i => bif Nat.beq x b then some i else ixB b r (Nat.succ i)

def Xt.run (x : Xt) (l : List AV) (h : Hp) : RV :=
  match x, l with
  | .nop, _ => .ok (.t []) h
  | .nop1, [.c (.p _ _)] => .ok (.t []) h
  | .aload k, [p] => (match rLd p h with | some (.c (.i j n)) => bif kindEq k j then .ok (.c (.i j n)) h else .no | _ => .no)
  | .astore, [p, .c (.i k n)] => eSt 1 p (.c (.i k n)) h
  | .aadd k, [p, .c (.i j m)] => (match rLd p h with
      | some (.c (.i q n)) => bif kindEq k q then bif kindEq k j then (match eSt 1 p (.c (mkInt k (Int.add n m))) h with | .ok _ h => .ok (.c (mkInt k (Int.add n m))) h | _ => .no) else .no else .no
      | _ => .no)
  | .aswap k, [p, .c (.i j m)] => (match rLd p h with
      | some (.c (.i q n)) => bif kindEq k q then (match eSt 1 p (.c (.i j m)) h with | .ok _ h => .ok (.c (.i q n)) h | _ => .no) else .no
      | _ => .no)
  | .acas k, [p, .c (.i i a), .c (.i j b)] => (match rLd p h with
      | some (.c (.i q n)) => bif kindEq k q then bif kindEq k i then bif kindEq k j then (bif intEq n a then (match eSt 1 p (.c (.i j b)) h with | .ok _ h => .ok (.c (.b true)) h | _ => .no) else (match p with | .c (.p r _) => bif isW h r then .ok (.c (.b false)) h else .no | _ => .no)) else .no else .no else .no
      | _ => .no)
  | .ixb, [.c (.s l), .c (.i .u8 (.ofNat b))] => bif Nat.ble b 255 then (match ixB b l 0 with | some n => .ok (natAV n) h | none => .ok (.c (.i .i64 (.negSucc 0))) h) else .no
  | _, _ => .no

def gets (tm : Tm) (xs : List Opd) : List AV :=
  List.rec (motive := fun _ => List AV) [] (fun x _ ih => x.get tm :: ih) xs

section
variable (cl : P4 → List AV → Hp → RV) (yl : Id → List AV → Hp → RV)

def eCall (f : P4) (xs : List AV) (h : Hp) : RV := forceL xs fun xs => cl f xs h

def ptrAVs (l : List (Id × Nat)) : List AV := l.map fun c => AV.c (.p c.1 c.2)

def eCv (f : AV) (xs : List AV) (h : Hp) : RV :=
  match f with
  | .c (.f p fs cs) => forceL (ptrAVs fs ++ (xs ++ ptrAVs cs)) fun xs => cl p xs h
  | .c (.y r) => forceL xs fun xs => yl r xs h
  | _ => .no

def eDfr (f : AV) (xs : List AV) (h : Hp) : RV :=
  match f with
  | .c (.f p fs cs) => forceL (ptrAVs fs ++ (xs ++ ptrAVs cs)) fun xs => .dfr (.call p xs) h
  | _ => .no

abbrev Cl := P4 → List AV → Hp → RV
abbrev Yl := Id → List AV → Hp → RV
def EOp.st' (n : Nat) (x v : Opd) (_ : Cl) (_ : Yl) (tm : Tm) (h : Hp) : RV := eSt n (x.get tm) (v.get tm) h
def EOp.call' (f : P4) (xs : List Opd) (cl : Cl) (_ : Yl) (tm : Tm) (h : Hp) : RV := eCall cl f (gets tm xs) h
def EOp.cv' (f : Opd) (xs : List Opd) (cl : Cl) (yl : Yl) (tm : Tm) (h : Hp) : RV := eCv cl yl (f.get tm) (gets tm xs) h
def EOp.app' (sz bytes : Nat) (s x : Opd) (_ : Cl) (_ : Yl) (tm : Tm) (h : Hp) : RV := eApp sz bytes (s.get tm) (x.get tm) h
def EOp.cpy' (sz : Nat) (d s : Opd) (_ : Cl) (_ : Yl) (tm : Tm) (h : Hp) : RV := eCpy sz (d.get tm) (s.get tm) h
def EOp.mup' (ka : Bool) (ks : List (Nat × CK)) (m k x : Opd) (_ : Cl) (_ : Yl) (tm : Tm) (h : Hp) : RV := eMup ka ks (m.get tm) (k.get tm) (x.get tm) h
def EOp.mnew' (ka : Bool) (ks : List (Nat × CK)) (m k x : Opd) (_ : Cl) (_ : Yl) (tm : Tm) (h : Hp) : RV := eMnew ka ks (m.get tm) (k.get tm) (x.get tm) h
def EOp.del' (ka : Bool) (ks : List (Nat × CK)) (m k : Opd) (_ : Cl) (_ : Yl) (tm : Tm) (h : Hp) : RV := eDel ka ks (m.get tm) (k.get tm) h
def EOp.mclr' (m : Opd) (_ : Cl) (_ : Yl) (tm : Tm) (h : Hp) : RV := eClr (m.get tm) h
def EOp.sclr' (z : List Sc) (x : Opd) (_ : Cl) (_ : Yl) (tm : Tm) (h : Hp) : RV := eSclr z (x.get tm) h
def EOp.xt' (x : Xt) (xs : List Opd) (_ : Cl) (_ : Yl) (tm : Tm) (h : Hp) : RV := x.run (gets tm xs) h
def EOp.dfr' (f : Opd) (xs : List Opd) (_ : Cl) (_ : Yl) (tm : Tm) (h : Hp) : RV := eDfr (f.get tm) (gets tm xs) h

def EOp.run (o : EOp) (tm : Tm) (h : Hp) : RV :=
  (EOp.casesOn (motive := fun _ => Cl → Yl → Tm → Hp → RV) o EOp.st' EOp.call' EOp.cv' EOp.app' EOp.cpy' EOp.mup' EOp.mnew' EOp.del' EOp.mclr' EOp.sclr' EOp.xt' EOp.dfr') cl yl tm h

def toRV (r : Option AV) (h : Hp) : RV := Option.casesOn r .no fun v => .ok v h
def XOp.bad' (_ : Cl) (_ : Yl) (_ : Tm) (_ : Hp) : RV := .no
def XOp.p' (o : POp) (_ : Cl) (_ : Yl) (tm : Tm) (h : Hp) : RV := toRV (o.run tm) h
def XOp.r' (o : ROp) (_ : Cl) (_ : Yl) (tm : Tm) (h : Hp) : RV := toRV (o.run tm h) h
def XOp.a' (o : AOp) (_ : Cl) (_ : Yl) (tm : Tm) (h : Hp) : RV := o.run tm h
def XOp.e' (o : EOp) (cl : Cl) (yl : Yl) (tm : Tm) (h : Hp) : RV := o.run cl yl tm h

def XOp.run (o : XOp) (tm : Tm) (h : Hp) : RV :=
  (XOp.casesOn (motive := fun _ => Cl → Yl → Tm → Hp → RV) o XOp.bad' XOp.p' XOp.r' XOp.a' XOp.e') cl yl tm h

abbrev KI := Tm → List Df → Hp → RI

def doOp (dst : P3) (o : XOp) (tm : Tm) (ds : List Df) (h : Hp) (k : KI) : RI :=
  RV.casesOn (o.run cl yl tm h) (fun v h => T8.setK tm dst v fun tm => k tm ds h) (fun d h => T8.setK tm dst (.t []) fun tm => k tm (d :: ds) h) .no

def doOp' (o : XOp) (tm : Tm) (ds : List Df) (h : Hp) (k : KI) : RI :=
  RV.casesOn (o.run cl yl tm h) (fun _ h => k tm ds h) (fun d h => k tm (d :: ds) h) .no

def isB (v : AV) (want : Bool) : Bool :=
  match v with
  | .c (.b t) => boolEq t want
  | _ => false

def doChk (dst : P3) (o : ROp) (tm : Tm) (h : Hp) (k : RI) : RI :=
  match o.run tm h with
  | some v => bif avIs v (T8.getK tm dst fun v => v) then k else .no
  | none => .no

def It.o1 (dst : P3) (o : XOp) (cl : Cl) (yl : Yl) (tm : Tm) (ds : List Df) (h : Hp) (k : KI) : RI := doOp cl yl dst o tm ds h k
def It.o2 (o : XOp) (cl : Cl) (yl : Yl) (tm : Tm) (ds : List Df) (h : Hp) (k : KI) : RI := doOp' cl yl o tm ds h k
def It.g1 (c : P3) (want : Bool) (dst : P3) (o : XOp) (cl : Cl) (yl : Yl) (tm : Tm) (ds : List Df) (h : Hp) (k : KI) : RI :=
  bif isB (T8.getK tm c fun v => v) want then doOp cl yl dst o tm ds h k else T8.setK tm dst (.t []) fun tm => k tm ds h
def It.g2 (c : P3) (want : Bool) (o : XOp) (cl : Cl) (yl : Yl) (tm : Tm) (ds : List Df) (h : Hp) (k : KI) : RI :=
  bif isB (T8.getK tm c fun v => v) want then doOp' cl yl o tm ds h k else k tm ds h
def It.c1 (dst : P3) (o : ROp) (_ : Cl) (_ : Yl) (tm : Tm) (ds : List Df) (h : Hp) (k : KI) : RI := doChk dst o tm h (k tm ds h)
def It.c2 (c : P3) (want : Bool) (dst : P3) (o : ROp) (_ : Cl) (_ : Yl) (tm : Tm) (ds : List Df) (h : Hp) (k : KI) : RI :=
  bif isB (T8.getK tm c fun v => v) want then doChk dst o tm h (k tm ds h) else k tm ds h

def doAl (dst : P3) (o : AOp) (tm : Tm) (ds : List Df) (h : Hp) (k : KI) : RI :=
  match T8.getK tm dst fun v => v with
  | .c (.p r _) => RV.casesOn (o.at_ r tm h) (fun v h => T8.setK tm dst v fun tm => k tm ds h) (fun _ _ => .no) .no
  | _ => .no
def It.r1 (dst : P3) (_ : Cl) (_ : Yl) (tm : Tm) (ds : List Df) (h : Hp) (k : KI) : RI :=
  match h with
  | ⟨i, t⟩ => i.succK fun j => T8.setK tm dst (.c (.p i 0)) fun tm => k tm ds ⟨j, t⟩
def It.a1 (dst : P3) (o : AOp) (_ : Cl) (_ : Yl) (tm : Tm) (ds : List Df) (h : Hp) (k : KI) : RI := doAl dst o tm ds h k
def It.a2 (c : P3) (want : Bool) (dst : P3) (o : AOp) (_ : Cl) (_ : Yl) (tm : Tm) (ds : List Df) (h : Hp) (k : KI) : RI :=
  bif isB (T8.getK tm c fun v => v) want then doAl dst o tm ds h k else T8.setK tm dst (.t []) fun tm => k tm ds h

def It.run (x : It) (tm : Tm) (ds : List Df) (h : Hp) (k : KI) : RI :=
  (It.casesOn (motive := fun _ => Cl → Yl → Tm → List Df → Hp → KI → RI) x It.o1 It.o2 It.g1 It.g2 It.c1 It.c2 It.r1 It.a1 It.a2) cl yl tm ds h k

def evIs (l : List It) : Tm → List Df → Hp → RI :=
  List.rec (motive := fun _ => Tm → List Df → Hp → RI) (fun tm ds h => .ok tm ds h) (fun x _ ih tm ds h => x.run cl yl tm ds h ih) l
end

/-! ## Statements and functions -/
def setAll {β : Type} (ps : List P3) : List AV → Tm → (Tm → β) → β → β :=
  List.rec (motive := fun _ => List AV → Tm → (Tm → β) → β → β) (fun vs tm k no => List.casesOn vs (k tm) fun _ _ => no)
    (fun p _ ih vs tm k no => List.casesOn vs no fun v vs => T8.setK tm p v fun tm => ih vs tm k no) ps

def resOf (tm : Tm) (h : Hp) (r : Rs) : Option AV :=
  match r with
  | .t p => some (T8.getK tm p fun v => v)
  | .ld p => rLd (T8.getK tm p fun v => v) h
  | .lda n p => rLda n (T8.getK tm p fun v => v) h

def resAll (tm : Tm) (h : Hp) (l : List Rs) : Option (List AV) :=
  List.rec (motive := fun _ => Option (List AV)) (some [])
    (fun x _ ih => match resOf tm h x, ih with
      | some v, some l => some (v :: l)
      | _, _ => none) l

/-- Is each of them one value? -/
def ones (l : List AV) : Bool := List.rec (motive := fun _ => Bool) true (fun v _ ih => bif isOne v then ih else false) l

def results (tm : Tm) (h : Hp) (l : List Rs) : RV :=
  match resAll tm h l with
  | some [v] => .ok v h
  | some l => bif ones l then .ok (.t l) h else .no
  | none => .no

/-- What a statement comes to, by how its parts do. -/
abbrev Ev := Bool → St → Tm → List Df → Hp → RS

def doDf (cl : P4 → List AV → Hp → RV) (ds : List Df) : Hp → (Hp → RV) → RV :=
  List.rec (motive := fun _ => Hp → (Hp → RV) → RV) (fun h k => k h)
    (fun d _ ih h k => match d with
      | .call f xs => (match cl f xs h with | .ok _ h => ih h k | _ => .no)
      | .coll r => (match h.get r with | some (.dfr true) => h.setK r (some (.dfr false)) fun h => ih h k | _ => .no)) ds

def evFn (ev : Ev) (cl : P4 → List AV → Hp → RV) (ps : List P3) (rs : List Rs) (body : St) (xs : List AV) (h : Hp) : RV :=
  setAll ps xs (T8.all (.t [])) (fun tm => match ev false body tm [] h with
    | .ok (.exit _) _ _ _ => .no
    | .ok _ tm ds h => doDf cl ds h fun h => results tm h rs
    | .no => .no) .no

/-- A call whose function puts nothing off. -/
def evCall0 (FT : FT) (ev : Ev) (f : P4) (xs : List AV) (h : Hp) : RV :=
  F8.getK FT f fun o => Option.casesOn o .no fun fn => AFn.casesOn fn (fun ps rs body =>
    setAll ps xs (T8.all (.t [])) (fun tm => match ev false body tm [] h with
      | .ok (.exit _) _ _ _ => .no
      | .ok _ tm [] h => results tm h rs
      | _ => .no) .no) (fun _ => .no)

def evCall (FT : FT) (ev : Ev) (f : P4) (xs : List AV) (h : Hp) : RV :=
  F8.getK FT f fun o => Option.casesOn o .no fun fn => AFn.casesOn fn (fun ps rs body => evFn ev (evCall0 FT ev) ps rs body xs h) (fun run => run xs h)

def evRound (ev : Ev) (l : Id) (xs : List AV) (h : Hp) : RV :=
  match h.get l with
  | some (.lp _ _ tm ps x y) => setAll ps xs tm (fun tm' => match ev true x tm' [] h with
      | .ok .nor tm'' [] h => (match h.get l with
        | some (.lp .ready pend tm1 ps1 x1 y1) => h.setK l (some (.lp .busy pend tm1 ps1 x1 y1)) fun h => (match ev true y tm'' [] h with
          | .ok e _ [] h => (match h.get l with
            | some (.lp _ _ tm2 ps2 x2 y2) => (match e with
              | .nor => h.setK l (some (.lp .ready none tm2 ps2 x2 y2)) fun h => .ok (.c (.b true)) h
              | e => h.setK l (some (.lp .done (some e) tm2 ps2 x2 y2)) fun h => .ok (.c (.b false)) h)
            | _ => .no)
          | _ => .no)
        | _ => .no)
      | _ => .no) .no
  | _ => .no

def evRf (cl : P4 → List AV → Hp → RV) (rd : Bool) (f : AV) (ps : List P3) (x y : St) (tm : Tm) (ds : List Df) (h : Hp) : RS :=
  match f with
  | .c (.f p fs cs) =>
    let go (ds : List Df) (h : Hp) : RS := h.newK (.lp .ready none tm ps x y) fun l h =>
      match cl p (ptrAVs fs ++ (.c (.y l) :: ptrAVs cs)) h with
      | .ok _ h => (match h.get l with
        | some (.lp s pend tm' ps x y) => (match s with
          | .busy => .no
          | _ => h.setK l (some (.lp .exhausted pend tm' ps x y)) fun h => .ok (pend.getD .nor) tm ds h)
        | _ => .no)
      | _ => .no
    bif rd then .no else h.newK (.dfr true) fun r h => go (.coll r :: ds) h
  | _ => .no

section
variable (FT : FT)

def evS (n : Nat) : Ev :=
  Nat.rec (motive := fun _ => Ev) (fun _ _ _ _ _ => .no)
    (fun _ ev rd s tm ds h =>
      St.casesOn s
        (.ok .nor tm ds h)
        (fun l => match evIs (evCall FT ev) (evRound ev) l tm ds h with
          | .ok tm ds h => bif rd then (match ds with | [] => .ok .nor tm ds h | _ => .no) else .ok .nor tm ds h
          | .no => .no)
        (fun x y => match ev rd x tm ds h with
          | .ok .nor tm ds h => ev rd y tm ds h
          | r => r)
        (fun c x y => match c.get tm with
          | .c (.b true) => ev rd x tm ds h
          | .c (.b false) => ev rd y tm ds h
          | _ => .no)
        (fun id x => match ev rd x tm ds h with
          | .ok (.exit j) tm ds h => bif Nat.beq j id then .ok .nor tm ds h else .ok (.exit j) tm ds h
          | r => r)
        (fun x => match ev rd x tm ds h with
          | .ok .nor tm ds h => ev rd (.loop x) tm ds h
          | r => r)
        (fun id => .ok (.exit id) tm ds h)
        (.ok .ret tm ds h)
        (fun f ps x y => evRf (evCall FT ev) rd (f.get tm) ps x y tm ds h)
        .no) n

end
end
end Go.AM

/-
  A function of a program, as the deterministic machine's. Conditions: none (definitions).
-/
namespace Go.AM
noncomputable section

def scOf : Value → Option Sc
  | .bool b => some (.b b)
  | .int k n => some (.i k n)
  | .string s => some (.s (s.data.toList.map UInt8.toNat))
  | .pointer none => some .p0
  | .slice none 0 0 => some .s0
  | .map none => some .m0
  | .nilFunc => some .f0
  | _ => none

def avOf : Value → Option AV
  | .agg cs => (cs.toList.mapM scOf).map .g
  | .tuple vs => if vs.isEmpty then some (.t []) else none
  | v => (scOf v).map .c

def opdOf : Operand → Option Opd
  | .tmp t => if t < 512 then some (.t (.of t)) else none
  | .const v => (avOf v).map .k
  | .func f => if f < 4096 then some (.k (.c (.f (.of f) [] []))) else none
  | .global _ => none

def opds (l : Array Operand) : Option (List Opd) := l.toList.mapM opdOf

section
variable (P : Program)

def szOf (t : TypeId) : Option Nat := (P.info? t).map (·.size)
def byOf (t : TypeId) : Option Nat := (P.info? t).map (·.bytes)
def aggOf (t : TypeId) : Bool := match P.underlying t with | some (.struct _) | some (.array _ _) => true | _ => false
def szU (t : TypeId) : Option Nat := if (P.underlying t).isSome then szOf P t else none
def zeroOf (t : TypeId) : Option AV := ((P.info? t).bind (·.zero)).bind avOf

/-- A type's zero value: its cells. -/
def zeroC (t : TypeId) : Option (List Sc) :=
  match zeroOf P t with
  | some (.c x) => some [x]
  | some (.g l) => some l
  | _ => none

/-- A type's size, where its zero value has as many cells. -/
def szZ (t : TypeId) : Option Nat := match szOf P t, zeroC P t with
  | some n, some z => if z.length = n then some n else none
  | _, _ => none

def sameSc : Sc → Sc → Bool
  | .i k x, .i j y => k == j && x == y
  | .b x, .b y => x == y
  | .s x, .s y => x == y
  | .p0, .p0 | .s0, .s0 | .m0, .m0 | .f0, .f0 => true
  | _, _ => false

def toRuns : List Sc → List (Nat × Sc)
  | [] => []
  | x :: r => match toRuns r with
    | (n, y) :: q => if sameSc x y then (n + 1, y) :: q else (1, x) :: (n, y) :: q
    | [] => [(1, x)]

def repA (n : Nat) (l : List Sc) : List Sc := (List.replicate n l).flatten

/-- The fields' cells, one behind the other. -/
def shpF (sh : TypeId → Option (List CK)) : List Field → Nat → Option (List CK)
  | [], _ => some []
  | f :: r, off => if f.name ≠ "_" && f.offset = off then (match sh f.type with
      | some a => (match shpF sh r (off + a.length) with
        | some b => some (a ++ b)
        | none => none)
      | none => none) else none

/-- The cells of a type whose '==' is the cells', one by one. (No interface, no pointer, no blank field.) -/
def shp : Nat → TypeId → Option (List CK)
  | 0, _ => none
  | d + 1, t => match P.underlying t with
    | some .bool => some [.b]
    | some (.int _) => some [.i]
    | some .string => some [.s]
    | some (.struct fs) => if P.stoodInHeld t then none else (match shpF (shp d) fs.toList 0 with
      | some l => if szOf P t = some l.length then some l else none
      | none => none)
    | some (.array n e) => match shp d e with
      | some l => if szOf P e = some l.length ∧ szOf P t = some (n * l.length) then some (List.replicate n l).flatten else none
      | none => none
    | _ => none

def toRunsK : List CK → List (Nat × CK)
  | [] => []
  | x :: r => match toRunsK r with
    | (n, y) :: q => if x = y then (n + 1, y) :: q else (1, x) :: (n, y) :: q
    | [] => [(1, x)]

/-- The form of a map's keys. -/
def keyForm (k : TypeId) : Option (Bool × List (Nat × CK)) := (shp P 50 k).map fun ks => (aggOf P k, toRunsK ks)

def extOf (name : String) : Option Xt :=
  match name with
  | "sync/atomic.LoadUint32" => some (.aload .u32)
  | "sync/atomic.LoadInt64" => some (.aload .i64)
  | "sync/atomic.LoadUint64" => some (.aload .u64)
  | "sync/atomic.LoadInt32" => some (.aload .i32)
  | "sync/atomic.StoreUint32" | "sync/atomic.StoreInt64" | "sync/atomic.StoreUint64" | "sync/atomic.StoreInt32" => some .astore
  | "sync/atomic.AddInt64" => some (.aadd .i64)
  | "sync/atomic.AddUint64" => some (.aadd .u64)
  | "sync/atomic.AddInt32" => some (.aadd .i32)
  | "sync/atomic.AddUint32" => some (.aadd .u32)
  | "sync/atomic.SwapInt64" => some (.aswap .i64)
  | "sync/atomic.CompareAndSwapInt32" => some (.acas .i32)
  | "sync/atomic.CompareAndSwapInt64" => some (.acas .i64)
  | "internal/bytealg.IndexByteString" => some .ixb
  | "internal/race.Disable" | "internal/race.Enable" => some .nop
  | "internal/race.Acquire" | "internal/race.ReleaseMerge" | "internal/race.Release" => some .nop1
  | _ => none

def cCall (c : Call) : Option XOp := do
  let xs ← opds c.args
  let ty (i : Nat) : Option TypeDesc := (c.argTypes[i]?).bind P.underlying
  match c.callee with
  | .value (.func f) =>
    let fn ← P.funcs[f]?
    if fn.body.isSome then (if f < 4096 then pure (.e (.call (.of f) xs)) else none)
    else if fn.origin = "" then pure (.e (.xt (← extOf fn.name) xs)) else none
  | .value f => pure (.e (.cv (← opdOf f) xs))
  | .invoke .. => none
  | .builtin b => match b, xs with
    | .append, [s, x] => do
      let some (.slice e) := ty 0 | none
      match ty 1 with
      | some (.slice _) | some .string => pure (.e (.app (← szZ P e) (← byOf P e) s x))
      | _ => none
    | .copy, [d, s] => do
      let some (.slice e) := ty 0 | none
      pure (.e (.cpy (← szOf P e) d s))
    | .len, [x] => match ty 0 with
      | some .string => pure (.p (.len true x))
      | some (.slice _) => pure (.p (.len false x))
      | some (.array n _) => pure (.p (.mv (.k (.c (.i .i64 n)))))
      | some (.pointer a) => match P.underlying a with
        | some (.array n _) => pure (.p (.mv (.k (.c (.i .i64 n)))))
        | _ => none
      | some (.map _ _) => pure (.r (.mlen x))
      | _ => none
    | .cap, [x] => match ty 0 with
      | some (.slice _) => pure (.p (.cap x))
      | _ => none
    | .max, xs => pure (.p (.mm true xs))
    | .min, xs => pure (.p (.mm false xs))
    | .delete, [m, k] => match ty 0 with
      | some (.map kt _) => do
        let f ← keyForm P kt
        pure (.e (.del f.1 f.2 m k))
      | _ => none
    | .clear, [m] => match ty 0 with
      | some (.map _ _) => pure (.e (.mclr m))
      | some (.slice e) => do pure (.e (.sclr (← zeroC P e) m))
      | _ => none
    | _, _ => none

def cOp (o : Oper) : Option XOp :=
  match o.op with
  | .move x | .assign x => do pure (.p (.mv (← opdOf x)))
  | .pick c a b => do pure (.p (.pick (← opdOf c) (← opdOf a) (← opdOf b)))
  | .alloc t => do pure (.a (.new (toRuns (← zeroC P t))))
  | .box _ x => do pure (.a (.box (← opdOf x)))
  | .build t ps => do
    let z := toRuns (← zeroC P t)
    match P.underlying t with
    | some (.struct fs) =>
      if !(fs.all fun f => (szOf P f.type).isSome) then none else
      let l ← ps.toList.mapM fun (i, x) => do
        let f ← fs[i]?
        pure (f.offset, ← szOf P f.type, ← opdOf x)
      pure (.p (.bld z l))
    | some (.array _ e) =>
      let n ← szOf P e
      let l ← ps.toList.mapM fun (i, x) => do pure (i * n, n, ← opdOf x)
      pure (.p (.bld z l))
    | _ => none
  | .buildSlice t len ps => do
    let some (.slice e) := P.underlying t | none
    let n ← szZ P e
    let z := toRuns (repA len (← zeroC P e))
    let l ← ps.toList.mapM fun (i, x) => do pure (i * n, n, ← opdOf x)
    if len * n > 16777216 then none else pure (.a (.bls z len l))
  | .load t a => do if aggOf P t then pure (.r (.lda (← szOf P t) (← opdOf a))) else if (P.underlying t).isSome then pure (.r (.ld (← opdOf a))) else none
  | .store t a v => do pure (.e (.st (← szOf P t) (← opdOf a) (← opdOf v)))
  | .nilCheck x => do pure (.p (.nil (← opdOf x)))
  | .binOp op t x y _ => do
    let a ← opdOf x
    let b ← opdOf y
    let eqx (q : EqK) : Option XOp := match op with
      | .eql => some (.p (.eqx false q a b))
      | .neq => some (.p (.eqx true q a b))
      | _ => none
    match P.underlying t with
    | some (.int _) | some .string => pure (.p (.bin op a b))
    | some .bool => eqx .b
    | some (.pointer _) => eqx .p
    | some (.slice _) => eqx .s
    | some (.map _ _) => eqx .m
    | some (.func _ _ _) => eqx .f
    | some (.struct _) | some (.array _ _) =>
      if P.eqGuardType P.depth t then none else
      match shp P 50 t, op with
      | some ks, .eql => pure (.p (.eqa false (toRunsK ks) a b))
      | some ks, .neq => pure (.p (.eqa true (toRunsK ks) a b))
      | _, _ => none
    | _ => none
  | .unOp op _ x => do pure (.p (.un op (← opdOf x)))
  | .convert s d x => do
    let x ← opdOf x
    match P.underlying s, P.underlying d with
    | some (.int _), some (.int k) => pure (.p (.cvt k x))
    | some (.pointer e), some .unsafePointer => do if (← szOf P e) = 0 then none else pure (.r (.usp x))
    | some .string, some .string => pure (.p (.sls x none none))
    | some (.slice e), some .string => match P.underlying e with
      | some (.int .u8) => pure (.r (.b2s x))
      | _ => none
    | some .string, some (.slice e) => match P.underlying e with
      | some (.int .u8) => pure (.a (.s2b x))
      | _ => none
    | _, _ => none
  | .makeFunc (.func f) first cs => do
    if f < 4096 then pure (.p (.mkf (.of f) (← opds first) (← opds cs))) else none
  | .makeMap _ none => pure (.a .mkm)
  | .makeSlice t l c => do
    let some (.slice e) := P.underlying t | none
    pure (.a (.mks (← szZ P e) (← byOf P e) (← zeroC P e) (← opdOf l) (← opdOf c)))
  | .slice t x lo hi mx => do
    let x ← opdOf x
    let lo ← lo.mapM opdOf
    let hi ← hi.mapM opdOf
    let mx ← mx.mapM opdOf
    match P.underlying t with
    | some .string => if mx.isNone then pure (.p (.sls x lo hi)) else none
    | some (.slice e) => pure (.p (.slc (← szOf P e) x lo hi mx))
    | some (.array n e) => pure (.p (.sla n (← szOf P e) x lo hi mx))
    | some (.pointer a) => match P.underlying a with
      | some (.array n e) => pure (.p (.sla n (← szOf P e) x lo hi mx))
      | _ => none
    | _ => none
  | .fieldAddr s x f => do
    let some (.struct fs) := P.underlying s | none
    let f ← fs[f]?
    if (← szOf P f.type) = 0 then none else pure (.p (.fa f.offset (← opdOf x)))
  | .field t x f => do
    let some (.struct fs) := P.underlying t | none
    let f ← fs[f]?
    pure (.p (.fld f.offset (← szU P f.type) (aggOf P f.type) (← opdOf x)))
  | .indexAddr t x i => match P.underlying t with
    | some (.array n e) => do pure (.p (.iar n (← szOf P e) (← opdOf x) (← opdOf i)))
    | some (.slice e) => do pure (.p (.isl (← szOf P e) (← opdOf x) (← opdOf i)))
    | _ => none
  | .index t x i => match P.underlying t with
    | some (.array n e) => do pure (.p (.ixa n (← szU P e) (aggOf P e) (← opdOf x) (← opdOf i)))
    | some .string => do pure (.p (.ixs (← opdOf x) (← opdOf i)))
    | _ => none
  | .lookup t x i ok => match P.underlying t with
    | some (.map kt e) => do
      let f ← keyForm P kt
      match zeroOf P e with
      | some (.t _) => none
      | some z => do pure (.r (.lkp f.1 f.2 z ok (← opdOf x) (← opdOf i)))
      | none => none
    | _ => none
  | .mapUpdate t m k x | .insert t m k x => match P.underlying t with
    | some (.map kt _) => do
      let f ← keyForm P kt
      pure (.e (.mup f.1 f.2 (← opdOf m) (← opdOf k) (← opdOf x)))
    | _ => none
  | .extract x i => do pure (.p (.ext i (← opdOf x)))
  | .call c => cCall P c
  | .defer c => match c.callee with
    | .value f => do pure (.e (.dfr (← opdOf f) (← opds c.args)))
    | _ => none
  | _ => none

def opAt (o : Oper) : XOp := (cOp P o).getD .bad

/-! ## Regions -/
def dstOf (nt : Nat) (o : Oper) : Option (Option P3) :=
  match o.dst with
  | none => some none
  | some t => if t < nt then some (some (.of t)) else none

def guardOf (ops : Array Oper) (o : Oper) : Option (Option (P3 × Bool)) :=
  match o.guard with
  | none => some none
  | some (j, w) => match (ops[j]?).bind (·.dst) with
    | some t => if t < 512 then some (some (.of t, w)) else none
    | none => none

def itOf (nt : Nat) (ops : Array Oper) (o : Oper) (op : XOp) : Option It := do
  match ← guardOf ops o, ← dstOf nt o with
  | none, some d => pure (.o d op)
  | none, none => pure (.o' op)
  | some (c, w), some d => pure (.g c w d op)
  | some (c, w), none => pure (.g' c w op)

/-! ## The slots that an operation looks at -/
def Opd.sl : Opd → List P3
  | .t p => [p]
  | .k _ => []
def opsl (l : List Opd) : List P3 := l.flatMap Opd.sl
def slO (x : Option Opd) : List P3 := match x with | some x => x.sl | none => []
def POp.sl : POp → List P3
  | .mv x => x.sl | .pick c a b => c.sl ++ a.sl ++ b.sl | .bin _ x y => x.sl ++ y.sl | .eqx _ _ x y => x.sl ++ y.sl | .eqa _ _ x y => x.sl ++ y.sl
  | .un _ x => x.sl | .cvt _ x => x.sl | .fa _ x => x.sl | .iar _ _ x i => x.sl ++ i.sl | .isl _ x i => x.sl ++ i.sl | .ixa _ _ _ x i => x.sl ++ i.sl
  | .ixs x i => x.sl ++ i.sl | .fld _ _ _ x => x.sl | .sls x lo hi => x.sl ++ slO lo ++ slO hi | .slc _ x lo hi mx => x.sl ++ slO lo ++ slO hi ++ slO mx
  | .sla _ _ x lo hi mx => x.sl ++ slO lo ++ slO hi ++ slO mx | .ext _ x => x.sl | .nil x => x.sl | .bld _ ps => ps.flatMap fun p => p.2.2.sl
  | .len _ x => x.sl | .cap x => x.sl | .mm _ xs => opsl xs | .mkf _ fs cs => opsl fs ++ opsl cs
def ROp.sl : ROp → List P3
  | .ld x => x.sl | .lda _ x => x.sl | .lkp _ _ _ _ m k => m.sl ++ k.sl | .mlen x => x.sl | .b2s x => x.sl | .usp x => x.sl
def AOp.sl : AOp → List P3
  | .new _ => [] | .box x => x.sl | .bls _ _ ps => ps.flatMap fun p => p.2.2.sl | .mks _ _ _ l c => l.sl ++ c.sl | .mkm => [] | .s2b x => x.sl
def EOp.sl : EOp → List P3
  | .st _ x v => x.sl ++ v.sl | .call _ xs => opsl xs | .cv f xs => f.sl ++ opsl xs | .app _ _ s x => s.sl ++ x.sl | .cpy _ d s => d.sl ++ s.sl
  | .mup _ _ m k x => m.sl ++ k.sl ++ x.sl | .mnew _ _ m k x => m.sl ++ k.sl ++ x.sl | .del _ _ m k => m.sl ++ k.sl | .mclr m => m.sl | .sclr _ x => x.sl
  | .xt _ xs => opsl xs | .dfr f xs => f.sl ++ opsl xs
def XOp.sl : XOp → List P3
  | .bad => [] | .p o => o.sl | .r o => o.sl | .a o => o.sl | .e o => o.sl

/-! ## A region that draws its order -/
inductive Kl where | p | r | a | m | e deriving DecidableEq
def clOf : XOp → Kl
  | .p _ => .p | .r _ => .r | .a _ => .a | .e (.mnew _ _ _ _ _) => .m | .e _ => .e | .bad => .e

/-- In such a region a map's literal is laid out behind all else. -/
def drawOp (o : Oper) : XOp :=
  match o.op with
  | .insert _ _ _ _ => match opAt P o with
    | .e (.mup ka ks m k x) => .e (.mnew ka ks m k x)
    | _ => .bad
  | _ => opAt P o

/-- What is asked of an operation of such a region. -/
structure DOp where
  x : XOp
  dst : Option P3
  guard : Option (P3 × Bool)
  /-- Which operations lie ahead of it: bits. -/
  anc : Nat

def dopsGo (nt : Nat) (ops : Array Oper) : List Oper → Nat → List Nat → Option (List DOp)
  | [], _, _ => some []
  | o :: r, i, ms => do
    if !(o.after.all fun e => !Region.binds .any e || Nat.blt e.on i) then none else
    let m := o.after.toList.foldl (fun m e => if Region.binds .any e then Nat.lor (Nat.lor m (Nat.shiftLeft 1 e.on)) (ms.getD e.on 0) else m) 0
    let d : DOp := ⟨drawOp P o, ← dstOf nt o, ← guardOf ops o, m⟩
    let ds ← dopsGo nt ops r (i + 1) (ms ++ [m])
    pure (d :: ds)

def dops (nt : Nat) (ops : Array Oper) : Option (List DOp) := dopsGo P nt ops ops.toList 0 []

end
def bit (m i : Nat) : Bool := Nat.testBit m i
def sub? (m n : Nat) : Bool := Nat.beq (Nat.lor m n) n

/-- A level: what is read and reckoned; what is made (and reckoned from it); a map's entries; the act that ends it, and what is then looked at again. -/
structure Lv where
  pre : List Nat
  als : List Nat
  ms : List Nat
  act : Option (Nat × List Nat)

def wr (ds : List DOp) (p : P3) : Option Nat := ds.findIdx? fun d => d.dst == some p

def kindAt (ds : List DOp) (i : Nat) : Kl := clOf ((ds[i]?).map (·.x)|>.getD .bad)
def ancAt (ds : List DOp) (i : Nat) : Nat := (ds[i]?).map (·.anc) |>.getD 0
def DOp.sl (d : DOp) : List P3 := d.x.sl ++ (match d.guard with | some (c, _) => [c] | none => [])
def slAt (ds : List DOp) (i : Nat) : List P3 := (ds[i]?).map (·.sl) |>.getD []

def distinct : List P3 → Bool
  | [] => true
  | p :: r => !r.contains p && distinct r

/-- No slot has two writers; what is looked at was written ahead, or not here, or is written behind (by what makes no memory). -/
def slotsOk (ds : List DOp) : Bool :=
  distinct (ds.filterMap (·.dst)) &&
  (List.range ds.length).all fun i => (slAt ds i).all fun p => match wr ds p with
    | some j => bit (ancAt ds i) j || (bit (ancAt ds j) i && kindAt ds j != .a)
    | none => true
def mask (l : List Nat) : Nat := l.foldl (fun m i => Nat.lor m (Nat.shiftLeft 1 i)) 0

/-- One after the other: each of a fit kind, not done yet, behind all that lies ahead of it. -/
def runOk (ds : List DOp) (fit : Nat → Bool) : List Nat → Nat → Option Nat
  | [], D => some D
  | i :: r, D => if Nat.blt i ds.length && fit i && !bit D i && sub? (ancAt ds i) D then runOk ds fit r (Nat.lor D (Nat.shiftLeft 1 i)) else none

/-- The map that an entry is laid into: it is made here, behind all acts. -/
def mapOf (ds : List DOp) (i : Nat) : Option Nat := match (ds[i]?).map DOp.x with
  | some (XOp.e (.mnew _ _ (.t p) _ _)) => wr ds p
  | _ => none
def mapOk (ds : List DOp) (i L : Nat) : Bool := match ds[i]?, mapOf ds i with
  | some d, some j => d.guard.isNone && d.dst.isNone && !bit L j && bit d.anc j && (match ds[j]? with
    | some c => c.guard.isNone && (match c.x with | .a .mkm => true | _ => false)
    | none => false)
  | _, _ => false

/-- D: what is done; A: the acts; L: what was made; R: what was read. LA: all that is made here. -/
def lvsOk (ds : List DOp) (LA : Nat) : List Lv → (D A L R : Nat) → Bool
  | [], _, _, _, _ => false
  | lv :: rest, D, A, L, R =>
    match runOk ds (fun i => kindAt ds i == .p || (kindAt ds i == .r && sub? A (ancAt ds i) && Nat.beq (Nat.land (ancAt ds i) LA) 0)) lv.pre D with
    | none => false
    | some D1 => match runOk ds (fun i => kindAt ds i == .p || kindAt ds i == .a) lv.als D1 with
      | none => false
      | some D2 =>
        let R := Nat.lor R (mask (lv.pre.filter fun i => kindAt ds i == .r))
        let L0 := L
        let L := Nat.lor L (mask (lv.als.filter fun i => kindAt ds i == .a))
        match lv.act with
        | none => (match runOk ds (fun i => kindAt ds i == .p || (kindAt ds i == .m && mapOk ds i L0)) lv.ms D2 with
          | none => false
          | some D3 => rest.isEmpty && (List.range ds.length).all fun i => bit D3 i)
        | some (e, cs) => lv.ms.isEmpty && Nat.blt e ds.length && kindAt ds e == .e && !bit D2 e && sub? (ancAt ds e) D2 && sub? A (ancAt ds e) && sub? L (ancAt ds e) &&
            (cs.all fun i => Nat.blt i ds.length && kindAt ds i == .r && bit R i && (slAt ds i).all fun p => match wr ds p with
              | some j => bit (ancAt ds i) j || !bit (Nat.lor D2 (Nat.shiftLeft 1 e)) j
              | none => true) && sub? R (Nat.lor (ancAt ds e) (mask cs)) &&
            lvsOk ds LA rest (Nat.lor D2 (Nat.shiftLeft 1 e)) (Nat.lor A (Nat.shiftLeft 1 e)) L R

/-- The levels: whatever they are, they are looked at by 'lvsOk'. -/
def mkLvs (ds : List DOp) : List Lv :=
  let n := ds.length
  let cl := kindAt ds
  let an (i j : Nat) : Bool := bit (ancAt ds i) j
  let es := (List.range n).filter fun i => cl i == .e
  let as := (List.range n).filter fun i => cl i == .a
  let m := es.length
  let under (i : Nat) : Bool := as.any (an i)
  let lo (i : Nat) : Nat := (es.filter (an i)).length
  let hi (i : Nat) : Nat := (es.takeWhile fun e => !an e i).length
  let mm := (List.range n).filter fun i => cl i == .m
  let last (i : Nat) : Bool := cl i == .m || (cl i == .p && mm.any (an i))
  let late (i : Nat) : Bool := cl i == .a || (cl i == .p && under i)
  let lev (i : Nat) : Nat := if late i then hi i else lo i
  let here (k : Nat) : List Nat := (List.range n).filter fun i => cl i != .e && !last i && lev i == k
  (List.range (m + 1)).map fun k =>
    ⟨(here k).filter fun i => !late i, (here k).filter late, if k < m then [] else (List.range n).filter last, if k < m then (let e := es.getD k 0
      some (e, (List.range n).filter fun i => cl i == .r && lev i ≤ k && !an e i)) else none⟩

def dIt (d : DOp) : It := match d.x, d.guard, d.dst with
  | .a o, none, some t => .al t o
  | .a o, some (c, w), some t => .gal c w t o
  | x, none, some t => .o t x
  | x, none, none => .o' x
  | x, some (c, w), some t => .g c w t x
  | x, some (c, w), none => .g' c w x
def dChk (d : DOp) : It := match d.x, d.guard, d.dst with
  | .r r, none, some t => .chk t r
  | .r r, some (c, w), some t => .gchk c w t r
  | _, _, _ => .o' .bad
def dAt (ds : List DOp) (f : DOp → It) (i : Nat) : It := match ds[i]? with | some d => f d | none => .o' .bad

def lvIts (ds : List DOp) (lv : Lv) : List It :=
  lv.pre.map (dAt ds dIt) ++ (lv.als.map (dAt ds dIt) ++ (lv.ms.map (dAt ds dIt) ++ match lv.act with | none => [] | some (e, cs) => dAt ds dIt e :: cs.map (dAt ds dChk)))

/-- What is made has a slot. -/
def alsOk (ds : List DOp) : Bool := ds.all fun d => (clOf d.x != .a && clOf d.x != .r) || d.dst.isSome
def resv (ds : List DOp) : List It := ds.filterMap fun d => match d.x, d.dst with | .a _, some t => some (.rs t) | _, _ => none

def drawIts (ds : List DOp) : Option (List It) :=
  let lvs := mkLvs ds
  if slotsOk ds && alsOk ds && lvsOk ds (mask ((List.range ds.length).filter fun i => kindAt ds i == .a)) lvs 0 0 0 0 then some (resv ds ++ lvs.flatMap (lvIts ds)) else none

section
variable (P : Program)

def cReg (nt : Nat) (ops : Array Oper) (draw : Bool) : St :=
  if draw then (match (dops P nt ops).bind drawIts with
    | some l => .reg l
    | none => .bad)
  else match ops.toList.mapM (fun o => itOf nt ops o (opAt P o)) with
    | some l => .reg l
    | none => .bad

def cCode (nt : Nat) : Code → St
  | .skip => .skip
  | .region _ ops d => cReg P nt ops d
  | .seq a b => .seq (cCode nt a) (cCode nt b)
  | .cond c a b => match opdOf c with
    | some c => .cond c (cCode nt a) (cCode nt b)
    | none => .bad
  | .block id a => .block id (cCode nt a)
  | .loop a => .loop (cCode nt a)
  | .rangeFunc f ps a b => match opdOf f with
    | some f => if ps.all (· < nt) then .rf f (ps.toList.map .of) (cCode nt a) (cCode nt b) else .bad
    | none => .bad
  | .exit id => .exit id
  | .ret => .ret
  | .scope a => cCode nt a
  | .label _ => .skip
  | _ => .bad

def rsOf : ResultVar → Option Rs
  | .tmp t => if t < 512 then some (.t (.of t)) else none
  | .cell a t => if a < 512 then (if aggOf P t then (szOf P t).map fun n => .lda n (.of a) else if (P.underlying t).isSome then some (.ld (.of a)) else none) else none

def cFn (f : Func) : Option AFn := do
  let b ← f.body
  let k := f.params.size + f.nfree
  if f.ntmps > 512 || k > f.ntmps || f.name == "runtime.NumGoroutine" then none
  pure (.fn ((List.range k).map .of) (← f.results.toList.mapM (rsOf P)) (cCode P f.ntmps b))

end
end
end Go.AM

/-
  Summaries of functions whose answers hang on no order, though they go through a map, or ask for a capacity. Conditions: none (definitions).
-/
namespace Go.AM
noncomputable section

def insI (x : Int) : List Int → List Int
  | [] => [x]
  | y :: r => bif intLe x y then x :: y :: r else y :: insI x r

def sortI : List Int → List Int
  | [] => []
  | x :: r => insI x (sortI r)

def intKeys : List (AV × AV) → Option (List Int)
  | [] => some []
  | (.c (.i .i64 n), _) :: r => (intKeys r).map (n :: ·)
  | _ => none

/-- 'slices.Sorted(maps.Keys(m))', of a map of int keys. 'kf': the number of the closure that maps.Keys makes. -/
def oSorted (kf : P4) (xs : List AV) (h : Hp) : RV :=
  match xs with
  | [.c (.f p [] [(r, o)])] => if p = kf then (match rLd (.c (.p r o)) h with
      | some (.c (.m q)) => (match h.get q with
        | some (.mp es _) => (match intKeys es with
          | some l => (match sortI l with
            | [] => .ok (.c .s0) h
            | l => forceL (l.map fun n => Sc.i .i64 n) fun cs => h.newK (.cells true (ropeOf cs)) fun r h => .ok (.c (.sl r 0 cs.length (.u 1))) h)
          | none => .no)
        | _ => .no)
      | some (.c .m0) => .ok (.c .s0) h
      | _ => .no) else .no
  | _ => .no

def putAll : List (AV × AV) → List (AV × AV) → Nat → Option (List (AV × AV) × Nat)
  | [], d, c => some (d, c)
  | (k, v) :: r, d, c => bif cmpAll k d then (match put k v d with
    | some d => putAll r d c
    | none => putAll r (d ++ [(k, v)]) (Nat.succ c)) else none

/-- 'maps.Copy(d, s)'. -/
def oCopy (xs : List AV) (h : Hp) : RV :=
  match xs with
  | [.c (.m a), .c (.m b)] => match h.get a, h.get b with
    | some (.mp d c), some (.mp s _) => (match putAll s d c with
      | some (d, c) => forceL d fun d => forceN c fun c => h.setK a (some (.mp d c)) fun h => .ok (.t []) h
      | none => .no)
    | _, _ => .no
  | _ => .no

/-- 'slices.Grow(s, n)', where the slice is at its end: the same cells, perhaps elsewhere. -/
def oGrow (sz bytes : Nat) (xs : List AV) (h : Hp) : RV :=
  match xs with
  | [s, .c (.i _ (.ofNat n))] => (match s with
    | .c .s0 => bif Nat.beq n 0 then .ok s h else
        bif Nat.ble (Nat.mul n (Nat.succ bytes)) 1099511627776 then appNew sz h 0 [] none else .no
    | .c (.sl r _ k (.u z)) => bif Nat.beq z sz then bif isW h r then (bif Nat.ble (Nat.mul (Nat.add k n) (Nat.succ bytes)) 1099511627776 then (match firsts sz k s h with
        | some l => appNew sz h k l (some r)
        | none => .no) else .no) else .no else .no
    | _ => .no)
  | _ => .no

/-- Places (a space and a page) of a map, as pairs. -/
def pairKeys : List (AV × AV) → Option (List ((Int × Int) × AV))
  | [] => some []
  | (.g [.i .i64 a, .i .i64 b], v) :: r => (pairKeys r).map (((a, b), v) :: ·)
  | _ => none

def insP (x : Int × Int) : List (Int × Int) → List (Int × Int)
  | [] => [x]
  | y :: r => bif (bif intEq x.1 y.1 then intLe x.2 y.2 else intLe x.1 y.1) then x :: y :: r else y :: insP x r

def sortP : List (Int × Int) → List (Int × Int)
  | [] => []
  | x :: r => insP x (sortP r)

def newInts (l : List Int) (n : Nat) (h : Hp) : RV :=
  match l with
  | [] => .ok (.c .s0) h
  | l => forceL (l.map fun n => Sc.i .i64 n) fun cs => h.newK (.cells true (ropeOf cs)) fun r h => .ok (.c (.sl r 0 n (.u 1))) h

def mapAt (off : Nat) (t : AV) (h : Hp) : Option (List ((Int × Int) × AV)) :=
  match t with
  | .c (.p r o) => match rLd (.c (.p r (o + off))) h with
    | some (.c (.m q)) => (match h.get q with
      | some (.mp es _) => pairKeys es
      | _ => none)
    | _ => none
  | _ => none

/-- '(*bind.Table).Pages'. -/
def oPages (xs : List AV) (h : Hp) : RV :=
  match xs with
  | [.c .p0, _] => .ok (.c .s0) h
  | [t, .c (.i _ s)] => (match mapAt 0 t h with
    | some l => let l := sortI ((l.filter fun x => intEq x.1.1 s).map fun x => x.1.2)
      newInts l l.length h
    | none => .no)
  | _ => .no

/-- '(*bind.Table).Uses'. -/
def oUses (xs : List AV) (h : Hp) : RV :=
  match xs with
  | [.c .p0, _] => .ok (.c .s0) h
  | [t, .c (.i _ f)] => (match mapAt 0 t h with
    | some l => let l := sortP ((l.filter fun x => match x.2 with | .g (.i _ g :: _) => intEq g f | _ => false).map fun x => x.1)
      newInts (l.flatMap fun x => [x.1, x.2]) l.length h
    | none => .no)
  | _ => .no

/-- '(*shadow.Table).Out'. -/
def oOut (xs : List AV) (h : Hp) : RV :=
  match xs with
  | [.c .p0] => .ok (.c .s0) h
  | [t] => (match mapAt 1 t h with
    | some l => let l := sortP (l.map fun x => x.1)
      newInts (l.flatMap fun x => [x.1, x.2]) l.length h
    | none => .no)
  | _ => .no

end
end Go.AM

/-
  Laws of the machine's data: slots, tries, forcing, ropes. Conditions stand at each law.
-/
namespace Go.AM
noncomputable section

theorem D.of_n (x : D) : D.of x.n = x := by cases x <;> rfl
theorem D.n_of {n : Nat} (h : n < 8) : (D.of n).n = n := by
  match n, h with
  | 0, _ | 1, _ | 2, _ | 3, _ | 4, _ | 5, _ | 6, _ | 7, _ => rfl
theorem D.n_lt (x : D) : x.n < 8 := by cases x <;> decide
theorem P3.n_of {n : Nat} (h : n < 512) : (P3.of n).n = n := by
  simp only [P3.of, P3.n]
  rw [D.n_of (by omega), D.n_of (by omega), D.n_of (by omega)]; omega
theorem P3.n_lt (p : P3) : p.n < 512 := by
  cases p with | mk x y z => have := x.n_lt; have := y.n_lt; have := z.n_lt; simp only [P3.n]; omega
theorem P3.of_n (p : P3) : P3.of p.n = p := by
  cases p with | mk x y z =>
    have hx := x.n_lt; have hy := y.n_lt; have hz := z.n_lt
    simp only [P3.n, P3.of]
    rw [show (x.n * 64 + y.n * 8 + z.n) / 64 = x.n by omega, show (x.n * 64 + y.n * 8 + z.n) / 8 % 8 = y.n by omega, show (x.n * 64 + y.n * 8 + z.n) % 8 = z.n by omega,
      D.of_n, D.of_n, D.of_n]
theorem P3.n_inj {p q : P3} (h : p.n = q.n) : p = q := by rw [← P3.of_n p, h, P3.of_n]
theorem P4.n_of {n : Nat} (h : n < 4096) : (P4.of n).n = n := by
  simp only [P4.of, P4.n]
  rw [D.n_of (by omega), P3.n_of (by omega)]; omega

section
variable {α β : Type}

def N8.get (x : N8 α) (i : D) : α := N8.getK x i id
def N8.set (x : N8 α) (i : D) (v : α) : N8 α := N8.setK x i v id
theorem N8.getK_eq (x : N8 α) (i : D) (k : α → β) : N8.getK x i k = k (N8.get x i) := by cases x; cases i <;> rfl
theorem N8.setK_eq (x : N8 α) (i : D) (v : α) (k : N8 α → β) : N8.setK x i v k = k (N8.set x i v) := by cases x; cases i <;> rfl
theorem N8.get_set (x : N8 α) (i j : D) (v : α) : (N8.set x i v).get j = if i = j then v else x.get j := by
  cases x; cases i <;> cases j <;> rfl
theorem N8.get_all (v : α) (i : D) : (N8.all v).get i = v := by cases i <;> rfl

def T8.get (t : T8 α) (p : P3) : α := T8.getK t p id
def T8.set (t : T8 α) (p : P3) (v : α) : T8 α := T8.setK t p v id
theorem T8.getK_eq (t : T8 α) (p : P3) (k : α → β) : T8.getK t p k = k (T8.get t p) := by
  cases p with | mk x y z => simp only [T8.get, T8.getK, T8.getG, N8.getK_eq, id]
theorem T8.setK_eq (t : T8 α) (p : P3) (v : α) (k : T8 α → β) : T8.setK t p v k = k (T8.set t p v) := by
  cases p with | mk x y z => simp only [T8.set, T8.setK, T8.setG, N8.getK_eq, N8.setK_eq, id]
theorem T8.get_eq (t : T8 α) (x y z : D) : T8.get t (.mk x y z) = ((N8.get t x).get y).get z := by
  simp only [T8.get, T8.getK, T8.getG, N8.getK_eq, id]
theorem T8.set_eq (t : T8 α) (x y z : D) (v : α) : T8.set t (.mk x y z) v = N8.set t x (N8.set (N8.get t x) y (N8.set ((N8.get t x).get y) z v)) := by
  simp only [T8.set, T8.setK, T8.setG, N8.getK_eq, N8.setK_eq, id]
theorem T8.get_set (t : T8 α) (p q : P3) (v : α) : (T8.set t p v).get q = if p = q then v else t.get q := by
  cases p with | mk x y z => cases q with | mk x' y' z' =>
    simp only [T8.get_eq, T8.set_eq, N8.get_set, P3.mk.injEq]
    by_cases h1 : x = x'
    · subst h1
      simp only [if_true, N8.get_set, true_and]
      by_cases h2 : y = y'
      · subst h2
        simp only [if_true, N8.get_set, true_and]
      · simp [h2]
    · simp [h1]
theorem T8.get_all (v : α) (p : P3) : (T8.all v).get p = v := by
  cases p with | mk x y z => simp only [T8.get_eq, T8.all, N8.get_all]
def F8.get (t : N8 (T8 α)) (p : P4) : α := F8.getK t p id
theorem F8.getK_eq (t : N8 (T8 α)) (p : P4) (k : α → β) : F8.getK t p k = k (F8.get t p) := by
  cases p with | mk w p => simp only [F8.get, F8.getK, N8.getK_eq, T8.getK_eq, id]

def Id.succ (i : Id) : Id := i.succK id
theorem Id.succK_eq (i : Id) (k : Id → β) : i.succK k = k i.succ := by
  have h : ∀ (i : Id) (γ : Type) (k : Id → γ), i.succK k = k (i.succK id) := by
    intro i
    induction i with
    | z => intro γ k; rfl
    | q0 p => intro γ k; rfl
    | q1 p => intro γ k; rfl
    | q2 p => intro γ k; rfl
    | q3 p ih =>
      intro γ k
      exact (ih γ _).trans (congrArg k (ih Id fun p => id (Id.q0 p)).symm)
  exact h i β k
theorem Id.val_succ (i : Id) : i.succ.val = i.val + 1 := by
  induction i with
  | z => rfl
  | q0 p => rfl
  | q1 p => rfl
  | q2 p => rfl
  | q3 p ih =>
    show (p.succK fun p => id (Id.q0 p)).val = _
    rw [Id.succK_eq]; simp only [id, Id.val, ih]; omega
theorem Id.same_iff (i j : Id) : i.same j = true ↔ i = j := by
  induction i generalizing j with
  | z => cases j <;> simp [Id.same]
  | q0 p ih => cases j <;> simp [Id.same]; exact ih _
  | q1 p ih => cases j <;> simp [Id.same]; exact ih _
  | q2 p ih => cases j <;> simp [Id.same]; exact ih _
  | q3 p ih => cases j <;> simp [Id.same]; exact ih _

def HT.set (x : Option α) (i : Id) (t : HT α) : HT α := HT.setK x i t id
theorem HT.setK_eq (x : Option α) (i : Id) (t : HT α) (k : HT α → β) : HT.setK x i t k = k (HT.set x i t) := by
  have h : ∀ (i : Id) (γ : Type) (t : HT α) (k : HT α → γ), HT.setK x i t k = k (HT.setK x i t id) := by
    intro i
    induction i with
    | z => intro γ t k; cases t <;> rfl
    | q0 p ih =>
      intro γ t k
      cases t with
      | e => exact (ih γ .e fun r => k (.n none r .e .e .e)).trans (congrArg k (ih (HT α) .e fun r => .n none r .e .e .e).symm)
      | n v a b c d => exact (ih γ a fun r => k (.n v r b c d)).trans (congrArg k (ih (HT α) a fun r => .n v r b c d).symm)
    | q1 p ih =>
      intro γ t k
      cases t with
      | e => exact (ih γ .e fun r => k (.n none .e r .e .e)).trans (congrArg k (ih (HT α) .e fun r => .n none .e r .e .e).symm)
      | n v a b c d => exact (ih γ b fun r => k (.n v a r c d)).trans (congrArg k (ih (HT α) b fun r => .n v a r c d).symm)
    | q2 p ih =>
      intro γ t k
      cases t with
      | e => exact (ih γ .e fun r => k (.n none .e .e r .e)).trans (congrArg k (ih (HT α) .e fun r => .n none .e .e r .e).symm)
      | n v a b c d => exact (ih γ c fun r => k (.n v a b r d)).trans (congrArg k (ih (HT α) c fun r => .n v a b r d).symm)
    | q3 p ih =>
      intro γ t k
      cases t with
      | e => exact (ih γ .e fun r => k (.n none .e .e .e r)).trans (congrArg k (ih (HT α) .e fun r => .n none .e .e .e r).symm)
      | n v a b c d => exact (ih γ d fun r => k (.n v a b c r)).trans (congrArg k (ih (HT α) d fun r => .n v a b c r).symm)
  exact h i β t k

theorem HT.get_e (i : Id) : HT.get i (.e : HT α) = none := by cases i <;> rfl
theorem HT.get_z (v : Option α) (a b c d : HT α) : HT.get .z (.n v a b c d) = v := rfl
theorem HT.get_q0 (p : Id) (v : Option α) (a b c d : HT α) : HT.get (.q0 p) (.n v a b c d) = HT.get p a := rfl
theorem HT.get_q1 (p : Id) (v : Option α) (a b c d : HT α) : HT.get (.q1 p) (.n v a b c d) = HT.get p b := rfl
theorem HT.get_q2 (p : Id) (v : Option α) (a b c d : HT α) : HT.get (.q2 p) (.n v a b c d) = HT.get p c := rfl
theorem HT.get_q3 (p : Id) (v : Option α) (a b c d : HT α) : HT.get (.q3 p) (.n v a b c d) = HT.get p d := rfl
theorem HT.set_q0_e (x : Option α) (p : Id) : HT.set x (.q0 p) .e = .n none (HT.set x p .e) .e .e .e := HT.setK_eq x p .e _
theorem HT.set_q0_n (x : Option α) (p : Id) (v : Option α) (a b c d : HT α) : HT.set x (.q0 p) (.n v a b c d) = .n v (HT.set x p a) b c d := HT.setK_eq x p a _
theorem HT.set_q1_e (x : Option α) (p : Id) : HT.set x (.q1 p) .e = .n none .e (HT.set x p .e) .e .e := HT.setK_eq x p .e _
theorem HT.set_q1_n (x : Option α) (p : Id) (v : Option α) (a b c d : HT α) : HT.set x (.q1 p) (.n v a b c d) = .n v a (HT.set x p b) c d := HT.setK_eq x p b _
theorem HT.set_q2_e (x : Option α) (p : Id) : HT.set x (.q2 p) .e = .n none .e .e (HT.set x p .e) .e := HT.setK_eq x p .e _
theorem HT.set_q2_n (x : Option α) (p : Id) (v : Option α) (a b c d : HT α) : HT.set x (.q2 p) (.n v a b c d) = .n v a b (HT.set x p c) d := HT.setK_eq x p c _
theorem HT.set_q3_e (x : Option α) (p : Id) : HT.set x (.q3 p) .e = .n none .e .e .e (HT.set x p .e) := HT.setK_eq x p .e _
theorem HT.set_q3_n (x : Option α) (p : Id) (v : Option α) (a b c d : HT α) : HT.set x (.q3 p) (.n v a b c d) = .n v a b c (HT.set x p d) := HT.setK_eq x p d _
theorem HT.get_set (x : Option α) (i j : Id) (t : HT α) : HT.get j (HT.set x i t) = if i = j then x else HT.get j t := by
  induction i generalizing j t with
  | z =>
    cases t with
    | e =>
      show HT.get j (.n x .e .e .e .e) = _
      cases j <;> simp [HT.get_z, HT.get_q0, HT.get_q1, HT.get_q2, HT.get_q3, HT.get_e]
    | n v a b c d =>
      show HT.get j (.n x a b c d) = _
      cases j <;> simp [HT.get_z, HT.get_q0, HT.get_q1, HT.get_q2, HT.get_q3]
  | q0 p ih =>
    cases t with
    | e => rw [HT.set_q0_e]; cases j <;> simp [HT.get_z, HT.get_q0, HT.get_q1, HT.get_q2, HT.get_q3, HT.get_e, ih]
    | n v a b c d => rw [HT.set_q0_n]; cases j <;> simp [HT.get_z, HT.get_q0, HT.get_q1, HT.get_q2, HT.get_q3, ih]
  | q1 p ih =>
    cases t with
    | e => rw [HT.set_q1_e]; cases j <;> simp [HT.get_z, HT.get_q0, HT.get_q1, HT.get_q2, HT.get_q3, HT.get_e, ih]
    | n v a b c d => rw [HT.set_q1_n]; cases j <;> simp [HT.get_z, HT.get_q0, HT.get_q1, HT.get_q2, HT.get_q3, ih]
  | q2 p ih =>
    cases t with
    | e => rw [HT.set_q2_e]; cases j <;> simp [HT.get_z, HT.get_q0, HT.get_q1, HT.get_q2, HT.get_q3, HT.get_e, ih]
    | n v a b c d => rw [HT.set_q2_n]; cases j <;> simp [HT.get_z, HT.get_q0, HT.get_q1, HT.get_q2, HT.get_q3, ih]
  | q3 p ih =>
    cases t with
    | e => rw [HT.set_q3_e]; cases j <;> simp [HT.get_z, HT.get_q0, HT.get_q1, HT.get_q2, HT.get_q3, HT.get_e, ih]
    | n v a b c d => rw [HT.set_q3_n]; cases j <;> simp [HT.get_z, HT.get_q0, HT.get_q1, HT.get_q2, HT.get_q3, ih]

@[simp] theorem forceN_eq (n : Nat) (k : Nat → β) : forceN n k = k n := by cases n <;> rfl
@[simp] theorem forceI_eq (i : Int) (k : Int → β) : forceI i k = k i := by cases i <;> simp [forceI]
@[simp] theorem forceL_eq (l : List α) (k : List α → β) : forceL l k = k l := by
  have h : ∀ (l : List α) (k : List α → β), forceL l k = k l := by
    intro l
    induction l with
    | nil => intro k; rfl
    | cons x r ih => intro k; show forceL r (fun r => k (x :: r)) = _; rw [ih]
  exact h l k
@[simp] theorem nth_eq (l : List α) (i : Nat) : nth l i = l[i]? := by
  induction l generalizing i with
  | nil => simp [nth]
  | cons x r ih => cases i with
    | zero => rfl
    | succ m => show nth r m = _; rw [ih]; simp
@[simp] theorem dropK_eq (l : List α) (i : Nat) : dropK l i = l.drop i := by
  induction l generalizing i with
  | nil => simp [dropK]
  | cons x r ih => cases i with
    | zero => rfl
    | succ m => show dropK r m = _; rw [ih]; simp
@[simp] theorem takeK_eq (l : List α) (i : Nat) : takeK l i = l.take i := by
  induction l generalizing i with
  | nil => simp [takeK]
  | cons x r ih => cases i with
    | zero => rfl
    | succ m => show x :: takeK r m = _; rw [ih]; simp

/-- What lies at a place behind a list was laid over. -/
theorem over_get (l : List α) (i : Nat) (ys : List α) (j : Nat) : (over l i ys)[j]? = if i ≤ j ∧ j < i + ys.length ∧ j < l.length then ys[j - i]? else l[j]? := by
  induction l generalizing i j ys with
  | nil => simp [over]
  | cons x r ih =>
    cases i with
    | zero =>
      cases ys with
      | nil => show (x :: r)[j]? = _; simp
      | cons y ys =>
        show (y :: over r 0 ys)[j]? = _
        cases j with
        | zero => simp
        | succ j => simp only [List.getElem?_cons_succ, ih, List.length_cons, Nat.zero_le, true_and, Nat.zero_add, Nat.sub_zero, Nat.succ_lt_succ_iff]
    | succ m =>
      show (x :: over r m ys)[j]? = _
      cases j with
      | zero => simp
      | succ j => simp only [List.getElem?_cons_succ, ih, List.length_cons]; congr 1 <;> simp <;> omega
theorem over_length (l : List α) (i : Nat) (ys : List α) : (over l i ys).length = l.length := by
  induction l generalizing i ys with
  | nil => rfl
  | cons x r ih =>
    cases i with
    | zero => cases ys with
      | nil => rfl
      | cons y ys => show (y :: over r 0 ys).length = _; simp [ih]
    | succ m => show (x :: over r m ys).length = _; simp [ih]

theorem ble_t {a b : Nat} (h : a ≤ b) : Nat.ble a b = true := by simpa using h
theorem ble_f {a b : Nat} (h : b < a) : Nat.ble a b = false := by rw [← Bool.not_eq_true, Nat.ble_eq]; omega

theorem Rope.get_eq (r : Rope α) (h : r.ok) (i : Nat) : r.get i = r.toList[i]? := by
  induction r generalizing i with
  | l xs => show nth xs i = _; simp [Rope.toList]
  | n k a b iha ihb =>
    obtain ⟨ha, hb, hk⟩ := h
    show (bif Nat.ble k i then forceN (Nat.sub i k) b.get else a.get i) = _
    simp only [Rope.toList, List.getElem?_append, forceN_eq]
    by_cases hi : k ≤ i
    · rw [ble_t hi, if_neg (by omega), cond_true, ihb hb, hk]; rfl
    · rw [ble_f (by omega), if_pos (by omega), cond_false]
      exact iha ha i
theorem Rope.read_eq (r : Rope α) (h : r.ok) (i m : Nat) : r.read i m = (r.toList.drop i).take m := by
  induction r generalizing i m with
  | l xs => show takeK (dropK xs i) m = _; simp [Rope.toList]
  | n k a b iha ihb =>
    obtain ⟨ha, hb, hk⟩ := h
    show (bif Nat.ble k i then forceN (Nat.sub i k) fun j => b.read j m
      else bif Nat.ble (Nat.add i m) k then a.read i m
      else List.append (a.read i (Nat.sub k i)) (forceN (Nat.sub m (Nat.sub k i)) fun m' => b.read 0 m')) = _
    simp only [Rope.toList, List.drop_append, forceN_eq, iha ha, ihb hb]
    by_cases hi : k ≤ i
    · rw [ble_t hi, cond_true, List.drop_of_length_le (l := a.toList) (by omega), List.nil_append, ← hk]; rfl
    · rw [ble_f (by omega), cond_false]
      simp only [List.take_append, List.length_drop, ← hk]
      by_cases hm : i + m ≤ k
      · rw [ble_t (show Nat.add i m ≤ k from hm), cond_true, show m - (k - i) = 0 by omega]; simp
      · rw [ble_f (show k < Nat.add i m by show k < i + m; omega), cond_false]
        show (a.toList.drop i).take (k - i) ++ (b.toList.drop 0).take (m - (k - i)) = _
        rw [show i - k = 0 by omega]
        rw [List.take_of_length_le (i := k - i) (by simp; omega), List.take_of_length_le (i := m) (l := a.toList.drop i) (by simp; omega)]

def Rope.write (r : Rope α) (i m : Nat) (ys : List α) : Rope α := r.writeK i m ys id
theorem Rope.writeK_l (xs : List α) (i m : Nat) (ys : List α) (k : Rope α → β) : (Rope.l xs).writeK i m ys k = k (.l (over xs i ys)) := by
  show forceL _ _ = _; simp
theorem Rope.writeK_n (n : Nat) (a b : Rope α) (i m : Nat) (ys : List α) (k : Rope α → β) : (Rope.n n a b).writeK i m ys k =
    bif Nat.ble n i then b.writeK (i - n) m ys fun b' => k (.n n a b')
      else bif Nat.ble (i + m) n then a.writeK i m ys fun a' => k (.n n a' b)
      else a.writeK i (n - i) (ys.take (n - i)) fun a' => b.writeK 0 (m - (n - i)) (ys.drop (n - i)) fun b' => k (.n n a' b') := by
  show (bif Nat.ble n i then forceN (Nat.sub i n) fun j => b.writeK j m ys fun b' => k (.n n a b')
      else bif Nat.ble (Nat.add i m) n then a.writeK i m ys fun a' => k (.n n a' b)
      else forceN (Nat.sub n i) fun p => a.writeK i p (takeK ys p) fun a' => forceN (Nat.sub m p) fun q => b.writeK 0 q (dropK ys p) fun b' => k (.n n a' b')) = _
  simp only [forceN_eq, takeK_eq, dropK_eq]; rfl
theorem Rope.writeK_eq (r : Rope α) (i m : Nat) (ys : List α) (k : Rope α → β) : r.writeK i m ys k = k (r.write i m ys) := by
  have h : ∀ (r : Rope α) (γ : Type) (i m : Nat) (ys : List α) (k : Rope α → γ), r.writeK i m ys k = k (r.writeK i m ys id) := by
    intro r
    induction r with
    | l xs => intro γ i m ys k; rw [Rope.writeK_l, Rope.writeK_l]; rfl
    | n q a b iha ihb =>
      intro γ i m ys k
      rw [Rope.writeK_n, Rope.writeK_n]
      cases Nat.ble q i with
      | true =>
        simp only [cond_true]
        rw [ihb γ _ _ _ (fun b' => k (.n q a b')), ihb (Rope α) _ _ _ (fun b' => id (.n q a b'))]; rfl
      | false =>
        simp only [cond_false]
        cases Nat.ble (i + m) q with
        | true =>
          simp only [cond_true]
          rw [iha γ _ _ _ (fun a' => k (.n q a' b)), iha (Rope α) _ _ _ (fun a' => id (.n q a' b))]; rfl
        | false =>
          simp only [cond_false]
          rw [iha γ _ _ _ (fun a' => b.writeK 0 (m - (q - i)) (ys.drop (q - i)) fun b' => k (.n q a' b')), iha (Rope α) _ _ _ (fun a' => b.writeK 0 (m - (q - i)) (ys.drop (q - i)) fun b' => id (.n q a' b'))]
          rw [ihb γ _ _ _ (fun b' => k (.n q (a.writeK i (q - i) (ys.take (q - i)) id) b')), ihb (Rope α) _ _ _ (fun b' => id (.n q (a.writeK i (q - i) (ys.take (q - i)) id) b'))]; rfl
  exact h r β i m ys k
theorem Rope.write_l (xs : List α) (i m : Nat) (ys : List α) : (Rope.l xs).write i m ys = .l (over xs i ys) := Rope.writeK_l xs i m ys id
theorem Rope.write_n (n : Nat) (a b : Rope α) (i m : Nat) (ys : List α) : (Rope.n n a b).write i m ys =
    bif Nat.ble n i then .n n a (b.write (i - n) m ys)
      else bif Nat.ble (i + m) n then .n n (a.write i m ys) b
      else .n n (a.write i (n - i) (ys.take (n - i))) (b.write 0 (m - (n - i)) (ys.drop (n - i))) := by
  unfold Rope.write
  rw [Rope.writeK_n]
  cases Nat.ble n i with
  | true => simp only [cond_true]; rw [Rope.writeK_eq]; rfl
  | false =>
    simp only [cond_false]
    cases Nat.ble (i + m) n with
    | true => simp only [cond_true]; rw [Rope.writeK_eq]; rfl
    | false => simp only [cond_false]; rw [Rope.writeK_eq a, Rope.writeK_eq b]; rfl
/-- What a rope holds when a list was laid over it. -/
theorem Rope.write_spec (r : Rope α) (h : r.ok) (i m : Nat) (ys : List α) (hm : ys.length = m) : (r.write i m ys).ok ∧ (r.write i m ys).toList = over r.toList i ys := by
  induction r generalizing i m ys with
  | l xs => rw [Rope.write_l]; exact ⟨trivial, rfl⟩
  | n q a b iha ihb =>
    obtain ⟨ha, hb, hk⟩ := h
    rw [Rope.write_n]
    by_cases hi : q ≤ i
    · obtain ⟨h1, h2⟩ := ihb hb (i - q) m ys hm
      rw [ble_t hi, cond_true]
      refine ⟨⟨ha, h1, hk⟩, ?_⟩
      simp only [Rope.toList, h2]
      apply List.ext_getElem?
      intro j
      simp only [List.getElem?_append, over_get, ← hk, List.length_append]
      by_cases hj : j < q
      · rw [if_pos hj, if_pos hj, if_neg (by omega)]
      · rw [if_neg hj, if_neg hj]
        by_cases hc : i ≤ j ∧ j < i + ys.length ∧ j < q + b.toList.length
        · rw [if_pos (by omega), if_pos hc]; congr 1; omega
        · rw [if_neg (by omega), if_neg hc]
    · rw [ble_f (by omega), cond_false]
      by_cases hm2 : i + m ≤ q
      · obtain ⟨h1, h2⟩ := iha ha i m ys hm
        rw [ble_t hm2, cond_true]
        refine ⟨⟨h1, hb, by rw [h2, over_length]; exact hk⟩, ?_⟩
        simp only [Rope.toList, h2]
        apply List.ext_getElem?
        intro j
        simp only [List.getElem?_append, over_get, over_length, ← hk, List.length_append]
        by_cases hj : j < q
        · rw [if_pos hj, if_pos hj]
          by_cases hc : i ≤ j ∧ j < i + ys.length
          · rw [if_pos (by omega), if_pos (by omega)]
          · rw [if_neg (by omega), if_neg (by omega)]
        · rw [if_neg hj, if_neg hj, if_neg (by omega)]
      · obtain ⟨h1, h2⟩ := iha ha i (q - i) (ys.take (q - i)) (by simp; omega)
        obtain ⟨h3, h4⟩ := ihb hb 0 (m - (q - i)) (ys.drop (q - i)) (by simp; omega)
        rw [ble_f (by omega), cond_false]
        refine ⟨⟨h1, h3, by rw [h2, over_length]; exact hk⟩, ?_⟩
        simp only [Rope.toList, h2, h4]
        apply List.ext_getElem?
        intro j
        simp only [List.getElem?_append, over_get, over_length, ← hk, List.length_append, List.length_take, List.length_drop, List.getElem?_take, List.getElem?_drop]
        by_cases hj : j < q
        · rw [if_pos hj, if_pos hj]
          by_cases hc : i ≤ j
          · rw [if_pos (by omega), if_pos (by omega), if_pos (by omega)]
          · rw [if_neg (by omega), if_neg (by omega)]
        · rw [if_neg hj, if_neg hj]
          by_cases hc : j < i + ys.length ∧ j < q + b.toList.length
          · rw [if_pos (by omega), if_pos (by omega)]; congr 1; omega
          · rw [if_neg (by omega), if_neg (by omega)]

theorem ropeGo_spec (d n : Nat) (l : List α) (hn : l.length = n) : (ropeGo d n l).ok ∧ (ropeGo d n l).toList = l := by
  induction d generalizing n l with
  | zero => exact ⟨trivial, rfl⟩
  | succ d ih =>
    unfold ropeGo
    cases hb : Nat.ble n 16 with
    | true => exact ⟨trivial, rfl⟩
    | false =>
      simp only [cond_false, takeK_eq, dropK_eq]
      have hq : Nat.div n 2 = n / 2 := rfl
      obtain ⟨h1, h2⟩ := ih (n / 2) (l.take (n / 2)) (by simp; omega)
      obtain ⟨h3, h4⟩ := ih (n - n / 2) (l.drop (n / 2)) (by simp; omega)
      exact ⟨⟨h1, h3, by show n / 2 = (ropeGo d (n / 2) (l.take (n / 2))).toList.length; rw [h2]; simp; omega⟩, by
        show (ropeGo d (n / 2) (l.take (n / 2))).toList ++ (ropeGo d (n - n / 2) (l.drop (n / 2))).toList = _
        rw [h2, h4, List.take_append_drop]⟩
theorem ropeOf_ok (l : List α) : (ropeOf l).ok := (ropeGo_spec 20 l.length l rfl).1
@[simp] theorem ropeOf_toList (l : List α) : (ropeOf l).toList = l := (ropeGo_spec 20 l.length l rfl).2
theorem repL_length (z : List α) (n : Nat) : (repL z n).length = n * z.length := by
  induction n with
  | zero => simp [repL]
  | succ n ih => simp [repL, ih, Nat.succ_mul]; omega
theorem repL_add (z : List α) (a b : Nat) : repL z (a + b) = repL z a ++ repL z b := by
  induction a with
  | zero => simp [repL]
  | succ a ih => rw [show a + 1 + b = (a + b) + 1 by omega]; simp [repL, ih]
theorem ropeRep_spec (z : List α) (sz d c : Nat) (hz : z.length = sz) : (ropeRep z sz d c).ok ∧ (ropeRep z sz d c).toList = repL z c := by
  induction d generalizing c with
  | zero => exact ⟨trivial, rfl⟩
  | succ d ih =>
    unfold ropeRep
    cases hb : Nat.ble c 8 with
    | true => exact ⟨trivial, rfl⟩
    | false =>
      simp only [cond_false]
      obtain ⟨h1, h2⟩ := ih (c / 2)
      obtain ⟨h3, h4⟩ := ih (c - c / 2)
      exact ⟨⟨h1, h3, by show c / 2 * sz = (ropeRep z sz d (c / 2)).toList.length; rw [h2, repL_length, hz]⟩, by
        show (ropeRep z sz d (c / 2)).toList ++ (ropeRep z sz d (c - c / 2)).toList = _
        rw [h2, h4, ← repL_add]; congr 1; omega⟩
end

/-! ## Heaps -/
def Hp.set (h : Hp) (r : Id) (b : Option Blk) : Hp := ⟨h.next, HT.set b r h.t⟩
def Hp.new (h : Hp) (b : Blk) : Hp := ⟨h.next.succ, HT.set (some b) h.next h.t⟩
theorem Hp.newK_eq {β : Type} (h : Hp) (b : Blk) (k : Id → Hp → β) : h.newK b k = k h.next (h.new b) := by
  cases h; simp only [Hp.newK, HT.setK_eq, Id.succK_eq]; rfl
theorem Hp.setK_eq {β : Type} (h : Hp) (r : Id) (b : Option Blk) (k : Hp → β) : h.setK r b k = k (h.set r b) := by
  cases h; simp only [Hp.setK, HT.setK_eq]; rfl
theorem Hp.get_set (h : Hp) (r q : Id) (b : Option Blk) : (h.set r b).get q = if r = q then b else h.get q := HT.get_set _ _ _ _
theorem Hp.get_new (h : Hp) (q : Id) (b : Blk) : (h.new b).get q = if h.next = q then some b else h.get q := HT.get_set _ _ _ _
end
end Go.AM

/-
  How the deterministic machine's values and heaps stand for a world's: the relation, and what keeps it. Conditions stand at each law.
-/
namespace Go.AM

inductive All2 {α β : Type} (R : α → β → Prop) : List α → List β → Prop
  | nil : All2 R [] []
  | cons {a : α} {b : β} {l : List α} {m : List β} : R a b → All2 R l m → All2 R (a :: l) (b :: m)

/-- Where a block of the machine's lies: in which block of the world, and from which cell on. -/
structure Emb where
  f : Id → Option (Nat × Nat)
  /-- How many cells that block of the world has. -/
  e : Id → Nat
instance : CoeFun Emb (fun _ => Id → Option (Nat × Nat)) := ⟨Emb.f⟩

def Emb.le (ρ σ : Emb) : Prop := ∀ r x, ρ r = some x → σ r = some x ∧ σ.e r = ρ.e r
theorem Emb.le_refl (ρ : Emb) : ρ.le ρ := fun _ _ h => ⟨h, rfl⟩
theorem Emb.le_trans {ρ σ τ : Emb} (h : ρ.le σ) (h' : σ.le τ) : ρ.le τ := fun r x hx =>
  let a := h r x hx
  let b := h' r x a.1
  ⟨b.1, b.2.trans a.2⟩

/-- So many elements have room in the block. -/
def Room (ρ : Emb) (r : Id) (o : Nat) (c : Cap) (cap : Nat) : Prop := ∀ z b q, c = .u z → ρ r = some (b, q) → q + o + cap * z ≤ ρ.e r

def At (ρ : Emb) (r : Id) (off : Nat) (a : Addr) : Prop := ∃ b o, ρ r = some (b, o) ∧ a = ⟨b, o + off, none⟩
theorem At.mono {ρ σ : Emb} (h : ρ.le σ) {r : Id} {off : Nat} {a : Addr} (ha : At ρ r off a) : At σ r off a := by
  obtain ⟨b, o, hb, rfl⟩ := ha; exact ⟨b, o, (h _ _ hb).1, rfl⟩

theorem Room.mono {ρ σ : Emb} (h : ρ.le σ) {r : Id} {o : Nat} {a : Addr} {c : Cap} {cap : Nat} (ha : At ρ r o a) (hr : Room ρ r o c cap) : Room σ r o c cap := fun z b q hz hb => by
  obtain ⟨b', q', h1, _⟩ := ha
  obtain ⟨h2, h3⟩ := h _ _ h1
  rw [h2] at hb; cases hb
  rw [h3]; exact hr z _ _ hz h1

/-- Pointers, one by one. -/
inductive RelP (ρ : Emb) : List (Id × Nat) → List Value → Prop
  | nil : RelP ρ [] []
  | cons {r : Id} {o : Nat} {a : Addr} {l : List (Id × Nat)} {vs : List Value} : At ρ r o a → RelP ρ l vs → RelP ρ ((r, o) :: l) (.pointer (some a) :: vs)

def RelS (ρ : Emb) (x : Sc) (v : Value) : Prop :=
  match x with
  | .b t => v = .bool t
  | .i k n => v = .int k n
  | .s l => ∃ s : ByteArray, v = .string s ∧ s.data.toList.map UInt8.toNat = l
  | .p0 => v = .pointer none
  | .p r o => ∃ a, v = .pointer (some a) ∧ At ρ r o a
  | .s0 => v = .slice none 0 0
  | .sl r o n c => ∃ a cap, v = .slice (some a) n cap ∧ n ≤ cap ∧ (∀ m, c = .k m → cap = m) ∧ (cap ≠ 0 → At ρ r o a ∧ Room ρ r o c cap)
  | .m0 => v = .map none
  | .m r => ∃ b, ρ r = some (b, 0) ∧ v = .map (some b)
  | .f0 => v = .nilFunc
  | .f p fs cs => ∃ first caps, v = .func (.func p.n) first caps ∧ RelP ρ fs first.toList ∧ RelP ρ cs caps.toList
  | .y r => ∃ b, ρ r = some (b, 0) ∧ v = .func (.yield b) #[] #[]

theorem RelP.mono {ρ σ : Emb} (h : ρ.le σ) {l : List (Id × Nat)} {vs : List Value} (hl : RelP ρ l vs) : RelP σ l vs := by
  induction hl with
  | nil => exact .nil
  | cons ha _ ih => exact .cons (ha.mono h) ih

theorem RelS.mono {ρ σ : Emb} (h : ρ.le σ) {x : Sc} {v : Value} (hx : RelS ρ x v) : RelS σ x v := by
  cases x with
  | p r o => obtain ⟨a, rfl, ha⟩ := hx; exact ⟨a, rfl, ha.mono h⟩
  | sl r o n c => obtain ⟨a, cap, rfl, h1, h2, h3⟩ := hx; exact ⟨a, cap, rfl, h1, h2, fun hc => ⟨(h3 hc).1.mono h, Room.mono h (h3 hc).1 (h3 hc).2⟩⟩
  | m r => obtain ⟨b, hb, rfl⟩ := hx; exact ⟨b, (h _ _ hb).1, rfl⟩
  | f p fs cs => obtain ⟨a, b, rfl, h1, h2⟩ := hx; exact ⟨a, b, rfl, h1.mono h, h2.mono h⟩
  | y r => obtain ⟨b, hb, rfl⟩ := hx; exact ⟨b, (h _ _ hb).1, rfl⟩
  | _ => exact hx

theorem RelS.one {ρ : Emb} {x : Sc} {v : Value} (hx : RelS ρ x v) : v.oneCell' = true := by
  cases x with
  | b t => cases hx; rfl
  | i k n => cases hx; rfl
  | s l => obtain ⟨s, rfl, _⟩ := hx; rfl
  | p0 => cases hx; rfl
  | p r o => obtain ⟨a, rfl, ha⟩ := hx; rfl
  | s0 => cases hx; rfl
  | sl r o n c => obtain ⟨a, cap, rfl, _⟩ := hx; rfl
  | m0 => cases hx; rfl
  | m r => obtain ⟨b, hb, rfl⟩ := hx; rfl
  | f0 => cases hx; rfl
  | f p fs cs => obtain ⟨a, b, rfl, h1, h2⟩ := hx; rfl
  | y r => obtain ⟨b, hb, rfl⟩ := hx; rfl

abbrev RelL (ρ : Emb) : List Sc → List Value → Prop := All2 (RelS ρ)

theorem forall₂_imp {α β : Type} {R S : α → β → Prop} (h : ∀ a b, R a b → S a b) {l : List α} {m : List β} (hl : All2 R l m) : All2 S l m := by
  induction hl with
  | nil => exact .nil
  | cons ha _ ih => exact .cons (h _ _ ha) ih
theorem forall₂_length {α β : Type} {R : α → β → Prop} {l : List α} {m : List β} (hl : All2 R l m) : l.length = m.length := by
  induction hl with
  | nil => rfl
  | cons _ _ ih => simp [ih]
theorem forall₂_get {α β : Type} {R : α → β → Prop} {l : List α} {m : List β} (hl : All2 R l m) (i : Nat) (x : α) (hx : l[i]? = some x) : ∃ y, m[i]? = some y ∧ R x y := by
  induction hl generalizing i with
  | nil => simp at hx
  | cons ha _ ih => cases i with
    | zero => simp at hx; subst hx; exact ⟨_, by simp, ha⟩
    | succ i => simp at hx ⊢; exact ih i hx
theorem forall₂_get' {α β : Type} {R : α → β → Prop} {l : List α} {m : List β} (hl : All2 R l m) (i : Nat) (y : β) (hy : m[i]? = some y) : ∃ x, l[i]? = some x ∧ R x y := by
  induction hl generalizing i with
  | nil => simp at hy
  | cons ha _ ih => cases i with
    | zero => simp at hy; subst hy; exact ⟨_, by simp, ha⟩
    | succ i => simp at hy ⊢; exact ih i hy
theorem forall₂_of_get {α β : Type} {R : α → β → Prop} {l : List α} {m : List β} (hn : l.length = m.length) (h : ∀ (i : Nat) (x : α) (y : β), l[i]? = some x → m[i]? = some y → R x y) : All2 R l m := by
  induction l generalizing m with
  | nil => cases m with
    | nil => exact .nil
    | cons _ _ => simp at hn
  | cons x l ih => cases m with
    | nil => simp at hn
    | cons y m => exact .cons (h 0 x y (by simp) (by simp)) (ih (by simpa using hn) fun i x y hx hy => h (i + 1) x y (by simpa using hx) (by simpa using hy))
theorem forall₂_take {α β : Type} {R : α → β → Prop} {l : List α} {m : List β} (hl : All2 R l m) (n : Nat) : All2 R (l.take n) (m.take n) := by
  induction hl generalizing n with
  | nil => simp; exact .nil
  | cons ha _ ih => cases n with
    | zero => exact .nil
    | succ n => exact .cons ha (ih n)
theorem forall₂_drop {α β : Type} {R : α → β → Prop} {l : List α} {m : List β} (hl : All2 R l m) (n : Nat) : All2 R (l.drop n) (m.drop n) := by
  induction hl generalizing n with
  | nil => simp; exact .nil
  | cons ha ht ih => cases n with
    | zero => exact .cons ha ht
    | succ n => exact ih n
theorem forall₂_append {α β : Type} {R : α → β → Prop} {l l' : List α} {m m' : List β} (hl : All2 R l m) (hl' : All2 R l' m') : All2 R (l ++ l') (m ++ m') := by
  induction hl with
  | nil => exact hl'
  | cons ha _ ih => exact .cons ha ih

theorem RelL.mono {ρ σ : Emb} (h : ρ.le σ) {l : List Sc} {vs : List Value} (hl : RelL ρ l vs) : RelL σ l vs := forall₂_imp (fun _ _ => RelS.mono h) hl
theorem RelL.one {ρ : Emb} {l : List Sc} {vs : List Value} (hl : RelL ρ l vs) : ∀ v ∈ vs, v.oneCell' = true := by
  induction hl with
  | nil => simp
  | cons ha _ ih => intro v hv; rcases List.mem_cons.1 hv with rfl | hv <;> first | exact ha.one | exact ih v hv

/-- One value, not several results. -/
def RelV0 (ρ : Emb) (x : AV) (v : Value) : Prop :=
  match x with
  | .c x => RelS ρ x v
  | .g l => ∃ cs : Array Value, v = .agg cs ∧ RelL ρ l cs.toList
  | .t _ => False

def RelV (ρ : Emb) (x : AV) (v : Value) : Prop :=
  match x with
  | .t l => ∃ vs : Array Value, v = .tuple vs ∧ All2 (RelV0 ρ) l vs.toList
  | x => RelV0 ρ x v

theorem RelV0.mono {ρ σ : Emb} (h : ρ.le σ) {x : AV} {v : Value} (hx : RelV0 ρ x v) : RelV0 σ x v := by
  cases x with
  | c x => exact RelS.mono h hx
  | g l => obtain ⟨cs, rfl, hl⟩ := hx; exact ⟨cs, rfl, hl.mono h⟩
  | t l => exact hx
theorem RelV.mono {ρ σ : Emb} (h : ρ.le σ) {x : AV} {v : Value} (hx : RelV ρ x v) : RelV σ x v := by
  cases x with
  | c x => exact RelS.mono h hx
  | g l => exact RelV0.mono h (x := .g l) hx
  | t l => obtain ⟨vs, rfl, hl⟩ := hx; exact ⟨vs, rfl, forall₂_imp (fun _ _ => RelV0.mono h) hl⟩
theorem RelV.of0 {ρ : Emb} {x : AV} {v : Value} (h : RelV0 ρ x v) : RelV ρ x v := by
  cases x with
  | t l => exact h.elim
  | _ => exact h
theorem RelV.undef (ρ : Emb) : RelV ρ (.t []) undef := ⟨#[], rfl, .nil⟩
theorem RelV0.cells {ρ : Emb} {x : AV} {v : Value} (h : RelV0 ρ x v) : RelL ρ x.cells v.cells.toList := by
  cases x with
  | c x =>
    have h1 := RelS.one h
    have : v.cells = #[v] := by cases v <;> first | rfl | simp [Value.oneCell'] at h1
    rw [this]; exact .cons h .nil
  | g l => obtain ⟨cs, rfl, hl⟩ := h; exact hl
  | t l => exact h.elim

/-! ## Slots -/
structure RelT (ρ : Emb) (tm : Tm) (tmps : Array Value) : Prop where
  at_ : ∀ p : P3, RelV ρ (tm.get p) (tmps.getD p.n undef)

theorem RelT.mono {ρ σ : Emb} (h : ρ.le σ) {tm : Tm} {tmps : Array Value} (ht : RelT ρ tm tmps) : RelT σ tm tmps := ⟨fun p => (ht.at_ p).mono h⟩
theorem RelT.set {ρ : Emb} {tm : Tm} {tmps : Array Value} (ht : RelT ρ tm tmps) {p : P3} {x : AV} {v : Value} (hp : p.n < tmps.size) (hv : RelV ρ x v) :
    RelT ρ (tm.set p x) (tmps.setIfInBounds p.n v) := ⟨fun q => by
  rw [T8.get_set]
  by_cases h : p = q
  · subst h; simpa [hp] using hv
  · have hn : p.n ≠ q.n := fun e => h (P3.n_inj e)
    have := ht.at_ q
    simpa [h, Array.getElem?_setIfInBounds, hn, Array.getD_eq_getD_getElem?] using this⟩

/-! ## Blocks -/
def LS.of : LS → LoopState
  | .ready => .ready | .busy => .busy | .done => .done | .exhausted => .exhausted

def Ex.code : Ex → Option Code
  | .nor => none
  | .exit id => some (.exit id)
  | .ret => some .ret

/-- An entry of the machine's map, and one of the world's. -/
def RelE (ρ : Emb) (e : AV × AV) (m : MapEntry) : Prop := RelV0 ρ e.1 m.key ∧ RelV0 ρ e.2 m.val

variable (P : Program)

def RelB (ρ : Emb) (w : World) (b o e : Nat) : Blk → Prop
  | .cells wr r => r.ok ∧ ∃ vs, w.rangeAt b o vs ∧ RelL ρ r.toList vs ∧ (wr = true → w.there b 0 e ∧ o + vs.length ≤ e)
  | .mp es ck => o = 0 ∧ ∃ (ms : Array MapEntry) (fs : List (AV × AV)), w.heap[b]? = some (.map ms ck) ∧ fs.Perm es ∧ All2 (RelE ρ) fs ms.toList ∧
      es.Pairwise (fun x y => x.1 ≠ y.1) ∧ (∀ m ∈ ms, m.born < ck) ∧ ms.toList.Pairwise (fun x y => x.born ≠ y.born)
  | .lp s pend tm ps x y => o = 0 ∧ ∃ rec : Loop, w.heap[b]? = some (.loop rec) ∧ rec.state = s.of ∧ rec.pending = pend.bind Ex.code ∧ RelT ρ tm rec.tmps ∧
      rec.params.toList = ps.map P3.n ∧ (∀ p ∈ ps, p.n < rec.tmps.size) ∧ cCode P rec.tmps.size rec.assign = x ∧ cCode P rec.tmps.size rec.body = y ∧ rec.tmps.size ≤ 512
  | .dfr op => o = 0 ∧ w.heap[b]? = some (.deferred (if op then some [] else none))

def Blk.wr : Blk → Bool
  | .cells w _ => w
  | _ => true

end Go.AM

/-
  A heap of the machine's stands for a world's; what keeps it, and what a step may change. Conditions stand at each law.
-/
namespace Go.AM
variable {P : Program}

structure RelH (P : Program) (ρ : Emb) (h : Hp) (w : World) : Prop where
  blk : ∀ r B, h.get r = some B → ∃ b o, ρ r = some (b, o) ∧ b < w.heap.size ∧ RelB P ρ w b o (ρ.e r) B
  dom : ∀ r x, ρ r = some x → r.val < h.next.val
  apart : ∀ r q B C b o o', r ≠ q → h.get r = some B → h.get q = some C → ρ r = some (b, o) → ρ q = some (b, o') → B.wr = false ∧ C.wr = false

/-- Blocks of the world that the machine may write. -/
def Img (ρ : Emb) (h : Hp) (b : Nat) : Prop := ∃ r B o, h.get r = some B ∧ B.wr = true ∧ ρ r = some (b, o)

/-- Blocks of the world that the machine speaks of. -/
def Dom (ρ : Emb) (h : Hp) (b : Nat) : Prop := ∃ r B o, h.get r = some B ∧ ρ r = some (b, o)

/-- What may have become of a world, and of how it is told. -/
structure Step (ρ : Emb) (h : Hp) (w : World) (ρ' : Emb) (h' : Hp) (w' : World) : Prop where
  le : ρ.le ρ'
  size : w.heap.size ≤ w'.heap.size
  keep : ∀ b, b < w.heap.size → ¬ Img ρ h b → w'.heap[b]? = w.heap[b]?
  img : ∀ b, Img ρ' h' b → Img ρ h b ∨ w.heap.size ≤ b
  dom : ∀ b, Dom ρ' h' b → Dom ρ h b ∨ w.heap.size ≤ b
  next : h.next.val ≤ h'.next.val
  fresh : ∀ r x, ρ' r = some x → ρ r = some x ∨ h.next.val ≤ r.val
  tape : w'.tape = w.tape
  os : w'.os = w.os
  out : w'.output = w.output

theorem Step.refl (ρ : Emb) (h : Hp) (w : World) : Step ρ h w ρ h w :=
  ⟨ρ.le_refl, Nat.le_refl _, fun _ _ _ => rfl, fun _ hb => .inl hb, fun _ hb => .inl hb, Nat.le_refl _, fun _ _ h => .inl h, rfl, rfl, rfl⟩
theorem Step.trans {ρ ρ₁ ρ₂ : Emb} {h h₁ h₂ : Hp} {w w₁ w₂ : World} (a : Step ρ h w ρ₁ h₁ w₁) (b : Step ρ₁ h₁ w₁ ρ₂ h₂ w₂) : Step ρ h w ρ₂ h₂ w₂ where
  le := Emb.le_trans a.le b.le
  size := Nat.le_trans a.size b.size
  keep := fun k hk hn => (b.keep k (Nat.lt_of_lt_of_le hk a.size) fun hi => (a.img k hi).elim hn fun hl => absurd hk (by omega)).trans (a.keep k hk hn)
  img := fun k hk => (b.img k hk).elim (a.img k) fun hl => .inr (Nat.le_trans a.size hl)
  dom := fun k hk => (b.dom k hk).elim (a.dom k) fun hl => .inr (Nat.le_trans a.size hl)
  next := Nat.le_trans a.next b.next
  fresh := fun r x hx => (b.fresh r x hx).elim (a.fresh r x) fun hl => .inr (Nat.le_trans a.next hl)
  tape := b.tape.trans a.tape
  os := b.os.trans a.os
  out := b.out.trans a.out

/-! ## What a block's relation looks at -/
theorem cell_of_heap {w w' : World} {b : Nat} (h : w'.heap[b]? = w.heap[b]?) (x : Addr) (hx : x.block = b) : w'.cell? x = w.cell? x := by
  unfold World.cell?; rw [hx, h]
theorem frozen_of_heap {w w' : World} {b : Nat} (h : w'.heap[b]? = w.heap[b]?) (x : Addr) (hx : x.block = b) : w'.frozen? x = w.frozen? x := by
  unfold World.frozen?; rw [hx, h]
theorem RelB.mono {ρ σ : Emb} (hle : ρ.le σ) {w w' : World} {b o e : Nat} {B : Blk} (hw : w'.heap[b]? = w.heap[b]?) (hB : RelB P ρ w b o e B) : RelB P σ w' b o e B := by
  cases B with
  | cells wr r =>
    obtain ⟨hok, vs, h1, h2, h3⟩ := hB
    refine ⟨hok, vs, fun j v hv => ?_, h2.mono hle, fun hwr => ⟨fun j hj => ?_, (h3 hwr).2⟩⟩
    · rw [cell_of_heap hw _ rfl]; exact h1 j v hv
    · rw [cell_of_heap hw _ rfl, frozen_of_heap hw _ rfl]; exact (h3 hwr).1 j hj
  | mp es ck =>
    obtain ⟨ho, ms, l, h1, h2, h3, h4⟩ := hB
    exact ⟨ho, ms, l, hw.trans h1, h2, forall₂_imp (fun a b hab => ⟨hab.1.mono hle, hab.2.mono hle⟩) h3, h4⟩
  | lp s pend tm ps x y =>
    obtain ⟨ho, rec, h1, h2, h3, h4, h5⟩ := hB
    exact ⟨ho, rec, hw.trans h1, h2, h3, h4.mono hle, h5⟩
  | dfr op => exact ⟨hB.1, hw.trans hB.2⟩

/-- Nothing of the heap turned, but the world did elsewhere. -/
theorem RelH.stay {ρ : Emb} {h : Hp} {w w' : World} (H : RelH P ρ h w) (hs : w.heap.size ≤ w'.heap.size) (hk : ∀ b, b < w.heap.size → w'.heap[b]? = w.heap[b]?) : RelH P ρ h w' where
  blk := fun r B hr => let ⟨b, o, h1, h2, h3⟩ := H.blk r B hr; ⟨b, o, h1, by omega, RelB.mono ρ.le_refl (hk b h2) h3⟩
  dom := H.dom
  apart := H.apart

/-! ## A new block -/
def Emb.put (ρ : Emb) (r : Id) (x : Nat × Nat) (e : Nat) : Emb := ⟨fun q => if r = q then some x else ρ q, fun q => if r = q then e else ρ.e q⟩
theorem Emb.le_put {ρ : Emb} {r : Id} {x : Nat × Nat} {e : Nat} (h : ρ r = none) : ρ.le (ρ.put r x e) := fun q y hq => by
  have hne : r ≠ q := fun e => by rw [← e, h] at hq; cases hq
  simp [Emb.put, hne, hq]
theorem Emb.put_same (ρ : Emb) (r : Id) (x : Nat × Nat) (e : Nat) : ρ.put r x e r = some x := by simp [Emb.put]
theorem Emb.put_e (ρ : Emb) (r : Id) (x : Nat × Nat) (e : Nat) : (ρ.put r x e).e r = e := by simp [Emb.put]
theorem Emb.put_get {ρ : Emb} {r q : Id} {x y : Nat × Nat} {e : Nat} (h : ρ.put r x e q = some y) : q = r ∨ ρ q = some y := by
  by_cases hq : r = q
  · exact .inl hq.symm
  · simp [Emb.put, hq] at h; exact .inr h
theorem RelH.none_next {ρ : Emb} {h : Hp} {w : World} (H : RelH P ρ h w) : ρ h.next = none := by
  cases e : ρ h.next with
  | none => rfl
  | some x => exact absurd (H.dom _ _ e) (by omega)

def World.more (w : World) (ob : Obj) (w' : World) : Prop := w'.heap = w.heap.push ob ∧ w'.tape = w.tape ∧ w'.os = w.os ∧ w'.output = w.output

theorem more_old {w w' : World} {ob : Obj} (h : World.more w ob w') (b : Nat) (hb : b < w.heap.size) : w'.heap[b]? = w.heap[b]? := by
  rw [h.1, Array.getElem?_push]; split
  · omega
  · rfl
theorem more_new {w w' : World} {ob : Obj} (h : World.more w ob w') : w'.heap[w.heap.size]? = some ob := by
  rw [h.1, Array.getElem?_push]; simp

theorem RelH.new {ρ : Emb} {h : Hp} {w w' : World} (H : RelH P ρ h w) {ob : Obj} (hw : World.more w ob w') {B : Blk}
    {e : Nat} (hB : RelB P (ρ.put h.next (w.heap.size, 0) e) w' w.heap.size 0 e B) :
    RelH P (ρ.put h.next (w.heap.size, 0) e) (h.new B) w' ∧ Step ρ h w (ρ.put h.next (w.heap.size, 0) e) (h.new B) w' := by
  have hle := Emb.le_put (e := e) (x := (w.heap.size, 0)) H.none_next
  have hsz : w'.heap.size = w.heap.size + 1 := by rw [hw.1]; simp
  have hne : ∀ r C, h.get r = some C → h.next ≠ r := fun r C hr e => by
    obtain ⟨b, o, h1, _⟩ := H.blk r C hr
    have := H.dom r _ h1; rw [← e] at this; omega
  refine ⟨⟨fun r C hr => ?_, fun r x hx => ?_, fun r q C D b o o' hrq hr hq h1 h2 => ?_⟩, ⟨hle, by omega, fun b hb _ => more_old hw b hb, fun b hb => ?_, fun b hb => ?_, by show h.next.val ≤ h.next.succ.val; rw [Id.val_succ]; omega, fun r x hx => (Emb.put_get hx).elim (fun e => .inr (by rw [e]; exact Nat.le_refl _)) .inl, hw.2.1, hw.2.2.1, hw.2.2.2⟩⟩
  · rw [Hp.get_new] at hr
    by_cases e : h.next = r
    · rw [if_pos e] at hr; cases hr; subst e
      exact ⟨_, _, Emb.put_same _ _ _ _, by omega, by rw [Emb.put_e]; exact hB⟩
    · rw [if_neg e] at hr
      obtain ⟨b, o, h1, h2, h3⟩ := H.blk r C hr
      exact ⟨b, o, (hle _ _ h1).1, by omega, by rw [(hle _ _ h1).2]; exact RelB.mono hle (more_old hw b h2) h3⟩
  · show r.val < h.next.succ.val
    rw [Id.val_succ]
    rcases Emb.put_get hx with rfl | hx
    · omega
    · have := H.dom r x hx; omega
  · rw [Hp.get_new] at hr hq
    by_cases er : h.next = r
    · have eq : h.next ≠ q := fun e => hrq (er.symm.trans e)
      rw [if_neg eq] at hq
      obtain ⟨b', o2, h3, h4, _⟩ := H.blk q D hq
      rw [(hle _ _ h3).1] at h2; cases h2
      rw [← er, Emb.put_same] at h1; cases h1; omega
    · rw [if_neg er] at hr
      obtain ⟨b', o2, h3, h4, _⟩ := H.blk r C hr
      by_cases eq : h.next = q
      · rw [(hle _ _ h3).1] at h1; cases h1
        rw [← eq, Emb.put_same] at h2; cases h2; omega
      · rw [if_neg eq] at hq
        obtain ⟨b'', o3, h5, _⟩ := H.blk q D hq
        rw [(hle _ _ h3).1] at h1; cases h1
        rw [(hle _ _ h5).1] at h2; cases h2
        exact H.apart r q C D _ _ _ hrq hr hq h3 h5
  · obtain ⟨r, C, o, hr, hwr, hρ⟩ := hb
    rw [Hp.get_new] at hr
    by_cases e : h.next = r
    · subst e; rw [Emb.put_same] at hρ; cases hρ; exact .inr (Nat.le_refl _)
    · rw [if_neg e] at hr
      obtain ⟨b', o2, h3, _⟩ := H.blk r C hr
      rw [(hle _ _ h3).1] at hρ; cases hρ
      exact .inl ⟨r, C, _, hr, hwr, h3⟩
  · obtain ⟨r, C, o, hr, hρ⟩ := hb
    rw [Hp.get_new] at hr
    by_cases e : h.next = r
    · subst e; rw [Emb.put_same] at hρ; cases hρ; exact .inr (Nat.le_refl _)
    · rw [if_neg e] at hr
      obtain ⟨b', o2, h3, _⟩ := H.blk r C hr
      rw [(hle _ _ h3).1] at hρ; cases hρ
      exact .inl ⟨r, C, _, hr, h3⟩

/-! ## A block that is turned in its place -/
def World.onlyAt (w w' : World) (b : Nat) : Prop :=
  w'.heap.size = w.heap.size ∧ (∀ k, k ≠ b → w'.heap[k]? = w.heap[k]?) ∧ w'.tape = w.tape ∧ w'.os = w.os ∧ w'.output = w.output

theorem RelH.upd {ρ : Emb} {h : Hp} {w w' : World} (H : RelH P ρ h w) {r : Id} {B B' : Blk} {b o : Nat} (hr : h.get r = some B) (hρ : ρ r = some (b, o)) (hwr : B.wr = true)
    (hw : World.onlyAt w w' b) (hB : RelB P ρ w' b o (ρ.e r) B') : RelH P ρ (h.set r (some B')) w' ∧ Step ρ h w ρ (h.set r (some B')) w' := by
  have hoth : ∀ q C b' o', q ≠ r → h.get q = some C → ρ q = some (b', o') → b' ≠ b := fun q C b' o' hqr hq h1 e => by
    subst e
    have := (H.apart q r C B _ _ _ hqr hq hr h1 hρ).2
    rw [hwr] at this; cases this
  refine ⟨⟨fun q C hq => ?_, H.dom, fun q q' C D b1 o1 o2 hne hq hq' h1 h2 => ?_⟩, ⟨ρ.le_refl, by rw [hw.1]; exact Nat.le_refl _, fun k _ hn => hw.2.1 k fun e => hn (e ▸ ⟨r, B, o, hr, hwr, hρ⟩), fun k hk => ?_, fun k hk => ?_, Nat.le_refl _, fun _ _ h => .inl h, hw.2.2.1, hw.2.2.2.1, hw.2.2.2.2⟩⟩
  · rw [Hp.get_set] at hq
    by_cases e : r = q
    · rw [if_pos e] at hq; cases hq; subst e
      obtain ⟨b', o', h1, h2, _⟩ := H.blk r B hr
      rw [hρ] at h1; cases h1
      exact ⟨b, o, hρ, by rw [hw.1]; exact h2, hB⟩
    · rw [if_neg e] at hq
      obtain ⟨b', o', h1, h2, h3⟩ := H.blk q C hq
      exact ⟨b', o', h1, by rw [hw.1]; exact h2, RelB.mono ρ.le_refl (hw.2.1 b' (hoth q C b' o' (fun h => e h.symm) hq h1)) h3⟩
  · rw [Hp.get_set] at hq hq'
    by_cases e : r = q
    · subst e
      rw [if_neg hne] at hq'
      rw [hρ] at h1; cases h1
      exact absurd rfl (hoth q' D _ o2 (fun h => hne h.symm) hq' h2)
    · rw [if_neg e] at hq
      by_cases e' : r = q'
      · subst e'
        rw [hρ] at h2; cases h2
        exact absurd rfl (hoth q C _ o1 (fun h => e h.symm) hq h1)
      · rw [if_neg e'] at hq'
        exact H.apart q q' C D b1 o1 o2 hne hq hq' h1 h2
  · obtain ⟨q, C, o', hq, hC, h1⟩ := hk
    rw [Hp.get_set] at hq
    by_cases e : r = q
    · subst e; rw [hρ] at h1; cases h1; exact .inl ⟨r, B, o, hr, hwr, hρ⟩
    · rw [if_neg e] at hq; exact .inl ⟨q, C, o', hq, hC, h1⟩
  · obtain ⟨q, C, o', hq, h1⟩ := hk
    rw [Hp.get_set] at hq
    by_cases e : r = q
    · subst e; rw [hρ] at h1; cases h1; exact .inl ⟨r, B, o, hr, hρ⟩
    · rw [if_neg e] at hq; exact .inl ⟨q, C, o', hq, h1⟩

/-- A block is spoken of no more. -/
theorem RelH.kill {ρ : Emb} {h : Hp} {w : World} (H : RelH P ρ h w) (r : Id) : RelH P ρ (h.set r none) w ∧ Step ρ h w ρ (h.set r none) w := by
  refine ⟨⟨fun q C hq => ?_, H.dom, fun q q' C D b1 o1 o2 hne hq hq' h1 h2 => ?_⟩, ⟨ρ.le_refl, Nat.le_refl _, fun _ _ _ => rfl, fun k hk => ?_, fun k hk => ?_, Nat.le_refl _, fun _ _ h => .inl h, rfl, rfl, rfl⟩⟩
  · rw [Hp.get_set] at hq
    split at hq
    · cases hq
    · exact H.blk q C hq
  · rw [Hp.get_set] at hq hq'
    split at hq
    · cases hq
    · split at hq'
      · cases hq'
      · exact H.apart q q' C D b1 o1 o2 hne hq hq' h1 h2
  · obtain ⟨q, C, o', hq, hC, h1⟩ := hk
    rw [Hp.get_set] at hq
    split at hq
    · cases hq
    · exact .inl ⟨q, C, o', hq, hC, h1⟩
  · obtain ⟨q, C, o', hq, h1⟩ := hk
    rw [Hp.get_set] at hq
    split at hq
    · cases hq
    · exact .inl ⟨q, C, o', hq, h1⟩

/-- In the place of a block that is spoken of no more another one is, in the same block of the world. -/
theorem RelH.reuse {ρ : Emb} {h : Hp} {w w' : World} (H : RelH P ρ h w) {r : Id} {B B' : Blk} {b o o' : Nat} (hr : h.get r = some B) (hρ : ρ r = some (b, o)) (hwr : B.wr = true)
    (hw : World.onlyAt w w' b) {e : Nat} (hB : RelB P (ρ.put h.next (b, o') e) w' b o' e B') :
    RelH P (ρ.put h.next (b, o') e) ((h.set r none).new B') w' ∧ Step ρ h w (ρ.put h.next (b, o') e) ((h.set r none).new B') w' := by
  have hle := Emb.le_put (e := e) (x := (b, o')) H.none_next
  have hnx : (h.set r none).next = h.next := rfl
  have hoth : ∀ q C b' o', q ≠ r → h.get q = some C → ρ q = some (b', o') → b' ≠ b := fun q C b' o' hqr hq h1 e => by
    subst e
    have := (H.apart q r C B _ _ _ hqr hq hr h1 hρ).2
    rw [hwr] at this; cases this
  have hget : ∀ q C, ((h.set r none).new B').get q = some C → (q = h.next ∧ C = B') ∨ (q ≠ h.next ∧ q ≠ r ∧ h.get q = some C) := fun q C hq => by
    rw [Hp.get_new, hnx, Hp.get_set] at hq
    by_cases e : h.next = q
    · rw [if_pos e] at hq; cases hq; exact .inl ⟨e.symm, rfl⟩
    · rw [if_neg e] at hq
      by_cases e' : r = q
      · rw [if_pos e'] at hq; cases hq
      · rw [if_neg e'] at hq; exact .inr ⟨fun h => e h.symm, fun h => e' h.symm, hq⟩
  obtain ⟨_, _, hb0, hbs, _⟩ := H.blk r B hr
  rw [hρ] at hb0; cases hb0
  refine ⟨⟨fun q C hq => ?_, fun q x hx => ?_, fun q q' C D b1 o1 o2 hne hq hq' h1 h2 => ?_⟩, ⟨hle, by rw [hw.1]; exact Nat.le_refl _, fun k _ hn => hw.2.1 k fun e => hn (e ▸ ⟨r, B, o, hr, hwr, hρ⟩), fun k hk => ?_, fun k hk => ?_, by show h.next.val ≤ h.next.succ.val; rw [Id.val_succ]; omega, fun r x hx => (Emb.put_get hx).elim (fun e => .inr (by rw [e]; exact Nat.le_refl _)) .inl, hw.2.2.1, hw.2.2.2.1, hw.2.2.2.2⟩⟩
  · rcases hget q C hq with ⟨rfl, rfl⟩ | ⟨h1, h2, h3⟩
    · exact ⟨_, _, Emb.put_same _ _ _ _, by rw [hw.1]; exact hbs, by rw [Emb.put_e]; exact hB⟩
    · obtain ⟨b', o2, h4, h5, h6⟩ := H.blk q C h3
      exact ⟨b', o2, (hle _ _ h4).1, by rw [hw.1]; exact h5, by rw [(hle _ _ h4).2]; exact RelB.mono hle (hw.2.1 b' (hoth q C b' o2 h2 h3 h4)) h6⟩
  · show q.val < h.next.succ.val
    rw [Id.val_succ]
    rcases Emb.put_get hx with rfl | hx
    · omega
    · have := H.dom q x hx; omega
  · rcases hget q C hq with ⟨rfl, rfl⟩ | ⟨a1, a2, a3⟩
    · rcases hget q' D hq' with ⟨rfl, rfl⟩ | ⟨c1, c2, c3⟩
      · exact absurd rfl hne
      · obtain ⟨b', o3, h4, _⟩ := H.blk q' D c3
        rw [(hle _ _ h4).1] at h2; cases h2
        rw [Emb.put_same] at h1; cases h1
        exact absurd rfl (hoth q' D _ _ c2 c3 h4)
    · obtain ⟨b', o3, h4, _⟩ := H.blk q C a3
      rw [(hle _ _ h4).1] at h1; cases h1
      rcases hget q' D hq' with ⟨rfl, rfl⟩ | ⟨c1, c2, c3⟩
      · rw [Emb.put_same] at h2; cases h2
        exact absurd rfl (hoth q C _ _ a2 a3 h4)
      · obtain ⟨b'', o4, h5, _⟩ := H.blk q' D c3
        rw [(hle _ _ h5).1] at h2; cases h2
        exact H.apart q q' C D _ _ _ hne a3 c3 h4 h5
  · obtain ⟨q, C, o2, hq, hC, h1⟩ := hk
    rcases hget q C hq with ⟨rfl, rfl⟩ | ⟨a1, a2, a3⟩
    · rw [Emb.put_same] at h1; cases h1; exact .inl ⟨r, B, o, hr, hwr, hρ⟩
    · obtain ⟨b', o3, h4, _⟩ := H.blk q C a3
      rw [(hle _ _ h4).1] at h1; cases h1
      exact .inl ⟨q, C, _, a3, hC, h4⟩
  · obtain ⟨q, C, o2, hq, h1⟩ := hk
    rcases hget q C hq with ⟨rfl, rfl⟩ | ⟨a1, a2, a3⟩
    · rw [Emb.put_same] at h1; cases h1; exact .inl ⟨r, B, o, hr, hρ⟩
    · obtain ⟨b', o3, h4, _⟩ := H.blk q C a3
      rw [(hle _ _ h4).1] at h1; cases h1
      exact .inl ⟨q, C, _, a3, h4⟩

end Go.AM

/-
  Operations that look at their operands alone: what the machine says of them is what the model does. Conditions stand at each law.
-/
namespace Go.AM
variable {P : Program}

/-! ## Operands -/
theorem RelS.of_sc {ρ : Emb} {v : Value} {x : Sc} (h : scOf v = some x) : RelS ρ x v := by
  unfold scOf at h
  split at h <;> first | (cases h; rfl) | (cases h; exact ⟨_, rfl, rfl⟩) | cases h

theorem mapM_all2 {α β : Type} {f : α → Option β} {R : β → α → Prop} (hf : ∀ a b, f a = some b → R b a) : ∀ {l : List α} {m : List β}, l.mapM f = some m → All2 R m l := by
  intro l
  induction l with
  | nil => intro m h; simp at h; subst h; exact .nil
  | cons a l ih =>
    intro m h
    rw [List.mapM_cons] at h
    cases ha : f a with
    | none => rw [ha] at h; cases h
    | some b =>
      rw [ha] at h
      cases hl : l.mapM f with
      | none => rw [hl] at h; cases h
      | some r => rw [hl] at h; cases h; exact .cons (hf a b ha) (ih hl)

theorem RelV.of_av {ρ : Emb} {v : Value} {x : AV} (h : avOf v = some x) : RelV ρ x v := by
  unfold avOf at h
  split at h
  · rename_i cs
    cases hm : cs.toList.mapM scOf with
    | none => rw [hm] at h; cases h
    | some l =>
      rw [hm] at h; cases h
      exact ⟨cs, rfl, mapM_all2 (R := RelS ρ) (fun a b hab => RelS.of_sc hab) hm⟩
  · rename_i vs
    split at h
    · rename_i he
      cases h
      have : vs = #[] := by simpa using he
      subst this; exact ⟨#[], rfl, .nil⟩
    · cases h
  · cases hs : scOf v with
    | none => rw [hs] at h; cases h
    | some s => rw [hs] at h; cases h; exact RelS.of_sc hs

theorem Opd.get_t (p : P3) (tm : Tm) : (Opd.t p).get tm = tm.get p := rfl
theorem Opd.get_k (v : AV) (tm : Tm) : (Opd.k v).get tm = v := rfl

theorem opd_sound {ρ : Emb} {tm : Tm} {a : Act} (ht : RelT ρ tm a.tmps) {x : Operand} {d : Opd} (h : opdOf x = some d) : RelV ρ (d.get tm) (a.eval x) := by
  cases x with
  | tmp t =>
    simp only [opdOf] at h
    split at h
    · rename_i hl; cases h
      have := ht.at_ (P3.of t)
      rw [P3.n_of hl] at this
      rw [Opd.get_t]; exact this
    · cases h
  | const v =>
    simp only [opdOf] at h
    cases hv : avOf v with
    | none => rw [hv] at h; cases h
    | some x => rw [hv] at h; cases h; rw [Opd.get_k]; exact RelV.of_av hv
  | global g => cases h
  | func f =>
    simp only [opdOf] at h
    split at h
    · rename_i hl; cases h
      rw [Opd.get_k]
      exact ⟨#[], #[], by rw [P4.n_of hl]; rfl, .nil, .nil⟩
    · cases h

/-! ## Numbers -/
theorem inK_wrap {k : IntKind} {n : Int} (h : inK k n = true) : k.wrap n = n := by
  cases n with
  | ofNat m =>
    cases k <;> simp only [inK, inPos, Nat.ble_eq] at h <;> simp only [IntKind.wrap, IntKind.bits, IntKind.signed] <;> simp <;> omega
  | negSucc m =>
    cases k <;> simp only [inK, inNeg, Nat.ble_eq] at h <;> first | exact Bool.noConfusion h | (simp only [IntKind.wrap, IntKind.bits, IntKind.signed]; simp; omega)
theorem mkInt_eq (k : IntKind) (n : Int) : mkInt k n = .i k (k.wrap n) := by
  unfold mkInt
  simp only [forceI_eq]
  cases h : inK k n with
  | true => rw [cond_true, inK_wrap h]
  | false => rfl

theorem kindEq_iff {k j : IntKind} (h : kindEq k j = true) : k = j := by cases k <;> cases j <;> first | rfl | cases h
theorem intEq_iff (x y : Int) : intEq x y = (x == y) := by
  cases x with
  | ofNat a => cases y with
    | ofNat b => simp only [intEq]; rw [Bool.eq_iff_iff]; simp; omega
    | negSucc b => simp only [intEq]; rw [Bool.eq_iff_iff]; simp
  | negSucc a => cases y with
    | ofNat b => simp only [intEq]; rw [Bool.eq_iff_iff]; simp
    | negSucc b => simp only [intEq]; rw [Bool.eq_iff_iff]; simp
theorem intLe_iff (x y : Int) : intLe x y = decide (x ≤ y) := by
  cases x with
  | ofNat a => cases y with
    | ofNat b => simp only [intLe]; rw [Bool.eq_iff_iff]; simp
    | negSucc b => simp only [intLe]; rw [Bool.eq_iff_iff]; simp; omega
  | negSucc a => cases y with
    | ofNat b => simp only [intLe]; rw [Bool.eq_iff_iff]; simp; omega
    | negSucc b => simp only [intLe]; rw [Bool.eq_iff_iff]; simp; omega
theorem boolEq_iff (x y : Bool) : boolEq x y = (x == y) := by cases x <;> cases y <;> rfl
theorem sameL_iff (x y : List Nat) : sameL x y = (x == y) := by
  induction x generalizing y with
  | nil => cases y <;> rfl
  | cons a x ih => cases y with
    | nil => rfl
    | cons b y =>
      simp only [sameL, ih]
      cases h : Nat.beq a b with
      | true => rw [Nat.beq_eq] at h; subst h; simp
      | false =>
        have : a ≠ b := fun e => by subst e; simp at h
        rw [cond_false, Bool.eq_iff_iff]; simp [this]

theorem ofInt_toNat (k : IntKind) (n : Int) : (BitVec.ofInt k.bits n).toNat = bitsOf k n := by
  rw [BitVec.toNat_ofInt]; unfold bitsOf; norm_cast

theorem iBool_eq (t : Bool) : iBool t = some (.b t) := by cases t <;> rfl

/-- Two numbers of one kind: the machine's answer is the model's. -/
theorem binI_sound {op : BinOp} {k : IntKind} {x y : Int} {s : Sc} (t : TypeId) (w : World) (h : binI op k x y = some s) :
    ∃ v, (binOp op t (.int k x) (.int k y)).run P w = .ok v w ∧ ∀ ρ, RelS ρ s v := by
  cases op with
  | add => cases h; exact ⟨.int k (k.wrap (x + y)), by simp [binOp, Op.intArith], fun _ => by rw [mkInt_eq]; rfl⟩
  | sub => cases h; exact ⟨.int k (k.wrap (x - y)), by simp [binOp, Op.intArith], fun _ => by rw [mkInt_eq]; rfl⟩
  | mul => cases h; exact ⟨.int k (k.wrap (x * y)), by simp [binOp, Op.intArith], fun _ => by rw [mkInt_eq]; rfl⟩
  | quo =>
    have h : iQuo k x y = some s := h
    simp only [iQuo] at h
    cases e : intEq y (.ofNat 0) with
    | true => rw [e] at h; cases h
    | false =>
      rw [e] at h; cases h
      rw [intEq_iff] at e
      have hy : y ≠ 0 := by simpa using e
      exact ⟨.int k (k.wrap (x.tdiv y)), by simp [binOp, Op.intDiv, hy], fun _ => by rw [mkInt_eq]; rfl⟩
  | rem =>
    have h : iRem k x y = some s := h
    simp only [iRem, forceI_eq] at h
    cases e : intEq y (.ofNat 0) with
    | true => rw [e] at h; cases h
    | false =>
      rw [e] at h; cases h
      rw [intEq_iff] at e
      have hy : y ≠ 0 := by simpa using e
      exact ⟨.int k (x.tmod y), by simp [binOp, Op.intDiv, hy], fun _ => rfl⟩
  | and => cases h; exact ⟨.int k (k.wrap (bitsOf k x &&& bitsOf k y : Nat)), by simp [binOp, Op.intBits]; rfl, fun _ => by rw [mkInt_eq]; rfl⟩
  | or => cases h; exact ⟨.int k (k.wrap (bitsOf k x ||| bitsOf k y : Nat)), by simp [binOp, Op.intBits]; rfl, fun _ => by rw [mkInt_eq]; rfl⟩
  | xor => cases h; exact ⟨.int k (k.wrap (bitsOf k x ^^^ bitsOf k y : Nat)), by simp [binOp, Op.intBits]; rfl, fun _ => by rw [mkInt_eq]; rfl⟩
  | andNot =>
    cases h
    refine ⟨.int k (k.wrap (bitsOf k x &&& (bitsOf k y ^^^ (2 ^ k.bits - 1)) : Nat)), ?_, fun _ => by rw [mkInt_eq]; rfl⟩
    have hb : (~~~ BitVec.ofInt k.bits y).toNat = bitsOf k y ^^^ (2 ^ k.bits - 1) := by
      rw [← BitVec.xor_allOnes, BitVec.toNat_xor, ofInt_toNat, BitVec.toNat_allOnes]
    simp only [binOp, Op.intBits, ne_eq, not_true_eq_false, ite_false, Sem.run_pure]
    rw [BitVec.toNat_and, ofInt_toNat, hb]
  | shl => cases h
  | shr => cases h
  | eql => have h : iBool _ = some s := h; rw [iBool_eq] at h; cases h; exact ⟨.bool (x == y), by simp [binOp, Op.intCmp], fun _ => by rw [intEq_iff]; rfl⟩
  | neq => have h : iBool _ = some s := h; rw [iBool_eq] at h; cases h; exact ⟨.bool (x != y), by simp [binOp, Op.intCmp], fun _ => by rw [intEq_iff]; rfl⟩
  | lss => have h : iBool _ = some s := h; rw [iBool_eq] at h; cases h; exact ⟨.bool (x < y), by simp [binOp, Op.intCmp], fun _ => by rw [intLe_iff]; show _ = _; congr 1; rw [Bool.eq_iff_iff]; simp⟩
  | leq => have h : iBool _ = some s := h; rw [iBool_eq] at h; cases h; exact ⟨.bool (x ≤ y), by simp [binOp, Op.intCmp], fun _ => by rw [intLe_iff]; rfl⟩
  | gtr => have h : iBool _ = some s := h; rw [iBool_eq] at h; cases h; exact ⟨.bool (x > y), by simp [binOp, Op.intCmp], fun _ => by rw [intLe_iff]; show _ = _; congr 1; rw [Bool.eq_iff_iff]; simp⟩
  | geq => have h : iBool _ = some s := h; rw [iBool_eq] at h; cases h; exact ⟨.bool (x ≥ y), by simp [binOp, Op.intCmp], fun _ => by rw [intLe_iff]; rfl⟩

theorem binSh_sound {left : Bool} {k j : IntKind} {x y : Int} {s : Sc} (t : TypeId) (w : World) (h : binSh left k x y = some s) :
    ∃ v, (binOp (if left then .shl else .shr) t (.int k x) (.int j y)).run P w = .ok v w ∧ ∀ ρ, RelS ρ s v := by
  cases y with
  | negSucc n => cases h
  | ofNat n =>
    simp only [binSh, forceN_eq, forceI_eq] at h
    have hn : ¬ ((n : Int) < 0) := by omega
    cases left with
    | true =>
      cases h
      refine ⟨.int k (k.wrap (x * 2 ^ (min n k.bits))), ?_, fun _ => by rw [mkInt_eq]; rfl⟩
      simp [binOp, Op.shift, hn]
    | false =>
      cases h
      refine ⟨.int k (x.fdiv (2 ^ (min n k.bits))), ?_, fun _ => ?_⟩
      · simp [binOp, Op.shift, hn]
      · show _ = Value.int k _; congr 2
end Go.AM

/-
  Operations that look at their operands alone, one by one. Conditions stand at each law.
-/
namespace Go.AM
variable {P : Program} {ρ : Emb}

theorem run_eqGuard_plain (op : BinOp) (t : TypeId) (x y : Operand) (a b : Value) (w : World) (h : ∀ cs ds, ¬ (a = .agg cs ∧ b = .agg ds)) (h2 : a ≠ .nilIface) :
    (eqGuard op t x y a b).run P w = .ok () w := by
  cases op
  case eql => cases a <;> first | exact absurd rfl h2 | rfl | (cases b <;> first | rfl | exact absurd ⟨rfl, rfl⟩ (h _ _))
  case neq => cases a <;> first | exact absurd rfl h2 | rfl | (cases b <;> first | rfl | exact absurd ⟨rfl, rfl⟩ (h _ _))
  all_goals rfl

theorem map_uint8_inj {a b : List UInt8} (h : a.map UInt8.toNat = b.map UInt8.toNat) : a = b := by
  induction a generalizing b with
  | nil => cases b with
    | nil => rfl
    | cons _ _ => cases h
  | cons x a ih => cases b with
    | nil => cases h
    | cons y b =>
      simp only [List.map_cons, List.cons.injEq] at h
      rw [UInt8.toNat_inj.1 h.1, ih h.2]

theorem lessL_iff (a b : List UInt8) : lessL (a.map UInt8.toNat) (b.map UInt8.toNat) = Op.bytesLess a b := by
  induction a generalizing b with
  | nil => cases b <;> rfl
  | cons x a ih => cases b with
    | nil => rfl
    | cons y b =>
      simp only [List.map_cons, lessL, Op.bytesLess, ih]
      by_cases h : y.toNat ≤ x.toNat
      · rw [ble_t h, cond_true]
        have h1 : ¬ (x < y) := by rw [UInt8.lt_iff_toNat_lt]; omega
        by_cases h2 : x = y
        · subst h2; simp
        · have h3 : Nat.beq x.toNat y.toNat = false := by
            cases e : Nat.beq x.toNat y.toNat with
            | false => rfl
            | true => rw [Nat.beq_eq] at e; exact absurd (UInt8.toNat_inj.1 e) h2
          rw [h3, cond_false]; simp [h1, h2]
      · rw [ble_f (by omega), cond_false]
        have h1 : x < y := by rw [UInt8.lt_iff_toNat_lt]; omega
        simp [h1]

theorem size_len (x : ByteArray) : x.size = x.data.toList.length := rfl

theorem less_total (a b : List Nat) : (!lessL b a) = (lessL a b || sameL a b) := by
  induction a generalizing b with
  | nil => cases b <;> rfl
  | cons x a ih => cases b with
    | nil => rfl
    | cons y b =>
      simp only [lessL, sameL]
      by_cases h : x = y
      · subst h; simp [ih, ble_t (Nat.le_refl x)]
      · by_cases h2 : x ≤ y
        · have e1 : Nat.beq y x = false := by rw [← Bool.not_eq_true, Nat.beq_eq]; omega
          have e2 : Nat.beq x y = false := by rw [← Bool.not_eq_true, Nat.beq_eq]; omega
          rw [ble_t h2, ble_f (show x < y by omega), e1, e2]; rfl
        · have e1 : Nat.beq y x = false := by rw [← Bool.not_eq_true, Nat.beq_eq]; omega
          have e2 : Nat.beq x y = false := by rw [← Bool.not_eq_true, Nat.beq_eq]; omega
          rw [ble_f (show y < x by omega), ble_t (show y ≤ x by omega), e2]; rfl
theorem less_total' (a b : List Nat) : lessL b a = !(lessL a b || sameL a b) := by rw [← less_total, Bool.not_not]

theorem byteArray_toList (s : ByteArray) : s.toList = s.data.toList := ByteArray.toList_eq s

theorem binS_sound {op : BinOp} {a b : List Nat} {s : Sc} {x y : ByteArray} (hx : x.data.toList.map UInt8.toNat = a) (hy : y.data.toList.map UInt8.toNat = b) (w : World) (h : binS op a b = some s) :
    ∃ v, (Op.stringOp op x y).run P w = .ok v w ∧ RelS ρ s v := by
  subst hx hy
  have eq : sameL (x.data.toList.map UInt8.toNat) (y.data.toList.map UInt8.toNat) = (x.toList == y.toList) := by
    rw [sameL_iff, byteArray_toList, byteArray_toList, Bool.eq_iff_iff]
    simp only [beq_iff_eq]
    exact ⟨map_uint8_inj, fun h => by rw [h]⟩
  have lt : lessL (x.data.toList.map UInt8.toNat) (y.data.toList.map UInt8.toNat) = Op.bytesLess x.toList y.toList := by
    rw [byteArray_toList, byteArray_toList]; exact lessL_iff _ _
  have gt : lessL (y.data.toList.map UInt8.toNat) (x.data.toList.map UInt8.toNat) = Op.bytesLess y.toList x.toList := by
    rw [byteArray_toList, byteArray_toList]; exact lessL_iff _ _
  cases op with
  | add =>
    have h : (bif Nat.ble (Nat.add _ _) 4611686018427387904 then forceL _ fun l => some (.s l) else none) = some s := h
    simp only [forceL_eq] at h
    cases hb : Nat.ble (Nat.add (x.data.toList.map UInt8.toNat).length (y.data.toList.map UInt8.toNat).length) 4611686018427387904 with
    | false => rw [hb] at h; cases h
    | true =>
      rw [hb] at h; cases h
      rw [Nat.ble_eq] at hb
      have hn : ¬ (((x.size + y.size : Nat) : Int) > IntKind.i64.max) := by
        have : IntKind.i64.max = 9223372036854775807 := rfl
        have hb : x.size + y.size ≤ 4611686018427387904 := by rw [size_len, size_len]; simp only [List.length_map] at hb; exact hb
        rw [this]; clear this; omega
      refine ⟨.string (x ++ y), ?_, x ++ y, rfl, by simp only [ByteArray.toList_data_append, List.map_append]⟩
      unfold Op.stringOp
      simp only []
      rw [if_neg hn]; rfl
  | eql => cases h; exact ⟨_, rfl, by rw [eq]; rfl⟩
  | neq => cases h; exact ⟨_, rfl, by rw [eq]; rfl⟩
  | lss => cases h; exact ⟨_, rfl, by rw [lt]; rfl⟩
  | leq =>
    cases h
    refine ⟨_, rfl, ?_⟩
    show _ = _
    rw [less_total, lt, eq]
  | gtr =>
    cases h
    refine ⟨_, rfl, ?_⟩
    show _ = _
    rw [less_total', lt, eq]
  | geq => cases h; exact ⟨_, rfl, by rw [lt]; rfl⟩
  | _ => cases h

/-- An operation that gives a value and leaves the world. -/
def Gives (P : Program) (ρ : Emb) (w : World) (s : Sem Value) (v : AV) : Prop := ∃ v', s.run P w = .ok v' w ∧ RelV ρ v v'

theorem pBin_sound {op : BinOp} {x y v : AV} {x' y' : Value} {t : TypeId} {xo yo : Operand} {w : World} (hx : RelV ρ x x') (hy : RelV ρ y y') (h : pBin op x y = some v) :
    Gives P ρ w (do eqGuard op t xo yo x' y'; binOp op t x' y') v := by
  unfold pBin at h
  split at h
  · rename_i k a j b
    have hx : x' = .int k a := hx
    have hy : y' = .int j b := hy
    subst hx hy
    have hg := run_eqGuard_plain (P := P) op t xo yo (.int k a) (.int j b) w (by rintro _ _ ⟨h, _⟩; cases h) (by simp)
    split at h
    · cases hs : binSh true k a b with
      | none => rw [hs] at h; cases h
      | some s =>
        rw [hs] at h; cases h
        obtain ⟨v, h1, h2⟩ := binSh_sound (P := P) (j := j) t w hs
        exact ⟨v, by rw [Sem.run_bind, hg, Result.andThen_ok]; exact h1, h2 ρ⟩
    · cases hs : binSh false k a b with
      | none => rw [hs] at h; cases h
      | some s =>
        rw [hs] at h; cases h
        obtain ⟨v, h1, h2⟩ := binSh_sound (P := P) (j := j) t w hs
        exact ⟨v, by rw [Sem.run_bind, hg, Result.andThen_ok]; exact h1, h2 ρ⟩
    · cases hk : kindEq k j with
      | false => rw [hk] at h; cases h
      | true =>
        rw [hk, cond_true] at h
        obtain rfl := kindEq_iff hk
        cases hs : binI op k a b with
        | none => rw [hs] at h; cases h
        | some s =>
          rw [hs] at h; cases h
          obtain ⟨v, h1, h2⟩ := binI_sound (P := P) t w hs
          exact ⟨v, by rw [Sem.run_bind, hg, Result.andThen_ok]; exact h1, h2 ρ⟩
  · rename_i a b
    obtain ⟨s1, rfl, h1⟩ := hx
    obtain ⟨s2, rfl, h2⟩ := hy
    have hg := run_eqGuard_plain (P := P) op t xo yo (.string s1) (.string s2) w (by rintro _ _ ⟨h, _⟩; cases h) (by simp)
    cases hs : binS op a b with
    | none => rw [hs] at h; cases h
    | some s =>
      rw [hs] at h; cases h
      obtain ⟨v, h3, h4⟩ := binS_sound (P := P) h1 h2 w hs
      refine ⟨v, ?_, h4⟩
      rw [Sem.run_bind, hg, Result.andThen_ok]
      have : binOp op t (.string s1) (.string s2) = Op.stringOp op s1 s2 := by
        cases op <;> first | rfl | cases hs
      rw [this]; exact h3
  · cases h

theorem flip_sound {neg : Bool} {r : Option Bool} {v : AV} {op : BinOp} {t : TypeId} {xo yo : Operand} {x' y' : Value} {w : World} (hop : op = if neg then .neq else .eql)
    (hg : (eqGuard op t xo yo x' y').run P w = .ok () w)
    (hf : binOp op t x' y' = (if neg then (do pure (.bool (!(← Op.equal t x' y')))) else (do pure (.bool (← Op.equal t x' y')))))
    (he : ∀ b, r = some b → (Op.equal t x' y').run P w = .ok b w) (h : flip? neg r = some v) : Gives P ρ w (do eqGuard op t xo yo x' y'; binOp op t x' y') v := by
  cases r with
  | none => cases h
  | some b =>
    cases h
    refine ⟨.bool (bif neg then !b else b), ?_, rfl⟩
    rw [Sem.run_bind, hg, Result.andThen_ok, hf]
    cases neg <;> simp [he b rfl]

theorem equal_eq (t : TypeId) (x y : Value) : Op.equal t x y = Op.equalIn (9999 + 1) t x y := rfl

theorem pEqx_sound {neg : Bool} {q : EqK} {x y v : AV} {x' y' : Value} {t : TypeId} {xo yo : Operand} {w : World} (hx : RelV ρ x x') (hy : RelV ρ y y')
    (ht : match q with | .b => P.underlying t = some .bool | .p => ∃ e, P.underlying t = some (.pointer e) | .s => ∃ e, P.underlying t = some (.slice e) | .m => ∃ k e, P.underlying t = some (.map k e) | .f => ∃ a b c, P.underlying t = some (.func a b c))
    (h : pEqx neg q x y = some v) :
    Gives P ρ w (do eqGuard (if neg then .neq else .eql) t xo yo x' y'; binOp (if neg then .neq else .eql) t x' y') v := by
  unfold pEqx at h
  have key : ∀ b, eqxB q x y = some b → (∀ cs ds, ¬ (x' = .agg cs ∧ y' = .agg ds)) ∧ x' ≠ .nilIface ∧
      (∀ neg : Bool, binOp (if neg then .neq else .eql) t x' y' = (if neg then (do pure (.bool (!(← Op.equal t x' y')))) else (do pure (.bool (← Op.equal t x' y'))))) ∧ (Op.equal t x' y').run P w = .ok b w := by
    intro b hb
    unfold eqxB at hb
    split at hb
    · rename_i a c
      have hx : x' = .bool a := hx
      have hy : y' = .bool c := hy
      subst hx hy; cases hb
      refine ⟨(by rintro _ _ ⟨h, _⟩; cases h), (by simp), (fun neg => by cases neg <;> rfl), ?_⟩
      rw [equal_eq, Op.equalIn, Sem.run_bind, run_underlying ht w, Result.andThen_ok, boolEq_iff]; rfl
    · have hx : x' = .pointer none := hx
      have hy : y' = .pointer none := hy
      subst hx hy; cases hb
      obtain ⟨e, ht⟩ := ht
      refine ⟨(by rintro _ _ ⟨h, _⟩; cases h), (by simp), (fun neg => by cases neg <;> rfl), ?_⟩
      rw [equal_eq, Op.equalIn, Sem.run_bind, run_underlying ht w, Result.andThen_ok]; rfl
    · obtain ⟨a, rfl, _⟩ := hx
      have hy : y' = .pointer none := hy
      subst hy; cases hb
      obtain ⟨e, ht⟩ := ht
      refine ⟨(by rintro _ _ ⟨h, _⟩; cases h), (by simp), (fun neg => by cases neg <;> rfl), ?_⟩
      rw [equal_eq, Op.equalIn, Sem.run_bind, run_underlying ht w, Result.andThen_ok]; rfl
    · obtain ⟨a, rfl, _⟩ := hy
      have hx : x' = .pointer none := hx
      subst hx; cases hb
      obtain ⟨e, ht⟩ := ht
      refine ⟨(by rintro _ _ ⟨h, _⟩; cases h), (by simp), (fun neg => by cases neg <;> rfl), ?_⟩
      rw [equal_eq, Op.equalIn, Sem.run_bind, run_underlying ht w, Result.andThen_ok]; rfl
    · have hx : x' = .slice none 0 0 := hx
      have hy : y' = .slice none 0 0 := hy
      subst hx hy; cases hb
      obtain ⟨e, ht⟩ := ht
      refine ⟨(by rintro _ _ ⟨h, _⟩; cases h), (by simp), (fun neg => by cases neg <;> rfl), ?_⟩
      rw [equal_eq, Op.equalIn, Sem.run_bind, run_underlying ht w, Result.andThen_ok]; rfl
    · obtain ⟨a, c, rfl, _⟩ := hx
      have hy : y' = .slice none 0 0 := hy
      subst hy; cases hb
      obtain ⟨e, ht⟩ := ht
      refine ⟨(by rintro _ _ ⟨h, _⟩; cases h), (by simp), (fun neg => by cases neg <;> rfl), ?_⟩
      rw [equal_eq, Op.equalIn, Sem.run_bind, run_underlying ht w, Result.andThen_ok]; rfl
    · obtain ⟨a, c, rfl, _⟩ := hy
      have hx : x' = .slice none 0 0 := hx
      subst hx; cases hb
      obtain ⟨e, ht⟩ := ht
      refine ⟨(by rintro _ _ ⟨h, _⟩; cases h), (by simp), (fun neg => by cases neg <;> rfl), ?_⟩
      rw [equal_eq, Op.equalIn, Sem.run_bind, run_underlying ht w, Result.andThen_ok]; rfl
    · have hx : x' = .map none := hx
      have hy : y' = .map none := hy
      subst hx hy; cases hb
      obtain ⟨k, e, ht⟩ := ht
      refine ⟨(by rintro _ _ ⟨h, _⟩; cases h), (by simp), (fun neg => by cases neg <;> rfl), ?_⟩
      rw [equal_eq, Op.equalIn, Sem.run_bind, run_underlying ht w, Result.andThen_ok]; rfl
    · obtain ⟨a, _, rfl⟩ := hx
      have hy : y' = .map none := hy
      subst hy; cases hb
      obtain ⟨k, e, ht⟩ := ht
      refine ⟨(by rintro _ _ ⟨h, _⟩; cases h), (by simp), (fun neg => by cases neg <;> rfl), ?_⟩
      rw [equal_eq, Op.equalIn, Sem.run_bind, run_underlying ht w, Result.andThen_ok]; rfl
    · obtain ⟨a, _, rfl⟩ := hy
      have hx : x' = .map none := hx
      subst hx; cases hb
      obtain ⟨k, e, ht⟩ := ht
      refine ⟨(by rintro _ _ ⟨h, _⟩; cases h), (by simp), (fun neg => by cases neg <;> rfl), ?_⟩
      rw [equal_eq, Op.equalIn, Sem.run_bind, run_underlying ht w, Result.andThen_ok]; rfl
    · have hx : x' = .nilFunc := hx
      have hy : y' = .nilFunc := hy
      subst hx hy; cases hb
      obtain ⟨_, _, _, ht⟩ := ht
      refine ⟨(by rintro _ _ ⟨h, _⟩; cases h), (by simp), (fun neg => by cases neg <;> rfl), ?_⟩
      rw [equal_eq, Op.equalIn, Sem.run_bind, run_underlying ht w, Result.andThen_ok]; rfl
    · obtain ⟨a, c, rfl, _⟩ := hx
      have hy : y' = .nilFunc := hy
      subst hy; cases hb
      obtain ⟨_, _, _, ht⟩ := ht
      refine ⟨(by rintro _ _ ⟨h, _⟩; cases h), (by simp), (fun neg => by cases neg <;> rfl), ?_⟩
      rw [equal_eq, Op.equalIn, Sem.run_bind, run_underlying ht w, Result.andThen_ok]; rfl
    · obtain ⟨a, c, rfl, _⟩ := hy
      have hx : x' = .nilFunc := hx
      subst hx; cases hb
      obtain ⟨_, _, _, ht⟩ := ht
      refine ⟨(by rintro _ _ ⟨h, _⟩; cases h), (by simp), (fun neg => by cases neg <;> rfl), ?_⟩
      rw [equal_eq, Op.equalIn, Sem.run_bind, run_underlying ht w, Result.andThen_ok]; rfl
    · cases hb
  cases hr : eqxB q x y with
  | none => rw [hr] at h; cases h
  | some b =>
    rw [hr] at h
    obtain ⟨h1, h2, h4, h5⟩ := key b hr
    exact flip_sound rfl (run_eqGuard_plain _ t xo yo x' y' w h1 h2) (h4 neg) (fun c hc => by cases hc; exact h5) h
end Go.AM

/-
  More operations that look at their operands alone. Conditions stand at each law.
-/
namespace Go.AM
variable {P : Program} {ρ : Emb}

theorem pUn_sound {op : UnOp} {x v : AV} {x' : Value} {w : World} (hx : RelV ρ x x') (h : pUn op x = some v) : Gives P ρ w (Op.unary op x') v := by
  unfold pUn at h
  split at h
  · rename_i k n
    have hx : x' = .int k n := hx
    subst hx; cases h
    exact ⟨.int k (k.wrap (0 - n)), by simp [Op.unary, Op.intArith], by rw [mkInt_eq]; rfl⟩
  · rename_i k n
    have hx : x' = .int k n := hx
    subst hx; cases h
    refine ⟨.int k (k.wrap (bitsOf k n ^^^ (2 ^ k.bits - 1) : Nat)), ?_, by rw [mkInt_eq]; rfl⟩
    have ha : (BitVec.ofInt k.bits (if k.signed then -1 else k.max)).toNat = 2 ^ k.bits - 1 := by cases k <;> rfl
    simp only [Op.unary, Op.intBits, Sem.run_pure]
    rw [BitVec.toNat_xor, ha, ofInt_toNat, Nat.xor_comm]
  · rename_i b
    have hx : x' = .bool b := hx
    subst hx; cases h
    exact ⟨.bool !b, rfl, rfl⟩
  · cases h

theorem pCvt_sound {k : IntKind} {x v : AV} {x' : Value} {s d : TypeId} {ks : IntKind} {w : World} (hs : P.underlying s = some (.int ks)) (hd : P.underlying d = some (.int k)) (hx : RelV ρ x x')
    (h : pCvt k x = some v) : Gives P ρ w (convert s d x') v := by
  unfold pCvt at h
  split at h
  · rename_i q n
    have hx : x' = .int q n := hx
    subst hx; cases h
    refine ⟨.int k (k.wrap n), ?_, by rw [mkInt_eq]; rfl⟩
    simp only [convert, Sem.run_bind, run_underlying hs, run_underlying hd, Result.andThen_ok]
    rfl
  · cases h

theorem At.addr {r : Id} {o : Nat} {a : Addr} (h : At ρ r o a) (n : Nat) : At ρ r (o + n) (a.add n) := by
  obtain ⟨b, o1, h1, rfl⟩ := h
  exact ⟨b, o1, h1, by rw [Addr.add_mid]; congr 1; omega⟩

theorem run_sizeOf' {t : TypeId} {n : Nat} (h : szOf P t = some n) (w : World) : (sizeOf t).run P w = .ok n w := by
  unfold szOf at h
  cases hi : P.info? t with
  | none => rw [hi] at h; cases h
  | some i => rw [hi] at h; cases h; simp [sizeOf, typeInfo, hi]

theorem pFa_sound {x v : AV} {x' : Value} {s : TypeId} {fs : Array Field} {i : Nat} {f : Field} {n : Nat} {w : World} (hs : P.underlying s = some (.struct fs)) (hf : fs[i]? = some f) (hn : szOf P f.type = some n) (hn0 : n ≠ 0)
    (hx : RelV ρ x x') (h : pFa f.offset x = some v) : Gives P ρ w (Instr.fieldAt s x' i) v := by
  unfold pFa at h
  split at h
  · rename_i r o
    obtain ⟨a, rfl, ha⟩ := hx
    simp only [forceN_eq] at h; cases h
    refine ⟨.pointer (some (a.add f.offset)), ?_, _, rfl, ha.addr _⟩
    simp only [Instr.fieldAt, Sem.run_bind, run_underlying hs, Result.andThen_ok, hf, Instr.sureAddr, Sem.run_pure, fieldPlace, run_sizeOf' hn, Sem.run_ite, hn0, if_false]
  · cases h

theorem pIar_sound {n sz : Nat} {x i v : AV} {x' i' : Value} {t e : TypeId} {w : World} (ht : P.underlying t = some (.array n e)) (hn : szOf P e = some sz) (hx : RelV ρ x x') (hi : RelV ρ i i')
    (h : pIar n sz x i = some v) : Gives P ρ w (Instr.indexAt t x' i') v := by
  unfold pIar at h
  split at h
  · rename_i r o k j
    obtain ⟨a, rfl, ha⟩ := hx
    have hi : i' = .int k (j : Nat) := hi
    subst hi
    cases hb : Nat.ble n j with
    | true => rw [hb] at h; cases h
    | false =>
      rw [hb, cond_false, forceN_eq] at h; cases h
      have hlt : j < n := by rcases Nat.lt_or_ge j n with h | h; exact h; rw [ble_t h] at hb; cases hb
      refine ⟨.pointer (some (a.add (j * sz))), ?_, _, rfl, ha.addr _⟩
      have hc : (0 : Int) ≤ (j : Nat) ∧ ((j : Nat) : Int) < n := ⟨by omega, by omega⟩
      simp only [Instr.indexAt, asIntOf, Sem.run_bind, Sem.run_pure, Result.andThen_ok, run_underlying ht, Instr.sureAddr, hc, and_self, if_true, Sem.run_ite, run_sizeOf' hn, Int.toNat_natCast]
  · cases h

theorem pIsl_sound {sz : Nat} {x i v : AV} {x' i' : Value} {t e : TypeId} {w : World} (ht : P.underlying t = some (.slice e)) (hn : szOf P e = some sz) (hx : RelV ρ x x') (hi : RelV ρ i i')
    (h : pIsl sz x i = some v) : Gives P ρ w (Instr.indexAt t x' i') v := by
  unfold pIsl at h
  split at h
  · rename_i r o n c k j
    obtain ⟨a, cap, rfl, h1, h2, h3⟩ := hx
    have hi : i' = .int k (j : Nat) := hi
    subst hi
    cases hb : Nat.ble n j with
    | true => rw [hb] at h; cases h
    | false =>
      rw [hb, cond_false, forceN_eq] at h; cases h
      have hlt : j < n := by rcases Nat.lt_or_ge j n with h | h; exact h; rw [ble_t h] at hb; cases hb
      refine ⟨.pointer (some (a.add (j * sz))), ?_, _, rfl, (h3 (by omega)).1.addr _⟩
      have hc : (0 : Int) ≤ (j : Nat) ∧ ((j : Nat) : Int) < n := ⟨by omega, by omega⟩
      simp only [Instr.indexAt, asIntOf, Sem.run_bind, Sem.run_pure, Result.andThen_ok, run_underlying ht, hc, and_self, if_true, Sem.run_ite, run_sizeOf' hn, Int.toNat_natCast]
  · cases h

theorem run_isAgg (t : TypeId) {d : TypeDesc} (hd : P.underlying t = some d) (w : World) : (isAgg t).run P w = .ok (aggOf P t) w := by
  unfold isAgg aggOf
  simp only [Sem.run_bind, run_underlying hd, Result.andThen_ok, hd]
  cases d <;> rfl

theorem und_of_sz {t : TypeId} {n : Nat} (_h : szOf P t = some n) (ha : aggOf P t = true) : ∃ d, P.underlying t = some d := by
  unfold aggOf at ha
  cases hu : P.underlying t with
  | none => rw [hu] at ha; cases ha
  | some d => exact ⟨d, rfl⟩

/-- A part of a value. -/
theorem partOf_sound {off n : Nat} {l : List Sc} {cs : Array Value} {t : TypeId} {d : TypeDesc} {v : AV} {w : World} (hd : P.underlying t = some d) (hn : szOf P t = some n) (hl : RelL ρ l cs.toList)
    (h : partOf l off n (aggOf P t) = some v) : ∃ v', (part t cs off).run P w = .ok v' w ∧ RelV0 ρ v v' := by
  unfold partOf at h
  cases ha : aggOf P t with
  | true =>
    rw [ha, cond_true] at h
    simp only [forceL_eq, takeK_eq, dropK_eq] at h
    cases hb : Nat.beq ((l.drop off).take n).length n with
    | false => rw [hb] at h; cases h
    | true =>
      rw [hb] at h; cases h
      refine ⟨.agg (cs.extract off (off + n)), ?_, cs.extract off (off + n), rfl, ?_⟩
      · simp only [part, Sem.run_bind, run_isAgg t hd, ha, Result.andThen_ok, if_true, run_sizeOf' hn, Sem.run_pure]
      · have := forall₂_take (forall₂_drop hl off) n
        simpa [Array.toList_extract, List.extract_eq_take_drop] using this
  | false =>
    rw [ha, cond_false, nth_eq] at h
    cases hx : l[off]? with
    | none => rw [hx] at h; cases h
    | some x =>
      rw [hx] at h; cases h
      obtain ⟨y, hy, hr⟩ := forall₂_get hl off x hx
      refine ⟨y, ?_, hr⟩
      have hy : cs[off]? = some y := by simpa using hy
      simp only [part, Sem.run_bind, run_isAgg t hd, ha, Result.andThen_ok, Bool.false_eq_true, if_false, hy, Sem.run_pure]

theorem pIxa_sound {n sz : Nat} {x i v : AV} {x' i' : Value} {t e : TypeId} {d : TypeDesc} {w : World} (ht : P.underlying t = some (.array n e)) (he : P.underlying e = some d) (hn : szOf P e = some sz) (hx : RelV ρ x x') (hi : RelV ρ i i')
    (h : pIxa n sz (aggOf P e) x i = some v) : Gives P ρ w (Instr.index t x' i') v := by
  unfold pIxa at h
  split at h
  · rename_i l k j
    obtain ⟨cs, rfl, hl⟩ := hx
    have hi : i' = .int k (j : Nat) := hi
    subst hi
    cases hb : Nat.ble n j with
    | true => rw [hb] at h; cases h
    | false =>
      rw [hb, cond_false] at h
      have hlt : j < n := by rcases Nat.lt_or_ge j n with h | h; exact h; rw [ble_t h] at hb; cases hb
      obtain ⟨v', h1, h2⟩ := partOf_sound (w := w) he hn hl h
      refine ⟨v', ?_, .of0 h2⟩
      have hc : (0 : Int) ≤ (j : Nat) ∧ ((j : Nat) : Int) < n := ⟨by omega, by omega⟩
      simp only [Instr.index, asIntOf, Sem.run_bind, Sem.run_pure, Result.andThen_ok, run_underlying ht, hc, and_self, if_true, run_sizeOf' hn, Int.toNat_natCast]
      exact h1
  · cases h

theorem pIxs_sound {x i v : AV} {x' i' : Value} {t : TypeId} {w : World} (ht : P.underlying t = some .string) (hx : RelV ρ x x') (hi : RelV ρ i i')
    (h : pIxs x i = some v) : Gives P ρ w (Instr.index t x' i') v := by
  unfold pIxs at h
  split at h
  · rename_i l k j
    obtain ⟨s, rfl, hl⟩ := hx
    have hi : i' = .int k (j : Nat) := hi
    subst hi
    rw [nth_eq] at h
    cases hb : l[j]? with
    | none => rw [hb] at h; cases h
    | some b =>
      rw [hb] at h; cases h
      subst hl
      rw [List.getElem?_map] at hb
      cases hc : s.data.toList[j]? with
      | none => rw [hc] at hb; cases hb
      | some u =>
        rw [hc] at hb; cases hb
        have hs : s[j]? = some u := by
          have hlt : j < s.data.toList.length := (List.getElem?_eq_some_iff.1 hc).1
          have hlt' : j < s.size := hlt
          rw [getElem?_pos s j hlt']
          have := (List.getElem?_eq_some_iff.1 hc).2
          rw [← this]; rfl
        refine ⟨.int .u8 u.toNat, ?_, rfl⟩
        simp only [Instr.index, asIntOf, Sem.run_bind, Sem.run_pure, Result.andThen_ok, run_underlying ht, Int.toNat_natCast]
        rw [if_pos (by omega), hs]; rfl
  · cases h

theorem pFld_sound {x v : AV} {x' : Value} {t : TypeId} {fs : Array Field} {i : Nat} {f : Field} {n : Nat} {d : TypeDesc} {w : World} (ht : P.underlying t = some (.struct fs)) (hf : fs[i]? = some f) (hd : P.underlying f.type = some d) (hn : szOf P f.type = some n)
    (hx : RelV ρ x x') (h : pFld f.offset n (aggOf P f.type) x = some v) : Gives P ρ w (Instr.field t x' i) v := by
  unfold pFld at h
  split at h
  · rename_i l
    obtain ⟨cs, rfl, hl⟩ := hx
    obtain ⟨v', h1, h2⟩ := partOf_sound (w := w) hd hn hl h
    refine ⟨v', ?_, .of0 h2⟩
    simp only [Instr.field, Sem.run_bind, run_underlying ht, Result.andThen_ok, hf, asAgg, Sem.run_pure]
    exact h1
  · cases h

/-- The bound as the model takes it. -/
theorem bound_run {v : Value} {k : IntKind} {m y : Nat} {c : BoundsCode} {w : World} (hv : v = .int k (m : Nat)) (h : m ≤ y) : (Instr.sliceBound v y c).run P w = .ok m w := by
  subst hv
  have hc : (0 : Int) ≤ (m : Nat) ∧ ((m : Nat) : Int) ≤ y := ⟨by omega, by omega⟩
  simp only [Instr.sliceBound, asIntOf, Sem.run_bind, Sem.run_pure, Result.andThen_ok, hc, and_self, if_true, Int.toNat_natCast]

/-- An operand that may be missing. -/
def RelO (ρ : Emb) (x : Option AV) (v : Option Value) : Prop :=
  match x, v with
  | none, none => True
  | some x, some v => RelV ρ x v
  | _, _ => False

theorem bnd_some {x : Option AV} {v : Option Value} {d m : Nat} (hx : RelO ρ x v) (h : bnd x d = some m) : (v = none ∧ m = d) ∨ ∃ k, v = some (.int k (m : Nat)) := by
  unfold bnd at h
  split at h
  · cases h; cases v with
    | none => exact .inl ⟨rfl, rfl⟩
    | some v => exact hx.elim
  · rename_i k n
    cases h
    cases v with
    | none => exact hx.elim
    | some v => exact .inr ⟨k, by rw [show v = .int k (Int.ofNat m) from hx]; rfl⟩
  · cases h

theorem pSls_sound {x v : AV} {x' : Value} {lo hi : Option AV} {lo' hi' : Option Value} {t : TypeId} {w : World} (ht : P.underlying t = some .string) (hx : RelV ρ x x') (hlo : RelO ρ lo lo') (hhi : RelO ρ hi hi')
    (h : pSls x lo hi = some v) : Gives P ρ w (Instr.sliceAt t x' lo' hi' none) v := by
  unfold pSls at h
  split at h
  · rename_i l
    obtain ⟨s, rfl, hl⟩ := hx
    split at h
    · rename_i a b ha hb
      have hsz : l.length = s.size := by rw [← hl, List.length_map]; rfl
      cases h1 : Nat.ble b l.length with
      | false => rw [h1] at h; cases h
      | true =>
        rw [h1, cond_true] at h
        cases h2 : Nat.ble a b with
        | false => rw [h2] at h; cases h
        | true =>
          rw [h2, cond_true] at h
          simp only [forceL_eq, takeK_eq, dropK_eq] at h; cases h
          rw [Nat.ble_eq] at h1 h2
          have hb' := bnd_some hhi hb
          have ha' := bnd_some hlo ha
          refine ⟨.string (s.extract a b), ?_, s.extract a b, rfl, ?_⟩
          · have e : (Instr.sliceBounds false s.size s.size lo' hi' none).run P w = .ok (a, b, s.size) w := by
              rcases hb' with ⟨rfl, rfl⟩ | ⟨k, rfl⟩ <;> rcases ha' with ⟨rfl, rfl⟩ | ⟨k', rfl⟩
              · simp [Instr.sliceBounds, hsz]
              · simp only [Instr.sliceBounds, Sem.run_bind, Sem.run_pure, Result.andThen_ok]
                rw [bound_run rfl (by omega)]; simp [hsz]
              · simp only [Instr.sliceBounds, Sem.run_bind, Sem.run_pure, Result.andThen_ok, Bool.false_eq_true, if_false]
                rw [bound_run rfl (by omega)]; simp
              · simp only [Instr.sliceBounds, Sem.run_bind, Sem.run_pure, Result.andThen_ok, Bool.false_eq_true, if_false]
                rw [bound_run rfl (by omega)]; simp only [Result.andThen_ok]; rw [bound_run rfl (by omega)]; simp
            simp only [Instr.sliceAt, Sem.run_bind, run_underlying ht, Result.andThen_ok, Instr.slice, Option.isSome_none, Bool.false_eq_true, if_false, Sem.run_pure, e]
          · subst hl
            rw [← List.map_drop, ← List.map_take]
            congr 1
            simp [ByteArray.data_extract, Array.toList_extract, List.extract_eq_take_drop]
    · cases h
  · cases h

def Cap.off (m : Cap) (o sz a : Nat) : Nat := match m with | .k m => if m = a then o else o + a * sz | .u _ => o + a * sz
def Cap.cut (c : Cap) (a : Nat) : Cap := match c with | .k m => .k (m - a) | .u z => .u z
theorem mkSl_eq {r : Id} {o sz a b : Nat} {m : Cap} {v : AV} (h : mkSl r o sz a b m = some v) :
    v = .c (.sl r (m.off o sz a) (b - a) (m.cut a)) ∧ (∀ z, m = .u z → z = sz) := by
  unfold mkSl at h
  cases m with
  | u z =>
    simp only [forceN_eq] at h
    cases hz : Nat.beq z sz with
    | false => rw [hz] at h; cases h
    | true => rw [hz, cond_true] at h; cases h; exact ⟨rfl, fun y hy => by cases hy; exact Nat.beq_eq.mp hz⟩
  | k m =>
    simp only [forceN_eq] at h
    cases h
    refine ⟨?_, fun z hz => by cases hz⟩
    by_cases h : m = a
    · subst h; simp [Cap.cut, Cap.off]
    · have : Nat.beq m a = false := by rw [← Bool.not_eq_true, Nat.beq_eq]; exact h
      rw [this]; simp only [cond_false, Cap.off, if_neg h]; rfl

/-- What is cut, and what the model's bounds are. -/
theorem cutSl_sound {r : Id} {o sz n c : Nat} {cap : Cap} {lo hi mx : Option AV} {lo' hi' mx' : Option Value} {A : Addr} {v : AV} {isS : Bool} {w : World}
    (hn : n ≤ c) (hc : ∀ m, cap = .k m → c = m) (hA : c ≠ 0 → At ρ r o A ∧ Room ρ r o cap c) (hlo : RelO ρ lo lo') (hhi : RelO ρ hi hi') (hmx : RelO ρ mx mx')
    (h : cutSl r o sz n cap lo hi mx = some v) :
    ∃ l b m, (Instr.sliceBounds isS n c lo' hi' mx').run P w = .ok (l, b, m) w ∧ RelV ρ v (.slice (some (if m = l then A else A.add (l * sz))) (b - l) (m - l)) := by
  have fin : ∀ (a b m : Nat) (q : Cap), a ≤ b → b ≤ m → m ≤ c → (∀ x, q = .k x → x = m) → (∀ z, q = .u z → q = cap) → mkSl r o sz a b q = some v →
      RelV ρ v (.slice (some (if m = a then A else A.add (a * sz))) (b - a) (m - a)) := by
    intro a b m q h1 h2 h3 h4 h4' h5
    obtain ⟨rfl, h6⟩ := mkSl_eq h5
    refine ⟨_, _, rfl, by omega, fun x hx => ?_, fun hne => ?_⟩
    · cases q with
      | u z => cases hx
      | k y => cases hx; rw [h4 y rfl]
    · have hma : m ≠ a := by omega
      rw [if_neg hma]
      obtain ⟨hAt, hR⟩ := hA (by omega)
      have := hAt.addr (a * sz)
      cases q with
      | u z =>
        obtain rfl := h6 z rfl
        refine ⟨this, fun z' b' q' hz hb => ?_⟩
        cases hz
        have := hR _ b' q' (h4' _ rfl).symm hb
        have h7 : (m - a) * z + a * z ≤ c * z := by rw [← Nat.add_mul]; exact Nat.mul_le_mul_right _ (by omega)
        have h8 : (Cap.u z).off o z a = o + a * z := rfl
        omega
      | k y =>
        refine ⟨?_, fun z' b' q' hz => by cases hz⟩
        rw [h4 y rfl]; show At ρ r (if m = a then o else o + a * sz) _; rw [if_neg hma]; exact this
  have hcc : cap.least n ≤ c := by
    cases cap with
    | u z => exact hn
    | k m => exact Nat.le_of_eq (hc m rfl).symm
  unfold cutSl at h
  split at h
  · rename_i k m
    cases mx' with
    | none => exact hmx.elim
    | some vm =>
      have hvm : vm = .int k (m : Nat) := hmx
      cases h1 : Nat.ble m (cap.least n) with
      | false => rw [h1] at h; cases h
      | true =>
        rw [h1, cond_true] at h
        rw [Nat.ble_eq] at h1
        split at h
        · rename_i k2 b
          cases hi' with
          | none => exact hhi.elim
          | some vh =>
            have hvh : vh = .int k2 (b : Nat) := hhi
            cases h2 : Nat.ble b m with
            | false => rw [h2] at h; cases h
            | true =>
              rw [h2, cond_true] at h
              rw [Nat.ble_eq] at h2
              split at h
              · rename_i a ha
                cases h3 : Nat.ble a b with
                | false => rw [h3] at h; cases h
                | true =>
                  rw [h3, cond_true] at h
                  rw [Nat.ble_eq] at h3
                  refine ⟨a, b, m, ?_, fin a b m (.k m) h3 h2 (by omega) (fun x hx => by cases hx; rfl) (fun z hz => by cases hz) h⟩
                  rcases bnd_some hlo ha with ⟨rfl, rfl⟩ | ⟨k', rfl⟩
                  · simp only [Instr.sliceBounds, Sem.run_bind]
                    rw [bound_run hvm (by omega)]
                    simp only [Result.andThen_ok]
                    rw [bound_run hvh (by omega)]
                    simp
                  · simp only [Instr.sliceBounds, Sem.run_bind]
                    rw [bound_run hvm (by omega)]
                    simp only [Result.andThen_ok]
                    rw [bound_run hvh (by omega)]
                    simp only [Result.andThen_ok]
                    rw [bound_run rfl (by omega)]
                    simp
              · cases h
        · cases h
  · cases mx' with
    | some _ => exact hmx.elim
    | none =>
      split at h
      · rename_i b a hb ha
        cases h1 : Nat.ble b (cap.least n) with
        | false => rw [h1] at h; cases h
        | true =>
          rw [h1, cond_true] at h
          rw [Nat.ble_eq] at h1
          cases h3 : Nat.ble a b with
          | false => rw [h3] at h; cases h
          | true =>
            rw [h3, cond_true] at h
            rw [Nat.ble_eq] at h3
            refine ⟨a, b, c, ?_, fin a b c cap h3 (by omega) (Nat.le_refl _) (fun x hx => (hc x hx).symm) (fun _ _ => rfl) h⟩
            rcases bnd_some hhi hb with ⟨rfl, rfl⟩ | ⟨k, rfl⟩ <;> rcases bnd_some hlo ha with ⟨rfl, rfl⟩ | ⟨k', rfl⟩
            · simp [Instr.sliceBounds]
            · simp only [Instr.sliceBounds, Sem.run_bind, Sem.run_pure, Result.andThen_ok]
              rw [bound_run rfl (by omega)]; simp
            · simp only [Instr.sliceBounds, Sem.run_bind, Sem.run_pure, Result.andThen_ok]
              rw [bound_run rfl (by omega)]; simp
            · simp only [Instr.sliceBounds, Sem.run_bind, Sem.run_pure, Result.andThen_ok]
              rw [bound_run rfl (by omega)]; simp only [Result.andThen_ok]; rw [bound_run rfl (by omega)]; simp
      · cases h
  · cases h

theorem pSlc_sound {sz : Nat} {x v : AV} {x' : Value} {lo hi mx : Option AV} {lo' hi' mx' : Option Value} {t e : TypeId} {w : World} (ht : P.underlying t = some (.slice e)) (hn : szOf P e = some sz)
    (hx : RelV ρ x x') (hlo : RelO ρ lo lo') (hhi : RelO ρ hi hi') (hmx : RelO ρ mx mx') (h : pSlc sz x lo hi mx = some v) : Gives P ρ w (Instr.sliceAt t x' lo' hi' mx') v := by
  unfold pSlc at h
  split at h
  · have hx : x' = .slice none 0 0 := hx
    subst hx
    have fin : (Instr.sliceBounds true 0 0 lo' hi' mx').run P w = .ok (0, 0, 0) w → Gives P ρ w (Instr.sliceAt t (.slice none 0 0) lo' hi' mx') (.c .s0) := fun e1 => by
      refine ⟨.slice none 0 0, ?_, rfl⟩
      simp only [Instr.sliceAt, Sem.run_bind, run_underlying ht, Result.andThen_ok, Instr.slice, e1, run_sizeOf' hn, Sem.run_pure, if_true, Nat.sub_self]
    split at h
    · cases mx' with
      | some _ => exact hmx.elim
      | none =>
        split at h
        · rename_i hb ha
          cases h
          apply fin
          rcases bnd_some hhi hb with ⟨rfl, _⟩ | ⟨k, rfl⟩ <;> rcases bnd_some hlo ha with ⟨rfl, _⟩ | ⟨k', rfl⟩
          · simp [Instr.sliceBounds]
          · simp only [Instr.sliceBounds, Sem.run_bind, Sem.run_pure, Result.andThen_ok]
            rw [bound_run rfl (by omega)]; simp
          · simp only [Instr.sliceBounds, Sem.run_bind, Sem.run_pure, Result.andThen_ok]
            rw [bound_run rfl (by omega)]; simp
          · simp only [Instr.sliceBounds, Sem.run_bind, Sem.run_pure, Result.andThen_ok]
            rw [bound_run rfl (by omega)]; simp only [Result.andThen_ok]; rw [bound_run rfl (by omega)]; simp
        · cases h
    · rename_i k
      cases mx' with
      | none => exact hmx.elim
      | some vm =>
        have hvm : vm = .int k (0 : Nat) := hmx
        split at h
        · rename_i hb ha
          cases h
          apply fin
          rcases bnd_some hhi hb with ⟨_, h0⟩ | ⟨k2, rfl⟩
          · cases h0
          · rcases bnd_some hlo ha with ⟨rfl, _⟩ | ⟨k', rfl⟩
            · simp only [Instr.sliceBounds, Sem.run_bind]
              rw [bound_run hvm (by omega)]
              simp only [Result.andThen_ok]
              rw [bound_run rfl (by omega)]
              simp
            · simp only [Instr.sliceBounds, Sem.run_bind]
              rw [bound_run hvm (by omega)]
              simp only [Result.andThen_ok]
              rw [bound_run rfl (by omega)]
              simp only [Result.andThen_ok]
              rw [bound_run rfl (by omega)]
              simp
        · cases h
    · cases h
  · rename_i r o n cap
    obtain ⟨A, c, rfl, h1, h2, h3⟩ := hx
    obtain ⟨l, b, m, h4, h5⟩ := cutSl_sound (P := P) (isS := true) (w := w) h1 h2 h3 hlo hhi hmx h
    refine ⟨_, ?_, h5⟩
    simp only [Instr.sliceAt, Sem.run_bind, run_underlying ht, Result.andThen_ok, Instr.slice, h4, run_sizeOf' hn, Sem.run_pure]
    congr 2
    split <;> rfl
  · cases h

theorem pSla_sound {n sz : Nat} {x v : AV} {x' : Value} {lo hi mx : Option AV} {lo' hi' mx' : Option Value} {t e : TypeId} {w : World} (ht : P.underlying t = some (.array n e)) (hn : szOf P e = some sz)
    (hx : RelV ρ x x') (hlo : RelO ρ lo lo') (hhi : RelO ρ hi hi') (hmx : RelO ρ mx mx') (h : pSla n sz x lo hi mx = some v) : Gives P ρ w (Instr.sliceAt t x' lo' hi' mx') v := by
  unfold pSla at h
  split at h
  · rename_i r o
    obtain ⟨A, rfl, hA⟩ := hx
    obtain ⟨l, b, m, h4, h5⟩ := cutSl_sound (P := P) (isS := false) (w := w) (Nat.le_refl n) (fun m hm => by cases hm; rfl) (fun _ => ⟨hA, fun z b q hz => by cases hz⟩) hlo hhi hmx h
    refine ⟨_, ?_, h5⟩
    simp only [Instr.sliceAt, Sem.run_bind, run_underlying ht, Result.andThen_ok, Instr.sureAddr, Sem.run_pure, h4, run_sizeOf' hn]
  · cases h

theorem pSlaP_sound {n sz : Nat} {x v : AV} {x' : Value} {lo hi mx : Option AV} {lo' hi' mx' : Option Value} {t a e : TypeId} {w : World} (ht : P.underlying t = some (.pointer a)) (ha : P.underlying a = some (.array n e)) (hn : szOf P e = some sz)
    (hx : RelV ρ x x') (hlo : RelO ρ lo lo') (hhi : RelO ρ hi hi') (hmx : RelO ρ mx mx') (h : pSla n sz x lo hi mx = some v) : Gives P ρ w (Instr.sliceAt t x' lo' hi' mx') v := by
  unfold pSla at h
  split at h
  · rename_i r o
    obtain ⟨A, rfl, hA⟩ := hx
    obtain ⟨l, b, m, h4, h5⟩ := cutSl_sound (P := P) (isS := false) (w := w) (Nat.le_refl n) (fun m hm => by cases hm; rfl) (fun _ => ⟨hA, fun z b q hz => by cases hz⟩) hlo hhi hmx h
    refine ⟨_, ?_, h5⟩
    simp only [Instr.sliceAt, Sem.run_bind, run_underlying ht, Result.andThen_ok, Instr.slice, asAddr, Sem.run_pure, run_underlying ha, h4, run_sizeOf' hn]
  · cases h
end Go.AM

/-
  Operations that build values. Conditions stand at each law.
-/
namespace Go.AM
variable {P : Program} {ρ : Emb}

theorem pExt_sound {i : Nat} {x v : AV} {x' : Value} {w : World} (hx : RelV ρ x x') (h : pExt i x = some v) : Gives P ρ w (Instr.extract x' i) v := by
  unfold pExt at h
  split at h
  · rename_i l
    obtain ⟨vs, rfl, hl⟩ := hx
    rw [nth_eq] at h
    obtain ⟨y, hy, hr⟩ := forall₂_get hl i v h
    have hy : vs[i]? = some y := by simpa using hy
    exact ⟨y, by simp [Instr.extract, hy], .of0 hr⟩
  · cases h

theorem pNil_sound {x v : AV} {o : Oper} {a : Act} {xo : Operand} {w : World} (ho : o.op = .nilCheck xo) (hx : RelV ρ x (a.eval xo)) (h : pNil x = some v) :
    ∃ v', (execOp a.eval o).run P w = .ok (.value v') w ∧ RelV ρ v v' := by
  have key : ∀ y, a.eval xo = y → (match y with | .pointer none | .nilIface | .nilFunc | .func (.method _) _ _ => False | _ => True) → v = x →
      ∃ v', (execOp a.eval o).run P w = .ok (.value v') w ∧ RelV ρ v v' := by
    intro y hy hn hv
    refine ⟨y, ?_, by rw [hv, ← hy]; exact hx⟩
    unfold execOp
    rw [ho]
    simp only [hy]
    split <;> first | rfl | exact hn.elim
  unfold pNil at h
  split at h
  · cases h
  · cases h
  · rename_i hp hf
    cases h
    cases x with
    | c s =>
      cases s with
      | p0 => exact absurd rfl hp
      | f0 => exact absurd rfl hf
      | b t => exact key _ hx trivial rfl
      | i k n => exact key _ hx trivial rfl
      | s l => obtain ⟨s, h1, _⟩ := hx; exact key _ h1 trivial rfl
      | p r o => obtain ⟨s, h1, _⟩ := hx; exact key _ h1 trivial rfl
      | s0 => exact key _ hx trivial rfl
      | sl r o n c => obtain ⟨s, _, h1, _⟩ := hx; exact key _ h1 trivial rfl
      | m0 => exact key _ hx trivial rfl
      | m r => obtain ⟨s, _, h1⟩ := hx; exact key _ h1 trivial rfl
      | f p fs cs => obtain ⟨_, _, h1, _⟩ := hx; exact key _ h1 trivial rfl
      | y r => obtain ⟨s, _, h1⟩ := hx; exact key _ h1 trivial rfl
    | g l => obtain ⟨cs, h1, _⟩ := hx; exact key _ h1 trivial rfl
    | t l => obtain ⟨cs, h1, _⟩ := hx; exact key _ h1 trivial rfl

theorem foldl_set_get (off : Nat) : ∀ (l : List Value) (k : Nat) (cs : Array Value) (j : Nat), off + k + l.length ≤ cs.size →
    ((l.zipIdx k).foldl (fun cs (x : Value × Nat) => cs.setIfInBounds (off + x.2) x.1) cs)[j]? = if off + k ≤ j ∧ j < off + k + l.length then l[j - (off + k)]? else cs[j]? := by
  intro l
  induction l with
  | nil => intro k cs j _; simp only [List.zipIdx_nil, List.foldl_nil, List.length_nil]; rw [if_neg (by omega)]
  | cons x l ih =>
    intro k cs j h
    simp only [List.zipIdx_cons, List.foldl_cons, List.length_cons] at h ⊢
    rw [ih (k + 1) _ j (by simp; omega)]
    by_cases h1 : off + (k + 1) ≤ j ∧ j < off + (k + 1) + l.length
    · rw [if_pos h1, if_pos (by omega), show j - (off + k) = (j - (off + (k + 1))) + 1 by omega]; simp
    · rw [if_neg h1]
      by_cases h2 : j = off + k
      · subst h2; rw [if_pos (by omega), Array.getElem?_setIfInBounds, if_pos rfl, if_pos (by omega)]; simp
      · rw [if_neg (by omega), Array.getElem?_setIfInBounds]; rw [if_neg (by omega)]
theorem foldl_set_size (off : Nat) : ∀ (l : List (Value × Nat)) (cs : Array Value), (l.foldl (fun cs (x : Value × Nat) => cs.setIfInBounds (off + x.2) x.1) cs).size = cs.size := by
  intro l
  induction l with
  | nil => intro cs; rfl
  | cons x l ih => intro cs; rw [List.foldl_cons, ih]; simp

/-- One part laid over. -/
theorem over_rel {z l : List Sc} {cs vs : Array Value} {off : Nat} (hz : RelL ρ z cs.toList) (hl : RelL ρ l vs.toList) (hb : off + vs.size ≤ cs.size) :
    RelL ρ (over z off l) (vs.zipIdx.foldl (fun cs (x : Value × Nat) => cs.setIfInBounds (off + x.2) x.1) cs).toList := by
  have hlen : l.length = vs.size := by have := forall₂_length hl; simpa using this
  have hzl : z.length = cs.size := by have := forall₂_length hz; simpa using this
  have e : vs.zipIdx.foldl (fun cs (x : Value × Nat) => cs.setIfInBounds (off + x.2) x.1) cs = (vs.toList.zipIdx 0).foldl (fun cs (x : Value × Nat) => cs.setIfInBounds (off + x.2) x.1) cs := by
    rw [← Array.foldl_toList, Array.toList_zipIdx]
  rw [e]
  refine forall₂_of_get ?_ fun i x y hx hy => ?_
  · rw [over_length, hzl, Array.length_toList, foldl_set_size]
  · rw [over_get] at hx
    rw [Array.getElem?_toList, foldl_set_get off _ 0 cs i (by simpa using hb)] at hy
    simp only [Nat.add_zero, Array.length_toList] at hy
    by_cases hc : off ≤ i ∧ i < off + vs.size
    · rw [if_pos (by omega)] at hx
      rw [if_pos hc] at hy
      obtain ⟨y', h1, h2⟩ := forall₂_get hl _ x hx
      rw [hy] at h1; cases h1; exact h2
    · rw [if_neg (by omega)] at hx
      rw [if_neg hc] at hy
      obtain ⟨y', h1, h2⟩ := forall₂_get hz _ x hx
      have : cs[i]? = some y' := by simpa using h1
      rw [hy] at this; cases this; exact h2

theorem layParts_nil (z : List Sc) (tm : Tm) : layParts z [] tm = some z := rfl
theorem layParts_cons (z : List Sc) (off n : Nat) (x : Opd) (ps : List (Nat × Nat × Opd)) (tm : Tm) : layParts z ((off, n, x) :: ps) tm = match x.get tm with
        | .t _ => none
        | v => bif Nat.beq v.cells.length n then bif Nat.ble (Nat.add off n) z.length then layParts (over z off v.cells) ps tm else none else none := by
  show (match x.get tm with
        | .t _ => none
        | v => bif Nat.beq v.cells.length n then bif Nat.ble (Nat.add off n) z.length then forceL (over z off v.cells) fun z => layParts z ps tm else none else none) = _
  simp only [forceL_eq]

/-- Parts laid over some cells, as the model does. -/
theorem layParts_sound {place : Nat → Option (Nat × Nat)} : ∀ {ps : List (Nat × Nat × Opd)} {qs : List (Nat × Value)} {z l : List Sc} {cs : Array Value} {tm : Tm},
    All2 (fun (p : Nat × Nat × Opd) (q : Nat × Value) => place q.1 = some (p.1, p.2.1) ∧ RelV ρ (p.2.2.get tm) q.2) ps qs → RelL ρ z cs.toList → layParts z ps tm = some l →
    ∃ cs', Instr.fill place cs qs = some cs' ∧ RelL ρ l cs'.toList := by
  intro ps qs z l cs tm hp
  induction hp generalizing z cs with
  | nil => intro hz h; rw [layParts_nil] at h; cases h; exact ⟨cs, rfl, hz⟩
  | @cons p q ps qs hpq _ ih =>
    intro hz h
    obtain ⟨off, n, x⟩ := p
    obtain ⟨i, v⟩ := q
    obtain ⟨hpl, hv⟩ := hpq
    rw [layParts_cons] at h
    have key : ∀ y, x.get tm = y → RelV0 ρ y v → (bif Nat.beq y.cells.length n then bif Nat.ble (Nat.add off n) z.length then layParts (over z off y.cells) ps tm else none else none) = some l →
        ∃ cs', Instr.fill place cs ((i, v) :: qs) = some cs' ∧ RelL ρ l cs'.toList := by
      intro y hy hr h
      have hc := hr.cells
      cases h1 : Nat.beq y.cells.length n with
      | false => rw [h1] at h; cases h
      | true =>
        rw [h1, cond_true] at h
        cases h2 : Nat.ble (Nat.add off n) z.length with
        | false => rw [h2] at h; cases h
        | true =>
          rw [h2, cond_true] at h
          rw [Nat.beq_eq] at h1
          rw [Nat.ble_eq] at h2
          have hlen : y.cells.length = v.cells.size := by have := forall₂_length hc; simpa using this
          have hzl : z.length = cs.size := by have := forall₂_length hz; simpa using this
          have h2 : off + n ≤ z.length := h2
          obtain ⟨cs', h3, h4⟩ := ih (over_rel hz hc (by omega)) h
          refine ⟨cs', ?_, h4⟩
          simp only [Instr.fill]
          simp only [] at hpl
          rw [hpl]
          have hne : ¬ ((v.cells.size ≠ n || decide (off + v.cells.size > cs.size)) = true) := by
            simp; omega
          simp only []
          rw [if_neg hne]
          exact h3
    cases hy : x.get tm with
    | t l => rw [hy] at h; cases h
    | c s => rw [hy] at h; simp only [] at hv; rw [hy] at hv; exact key _ hy hv h
    | g s => rw [hy] at h; simp only [] at hv; rw [hy] at hv; exact key _ hy hv h

theorem runs_toRuns : ∀ l : List Sc, (∀ x ∈ l, ∃ v, scOf v = some x) → runs (toRuns l) = l := by
  intro l
  induction l with
  | nil => intro _; rfl
  | cons x r ih =>
    intro hs
    have ih := ih fun y hy => hs y (List.mem_cons_of_mem _ hy)
    unfold toRuns
    cases hr : toRuns r with
    | nil => rw [hr] at ih; simp [runs] at ih; subst ih; simp [runs]
    | cons y q =>
      obtain ⟨n, y⟩ := y
      simp only []
      rw [hr] at ih
      by_cases he : sameSc x y = true
      · rw [if_pos he]
        have hxy : x = y := by
          unfold sameSc at he
          split at he <;> first | rfl | (simp at he; first | (obtain ⟨rfl, rfl⟩ := he; rfl) | (subst he; rfl)) | cases he
        subst hxy
        simp only [runs, List.replicate_succ, List.cons_append]
        rw [← ih]; rfl
      · rw [if_neg he]; simp only [runs, List.replicate_one, List.singleton_append]; rw [← ih]; rfl
end Go.AM

/-
  The operations that look at their operands alone, put together. Conditions stand at each law.
-/
namespace Go.AM
variable {P : Program} {ρ : Emb}

theorem ptrs_sound {tm : Tm} {a : Act} (ht : RelT ρ tm a.tmps) : ∀ {xs : List Operand} {ds : List Opd} {l : List (Id × Nat)}, xs.mapM opdOf = some ds → ptrs tm ds = some l → RelP ρ l (xs.map a.eval) := by
  intro xs
  induction xs with
  | nil => intro ds l h hp; simp at h; subst h; cases hp; exact .nil
  | cons x xs ih =>
    intro ds l h hp
    rw [List.mapM_cons] at h
    simp only [bind, Option.bind_eq_some_iff, pure, Option.some.injEq] at h
    obtain ⟨d, hd, r, hr, rfl⟩ := h
    have hp : (match d.get tm, ptrs tm r with
      | .c (.p r o), some l => some ((r, o) :: l)
      | _, _ => none) = some l := hp
    have hx := opd_sound ht hd
    split at hp
    · rename_i q o l' e1 e2
      cases hp
      rw [e1] at hx
      obtain ⟨A, hA, hat⟩ := hx
      rw [List.map_cons, hA]
      exact .cons hat (ih hr e2)
    · cases hp

theorem opds_sound {tm : Tm} {a : Act} (ht : RelT ρ tm a.tmps) : ∀ {xs : List Operand} {ds : List Opd}, xs.mapM opdOf = some ds → All2 (RelV ρ) (gets tm ds) (xs.map a.eval) := by
  intro xs
  induction xs with
  | nil => intro ds h; simp at h; subst h; exact .nil
  | cons x xs ih =>
    intro ds h
    rw [List.mapM_cons] at h
    simp only [bind, Option.bind_eq_some_iff, pure, Option.some.injEq] at h
    obtain ⟨d, hd, r, hr, rfl⟩ := h
    exact .cons (opd_sound ht hd) (ih hr)

theorem maxGo_sound {max : Bool} {k : IntKind} {tm : Tm} {a : Act} (ht : RelT ρ tm a.tmps) (w : World) : ∀ {xs : List Operand} {ds : List Opd} {n : Int} {v : AV}, xs.mapM opdOf = some ds → maxGo max k tm ds n = some v →
    ∃ v', ((xs.map a.eval).foldlM (if max then Builtin.max2 else Builtin.min2) (.int k n)).run P w = .ok v' w ∧ RelV ρ v v' := by
  intro xs
  induction xs with
  | nil => intro ds n v h hv; simp at h; subst h; cases hv; exact ⟨.int k n, rfl, rfl⟩
  | cons x xs ih =>
    intro ds n v h hv
    rw [List.mapM_cons] at h
    simp only [bind, Option.bind_eq_some_iff, pure, Option.some.injEq] at h
    obtain ⟨d, hd, r, hr, rfl⟩ := h
    have hv : (match d.get tm with
      | .c (.i _ b) => maxGo max k tm r (bif max then (bif intLe b n then n else b) else (bif intLe n b then n else b))
      | _ => none) = some v := hv
    have hx := opd_sound ht hd
    split at hv
    · rename_i j b e
      rw [e] at hx
      have hx : a.eval x = .int j b := hx
      obtain ⟨v', h1, h2⟩ := ih hr hv
      refine ⟨v', ?_, h2⟩
      rw [List.map_cons, List.foldlM_cons, hx, Sem.run_bind]
      have : ((if max = true then Builtin.max2 else Builtin.min2) (.int k n) (.int j b)).run P w = .ok (.int k (bif max then (bif intLe b n then n else b) else (bif intLe n b then n else b))) w := by
        cases max
        · simp only [Bool.false_eq_true, if_false, Builtin.min2, Sem.run_pure, cond_false, intLe_iff]
          congr 2
          by_cases h : n ≤ b
          · rw [if_neg (by omega)]; simp [h]
          · rw [if_pos (by omega)]; simp [h]
        · simp only [if_true, Builtin.max2, Sem.run_pure, cond_true, intLe_iff]
          congr 2
          by_cases h : b ≤ n
          · rw [if_neg (by omega)]; simp [h]
          · rw [if_pos (by omega)]; simp [h]
      rw [this, Result.andThen_ok]; exact h1
    · cases hv

theorem pMm_sound {max : Bool} {tm : Tm} {a : Act} (ht : RelT ρ tm a.tmps) {xs : List Operand} {ds : List Opd} {v : AV} {w : World} (h : xs.mapM opdOf = some ds) (hv : pMm max ds tm = some v) :
    ∃ v', ((if max then Builtin.max_ else Builtin.min_) #[] 0 (xs.map a.eval).toArray).run P w = .ok v' w ∧ RelV ρ v v' := by
  cases xs with
  | nil => simp at h; subst h; cases hv
  | cons x xs =>
    rw [List.mapM_cons] at h
    simp only [bind, Option.bind_eq_some_iff, pure, Option.some.injEq] at h
    obtain ⟨d, hd, r, hr, rfl⟩ := h
    have hx := opd_sound ht hd
    simp only [pMm] at hv
    split at hv
    · rename_i k b e
      rw [e] at hx
      have hx : a.eval x = .int k b := hx
      obtain ⟨v', h1, h2⟩ := maxGo_sound (P := P) ht w hr hv
      refine ⟨v', ?_, h2⟩
      cases max
      · simpa [Builtin.min_, hx] using h1
      · simpa [Builtin.max_, hx] using h1
    · cases hv

theorem pLen_sound {str : Bool} {x v : AV} {x' : Value} {ts : Array TypeId} {t : TypeId} {w : World} (h0 : ts[0]? = some t) (ht : if str then P.underlying t = some .string else ∃ e, P.underlying t = some (.slice e)) (hx : RelV ρ x x') (h : pLen str x = some v) (ty : TypeId) :
    Gives P ρ w (Builtin.len_ ts ty #[x']) v := by
  unfold pLen at h
  split at h
  · rename_i l
    obtain ⟨s, rfl, hl⟩ := hx
    cases h
    have hsz : l.length = s.size := by rw [← hl, List.length_map]; rfl
    have ht : P.underlying t = some .string := ht
    exact ⟨.int .i64 (s.size : Nat), by simp [Builtin.len_, h0, run_underlying ht, goInt], by simp only [natAV, forceN_eq]; rw [hsz]; rfl⟩
  · have hx : x' = .slice none 0 0 := hx
    subst hx; cases h
    obtain ⟨e, ht⟩ : ∃ e, P.underlying t = some (.slice e) := ht
    exact ⟨.int .i64 (0 : Nat), by simp [Builtin.len_, h0, run_underlying ht, goInt], by simp only [natAV, forceN_eq]; rfl⟩
  · rename_i r o n c
    obtain ⟨A, cap, rfl, _⟩ := hx
    cases h
    obtain ⟨e, ht⟩ : ∃ e, P.underlying t = some (.slice e) := ht
    exact ⟨.int .i64 (n : Nat), by simp [Builtin.len_, h0, run_underlying ht, goInt], by simp only [natAV, forceN_eq]; rfl⟩
  · cases h

theorem pCap_sound {x v : AV} {x' : Value} {ts : Array TypeId} {t e : TypeId} {w : World} (h0 : ts[0]? = some t) (ht : P.underlying t = some (.slice e)) (hx : RelV ρ x x') (h : pCap x = some v) (ty : TypeId) :
    Gives P ρ w (Builtin.cap_ ts ty #[x']) v := by
  unfold pCap at h
  split at h
  · have hx : x' = .slice none 0 0 := hx
    subst hx; cases h
    exact ⟨.int .i64 (0 : Nat), by simp [Builtin.cap_, h0, run_underlying ht, goInt], by simp only [natAV, forceN_eq]; rfl⟩
  · rename_i r o n c
    obtain ⟨A, cap, rfl, _, hc, _⟩ := hx
    cases h
    obtain rfl := hc c rfl
    exact ⟨.int .i64 (cap : Nat), by simp [Builtin.cap_, h0, run_underlying ht, goInt], by simp only [natAV, forceN_eq]; rfl⟩
  · cases h

/-! ## '==' on structs and arrays -/
/-- Are all cells the same? -/
def allEq : List Sc → List Sc → Bool
  | [], [] => true
  | x :: a, y :: b => (match cellEq x y with | some p => p | none => false) && allEq a b
  | _, _ => false

theorem cellsEq_all {a b : List Sc} {r : Bool} (h : cellsEq a b = some r) : r = allEq a b := by
  induction a generalizing b r with
  | nil => cases b with
    | nil => cases h; rfl
    | cons _ _ => cases h
  | cons x a ih => cases b with
    | nil => cases h
    | cons y b =>
      simp only [cellsEq] at h
      split at h
      · rename_i p q h1 h2
        cases h
        simp only [allEq, h1, ih h2]
        cases p <;> rfl
      · cases h

theorem allEq_append {a b a' b' : List Sc} (h : a.length = b.length) : allEq (a ++ a') (b ++ b') = (allEq a b && allEq a' b') := by
  induction a generalizing b with
  | nil => cases b with
    | nil => simp [allEq]
    | cons _ _ => simp at h
  | cons x a ih => cases b with
    | nil => simp at h
    | cons y b => simp only [List.cons_append, allEq, ih (by simpa using h), Bool.and_assoc]

/-- All cells of the one can be held against those of the other. -/
def Comp : List Sc → List Sc → Prop
  | [], [] => True
  | x :: a, y :: b => (∃ p, cellEq x y = some p) ∧ Comp a b
  | _, _ => False

theorem Comp.of_eq {a b : List Sc} {r : Bool} (h : cellsEq a b = some r) : Comp a b := by
  induction a generalizing b r with
  | nil => cases b with
    | nil => trivial
    | cons _ _ => cases h
  | cons x a ih => cases b with
    | nil => cases h
    | cons y b =>
      simp only [cellsEq] at h
      split at h
      · rename_i p q h1 h2
        exact ⟨⟨p, h1⟩, ih h2⟩
      · cases h
theorem Comp.take {a b : List Sc} (h : Comp a b) (n : Nat) : Comp (a.take n) (b.take n) := by
  induction a generalizing b n with
  | nil => cases b with
    | nil => simp; trivial
    | cons _ _ => exact h.elim
  | cons x a ih => cases b with
    | nil => exact h.elim
    | cons y b => cases n with
      | zero => trivial
      | succ n => exact ⟨h.1, ih h.2 n⟩
theorem Comp.drop {a b : List Sc} (h : Comp a b) (n : Nat) : Comp (a.drop n) (b.drop n) := by
  induction a generalizing b n with
  | nil => cases b with
    | nil => simp; trivial
    | cons _ _ => exact h.elim
  | cons x a ih => cases b with
    | nil => exact h.elim
    | cons y b => cases n with
      | zero => exact h
      | succ n => exact ih h.2 n
theorem Comp.length {a b : List Sc} (h : Comp a b) : a.length = b.length := by
  induction a generalizing b with
  | nil => cases b with
    | nil => rfl
    | cons _ _ => exact h.elim
  | cons x a ih => cases b with
    | nil => exact h.elim
    | cons y b => simp [ih h.2]

theorem cksOk_append {ks ks' : List CK} {l : List Sc} (h : cksOk (ks ++ ks') l = true) : cksOk ks (l.take ks.length) = true ∧ cksOk ks' (l.drop ks.length) = true := by
  induction ks generalizing l with
  | nil => exact ⟨by cases l <;> rfl, h⟩
  | cons k ks ih => cases l with
    | nil => cases h
    | cons x l =>
      simp only [List.cons_append, cksOk] at h
      cases hk : ckOk k x with
      | false => rw [hk] at h; cases h
      | true =>
        rw [hk, cond_true] at h
        obtain ⟨h1, h2⟩ := ih h
        exact ⟨by simp only [List.length_cons, List.take_succ_cons, cksOk, hk, cond_true]; exact h1, h2⟩
theorem cksOk_length {ks : List CK} {l : List Sc} (h : cksOk ks l = true) : l.length = ks.length := by
  induction ks generalizing l with
  | nil => cases l with
    | nil => rfl
    | cons _ _ => cases h
  | cons k ks ih => cases l with
    | nil => cases h
    | cons x l =>
      simp only [cksOk] at h
      cases hk : ckOk k x with
      | false => rw [hk] at h; cases h
      | true => rw [hk, cond_true] at h; simp [ih h]

theorem beqBytes {s t : ByteArray} {a b : List Nat} (hs : s.data.toList.map UInt8.toNat = a) (ht : t.data.toList.map UInt8.toNat = b) : (s == t) = sameL a b := by
  subst hs ht
  rw [beq_toListBytes, sameL_iff, byteArray_toList, byteArray_toList, Bool.eq_iff_iff]
  simp only [beq_iff_eq]
  exact ⟨fun h => by rw [h], map_uint8_inj⟩

/-- What is held against each other, in the form in which the type has it. -/
def Fits (P : Program) (t : TypeId) (x : AV) : Prop := if aggOf P t then ∃ l, x = .g l else ∃ s, x = .c s

theorem shp_und {d : Nat} {t : TypeId} {ks : List CK} (h : shp P d t = some ks) : ∃ u, P.underlying t = some u := by
  cases d with
  | zero => cases h
  | succ d =>
    simp only [shp] at h
    cases hu : P.underlying t with
    | none => rw [hu] at h; cases h
    | some u => exact ⟨u, rfl⟩

theorem shp_size {d : Nat} {t : TypeId} {ks : List CK} (h : shp P d t = some ks) (ha : aggOf P t = true) : szOf P t = some ks.length := by
  cases d with
  | zero => cases h
  | succ d =>
    simp only [shp] at h
    unfold aggOf at ha
    split at ha
    · rename_i fs hu
      rw [hu] at h
      simp only [] at h
      split at h
      · cases h
      · split at h
        · split at h
          · rename_i hs; cases h; exact hs
          · cases h
        · cases h
    · rename_i n e hu
      rw [hu] at h
      simp only [] at h
      split at h
      · split at h
        · rename_i l _ hs; cases h; rw [hs.2]; simp
        · cases h
      · cases h
    · cases ha

theorem shp_one {d : Nat} {t : TypeId} {ks : List CK} (h : shp P d t = some ks) (ha : aggOf P t = false) : ∃ k, ks = [k] := by
  cases d with
  | zero => cases h
  | succ d =>
    simp only [shp] at h
    unfold aggOf at ha
    split at h
    · cases h; exact ⟨_, rfl⟩
    · cases h; exact ⟨_, rfl⟩
    · cases h; exact ⟨_, rfl⟩
    · rename_i hu; rw [hu] at ha; cases ha
    · rename_i hu; rw [hu] at ha; cases ha
    · cases h

/-- The part of a value that a type's cells are. -/
theorem part_rel {d : Nat} {t : TypeId} {ks : List CK} (h : shp P d t = some ks) {a : List Sc} {xs : Array Value} (hl : RelL ρ a xs.toList) {off : Nat} (hlen : off + ks.length ≤ a.length) (w : World) :
    ∃ v v', (part t xs off).run P w = .ok v' w ∧ RelV0 ρ v v' ∧ Fits P t v ∧ v.cells = (a.drop off).take ks.length := by
  obtain ⟨u, hu⟩ := shp_und h
  cases ha : aggOf P t with
  | true =>
    have hs := shp_size h ha
    have hp : partOf a off ks.length (aggOf P t) = some (.g ((a.drop off).take ks.length)) := by
      unfold partOf
      rw [ha, cond_true]
      simp only [forceL_eq, takeK_eq, dropK_eq]
      have : Nat.beq ((a.drop off).take ks.length).length ks.length = true := by rw [Nat.beq_eq]; simp; omega
      rw [this]; rfl
    obtain ⟨v', h1, h2⟩ := partOf_sound (P := P) (w := w) hu hs hl hp
    exact ⟨_, v', h1, h2, by unfold Fits; rw [ha]; exact ⟨_, rfl⟩, rfl⟩
  | false =>
    obtain ⟨k, rfl⟩ := shp_one h ha
    simp only [List.length_singleton] at hlen ⊢
    cases hx : a[off]? with
    | none => rw [List.getElem?_eq_none_iff] at hx; omega
    | some x =>
      obtain ⟨y, hy, hr⟩ := forall₂_get hl off x hx
      have hy : xs[off]? = some y := by simpa using hy
      refine ⟨.c x, y, ?_, hr, by unfold Fits; rw [ha]; exact ⟨_, rfl⟩, ?_⟩
      · simp only [part, Sem.run_bind, run_isAgg t hu, ha, Result.andThen_ok, Bool.false_eq_true, if_false, hy, Sem.run_pure]
      · show [x] = _
        have hlt : off < a.length := by omega
        rw [List.drop_eq_getElem_cons hlt]
        have := List.getElem?_eq_getElem hlt
        rw [hx] at this; cases this
        rfl

def EqAt (P : Program) (ρ : Emb) (d : Nat) : Prop := ∀ (t : TypeId) (ks : List CK), shp P d t = some ks → ∀ (D : Nat), d ≤ D → ∀ (x y : AV) (x' y' : Value) (w : World), RelV0 ρ x x' → RelV0 ρ y y' → Fits P t x → Fits P t y →
    cksOk ks x.cells = true → cksOk ks y.cells = true → Comp x.cells y.cells → (Op.equalIn D t x' y').run P w = .ok (allEq x.cells y.cells) w

theorem take_take_of_le {α : Type} (l : List α) {a b : Nat} (h : b ≤ a) : (l.take a).take b = l.take b := by rw [List.take_take]; congr 1; omega

theorem fields_eq {d : Nat} (ih : EqAt P ρ d) {D : Nat} (hD : d ≤ D) {a b : List Sc} {xs ys : Array Value} (ha : RelL ρ a xs.toList) (hb : RelL ρ b ys.toList) (w : World) : ∀ (fs : List Field) (off : Nat) (ks : List CK),
    off ≤ a.length → off ≤ b.length → shpF (shp P d) fs off = some ks → cksOk ks (a.drop off) = true → cksOk ks (b.drop off) = true → Comp (a.drop off) (b.drop off) →
    (Op.eqFields D xs ys fs).run P w = .ok (allEq (a.drop off) (b.drop off)) w := by
  intro fs
  induction fs with
  | nil =>
    intro off ks _ _ h h1 h2 _
    cases h
    have e1 : a.drop off = [] := List.length_eq_zero_iff.1 (cksOk_length h1)
    have e2 : b.drop off = [] := List.length_eq_zero_iff.1 (cksOk_length h2)
    rw [e1, e2]; rfl
  | cons f fs ihf =>
    intro off ks oa ob h h1 h2 hc
    simp only [shpF] at h
    split at h
    · rename_i hn
      simp only [ne_eq, Bool.and_eq_true, decide_eq_true_eq] at hn
      obtain ⟨hname, hoff⟩ := hn
      split at h
      · rename_i k1 hk1
        split at h
        · rename_i k2 hk2
          cases h
          obtain ⟨h11, h12⟩ := cksOk_append h1
          obtain ⟨h21, h22⟩ := cksOk_append h2
          have l1 := cksOk_length h1
          have l2 := cksOk_length h2
          simp only [List.length_append, List.length_drop] at l1 l2
          obtain ⟨v, v', p1, r1, f1, c1⟩ := part_rel hk1 ha (off := off) (by omega) w
          obtain ⟨u, u', p2, r2, f2, c2⟩ := part_rel hk1 hb (off := off) (by omega) w
          have e := ih f.type k1 hk1 D hD v u v' u' w r1 r2 f1 f2 (by rw [c1]; exact h11) (by rw [c2]; exact h21) (by rw [c1, c2]; exact hc.take _)
          rw [List.drop_drop] at h12 h22
          have hc2 : Comp (a.drop (off + k1.length)) (b.drop (off + k1.length)) := by have := hc.drop k1.length; rwa [List.drop_drop, List.drop_drop] at this
          have e2 := ihf (off + k1.length) k2 (by omega) (by omega) hk2 h12 h22 hc2
          have split_eq : allEq (a.drop off) (b.drop off) = (allEq v.cells u.cells && allEq (a.drop (off + k1.length)) (b.drop (off + k1.length))) := by
            rw [c1, c2, ← List.drop_drop, ← List.drop_drop, ← allEq_append (by simp; omega), List.take_append_drop, List.take_append_drop]
          simp only [Op.eqFields, ne_eq, hname, not_false_eq_true, if_true, Sem.run_bind, hoff, p1, p2, Result.andThen_ok, e]
          rw [split_eq]
          cases allEq v.cells u.cells with
          | false => rfl
          | true => simp only [Bool.not_true, Bool.false_eq_true, if_false, Bool.true_and]; exact e2
        · cases h
      · cases h
    · cases h

theorem items_eq {d : Nat} (ih : EqAt P ρ d) {D : Nat} (hD : d ≤ D) {e : TypeId} {k1 : List CK} (hk1 : shp P d e = some k1) {a b : List Sc} {xs ys : Array Value} (ha : RelL ρ a xs.toList) (hb : RelL ρ b ys.toList) (w : World) : ∀ (n i : Nat),
    i * k1.length + n * k1.length = a.length → i * k1.length + n * k1.length = b.length → cksOk (List.replicate n k1).flatten (a.drop (i * k1.length)) = true → cksOk (List.replicate n k1).flatten (b.drop (i * k1.length)) = true →
    Comp (a.drop (i * k1.length)) (b.drop (i * k1.length)) →
    (Op.eqItems D e k1.length xs ys (List.range' i n)).run P w = .ok (allEq (a.drop (i * k1.length)) (b.drop (i * k1.length))) w := by
  intro n
  induction n with
  | zero =>
    intro i la lb _ _ _
    rw [List.drop_of_length_le (l := a) (by omega), List.drop_of_length_le (l := b) (by omega)]; rfl
  | succ n ihn =>
    intro i la lb h1 h2 hc
    rw [List.replicate_succ, List.flatten_cons] at h1 h2
    obtain ⟨h11, h12⟩ := cksOk_append h1
    obtain ⟨h21, h22⟩ := cksOk_append h2
    rw [Nat.succ_mul] at la lb
    obtain ⟨v, v', p1, r1, f1, c1⟩ := part_rel hk1 ha (off := i * k1.length) (by omega) w
    obtain ⟨u, u', p2, r2, f2, c2⟩ := part_rel hk1 hb (off := i * k1.length) (by omega) w
    have e := ih e k1 hk1 D hD v u v' u' w r1 r2 f1 f2 (by rw [c1]; exact h11) (by rw [c2]; exact h21) (by rw [c1, c2]; exact hc.take _)
    have hi : i * k1.length + k1.length = (i + 1) * k1.length := by rw [Nat.succ_mul]
    rw [List.drop_drop, hi] at h12 h22
    have hc2 : Comp (a.drop ((i + 1) * k1.length)) (b.drop ((i + 1) * k1.length)) := by have := hc.drop k1.length; rwa [List.drop_drop, List.drop_drop, hi] at this
    have e2 := ihn (i + 1) (by omega) (by omega) h12 h22 hc2
    have split_eq : allEq (a.drop (i * k1.length)) (b.drop (i * k1.length)) = (allEq v.cells u.cells && allEq (a.drop ((i + 1) * k1.length)) (b.drop ((i + 1) * k1.length))) := by
      rw [c1, c2, ← hi, ← List.drop_drop, ← List.drop_drop, ← allEq_append (by simp; omega), List.take_append_drop, List.take_append_drop]
    rw [List.range'_succ]
    simp only [Op.eqItems, Sem.run_bind, p1, p2, Result.andThen_ok, e]
    rw [split_eq]
    cases allEq v.cells u.cells with
    | false => rfl
    | true => simp only [Bool.not_true, Bool.false_eq_true, if_false, Bool.true_and]; exact e2

theorem shp_eq (d : Nat) : EqAt P ρ d := by
  induction d with
  | zero => intro t ks h; cases h
  | succ d ih =>
    intro t ks h D hD x y x' y' w hx hy fx fy cx cy hc
    obtain ⟨D, rfl⟩ : ∃ E, D = E + 1 := ⟨D - 1, by omega⟩
    simp only [shp] at h
    unfold Fits aggOf at fx fy
    split at h
    · rename_i hu
      cases h
      rw [hu] at fx fy
      obtain ⟨s, rfl⟩ : ∃ s, x = .c s := fx
      obtain ⟨u, rfl⟩ : ∃ s, y = .c s := fy
      cases s <;> first | (simp [AV.cells, cksOk, ckOk] at cx; done) | skip
      cases u <;> first | (simp [AV.cells, cksOk, ckOk] at cy; done) | skip
      rename_i p q
      have hx : x' = .bool p := hx
      have hy : y' = .bool q := hy
      subst hx hy
      rw [run_equalIn_bool' w D t p q hu]
      simp [AV.cells, allEq, cellEq, boolEq_iff]
    · rename_i k hu
      cases h
      rw [hu] at fx fy
      obtain ⟨s, rfl⟩ : ∃ s, x = .c s := fx
      obtain ⟨u, rfl⟩ : ∃ s, y = .c s := fy
      cases s <;> first | (simp [AV.cells, cksOk, ckOk] at cx; done) | skip
      cases u <;> first | (simp [AV.cells, cksOk, ckOk] at cy; done) | skip
      rename_i k1 p k2 q
      have hx : x' = .int k1 p := hx
      have hy : y' = .int k2 q := hy
      subst hx hy
      obtain ⟨⟨r, hr⟩, _⟩ := hc
      simp only [cellEq] at hr
      cases hk : kindEq k1 k2 with
      | false => rw [hk] at hr; cases hr
      | true =>
        obtain rfl := kindEq_iff hk
        rw [run_equalIn_int w D t k1 k p q hu]
        simp [AV.cells, allEq, cellEq, hk, intEq_iff]
    · rename_i hu
      cases h
      rw [hu] at fx fy
      obtain ⟨s, rfl⟩ : ∃ s, x = .c s := fx
      obtain ⟨u, rfl⟩ : ∃ s, y = .c s := fy
      cases s <;> first | (simp [AV.cells, cksOk, ckOk] at cx; done) | skip
      cases u <;> first | (simp [AV.cells, cksOk, ckOk] at cy; done) | skip
      rename_i p q
      obtain ⟨s1, rfl, h1⟩ := hx
      obtain ⟨s2, rfl, h2⟩ := hy
      rw [run_equalIn_string w D t s1 s2 hu, ← beq_toListBytes, beqBytes h1 h2]
      simp [AV.cells, allEq, cellEq]
    · rename_i fs hu
      rw [hu] at fx fy
      obtain ⟨a, rfl⟩ : ∃ s, x = .g s := fx
      obtain ⟨b, rfl⟩ : ∃ s, y = .g s := fy
      obtain ⟨xs, rfl, ha⟩ := hx
      obtain ⟨ys, rfl, hb⟩ := hy
      split at h
      · cases h
      · rename_i hst
        split at h
        · rename_i l hl
          split at h
          · cases h
            have hf : P.fieldsOf t = fs := by simp [Program.fieldsOf, hu]
            rw [run_equalIn_struct w D t xs ys (by rw [hf]; exact hu) (by simpa using hst), hf]
            show _ = Result.ok (allEq a b) w
            have cx : cksOk _ a = true := cx
            have cy : cksOk _ b = true := cy
            have hc : Comp a b := hc
            have := fields_eq ih (D := D) (by omega) ha hb w fs.toList 0 _ (by omega) (by omega) hl (by simpa using cx) (by simpa using cy) (by simpa using hc)
            simpa using this
          · cases h
        · cases h
    · rename_i n e hu
      rw [hu] at fx fy
      obtain ⟨a, rfl⟩ : ∃ s, x = .g s := fx
      obtain ⟨b, rfl⟩ : ∃ s, y = .g s := fy
      obtain ⟨xs, rfl, ha⟩ := hx
      obtain ⟨ys, rfl, hb⟩ := hy
      split at h
      · rename_i l hl
        split at h
        · rename_i hs
          cases h
          obtain ⟨hs, _⟩ := hs
          unfold szOf at hs
          cases hi : P.info? e with
          | none => rw [hi] at hs; cases hs
          | some i =>
            have hce : P.cellsOf e = l.length := by unfold Program.cellsOf; rw [hs]; rfl
            rw [run_equalIn_array w D xs ys hu hi, hce, List.range_eq_range']
            have la := cksOk_length cx
            have lb := cksOk_length cy
            simp only [AV.cells] at la lb
            have hl2 : (List.replicate n l).flatten.length = n * l.length := by simp
            show _ = Result.ok (allEq a b) w
            have cx : cksOk _ a = true := cx
            have cy : cksOk _ b = true := cy
            have hc : Comp a b := hc
            have := items_eq ih (D := D) (by omega) hl ha hb w n 0 (by omega) (by omega) (by simpa using cx) (by simpa using cy) (by simpa using hc)
            simpa using this
        · cases h
      · cases h
    · cases h

theorem unruns_toRunsK : ∀ l : List CK, unruns (toRunsK l) = l := by
  intro l
  induction l with
  | nil => rfl
  | cons x r ih =>
    unfold toRunsK
    cases hr : toRunsK r with
    | nil => rw [hr] at ih; simp [unruns] at ih; subst ih; simp [unruns]
    | cons y q =>
      obtain ⟨n, y⟩ := y
      rw [hr] at ih
      simp only []
      split
      · rename_i e; subst e; simp only [unruns, List.replicate_succ, List.cons_append]; rw [← ih]; rfl
      · simp only [unruns, List.replicate_one, List.singleton_append]; rw [← ih]; rfl

theorem pEqa_sound {neg : Bool} {ks : List CK} {x y v : AV} {x' y' : Value} {t : TypeId} {xo yo : Operand} {w : World} (hx : RelV ρ x x') (hy : RelV ρ y y')
    (ht : aggOf P t = true) (hg : P.eqGuardType P.depth t = false) (hs : shp P 50 t = some ks) (h : pEqa neg (toRunsK ks) x y = some v) :
    Gives P ρ w (do eqGuard (if neg then .neq else .eql) t xo yo x' y'; binOp (if neg then .neq else .eql) t x' y') v := by
  unfold pEqa at h
  split at h
  · rename_i a b
    rw [unruns_toRunsK] at h
    cases h1 : cksOk ks a with
    | false => rw [h1] at h; cases h
    | true =>
      cases h2 : cksOk ks b with
      | false => rw [h1, h2] at h; cases h
      | true =>
        rw [h1, h2, cond_true, cond_true] at h
        cases hr : cellsEq a b with
        | none => rw [hr] at h; cases h
        | some r =>
          rw [hr] at h
          have he := shp_eq (P := P) (ρ := ρ) 50 t ks hs 10000 (by omega) (.g a) (.g b) x' y' w hx hy (by unfold Fits; rw [ht]; exact ⟨a, rfl⟩) (by unfold Fits; rw [ht]; exact ⟨b, rfl⟩) h1 h2 (Comp.of_eq hr)
          obtain ⟨xs, rfl, _⟩ := hx
          obtain ⟨ys, rfl, _⟩ := hy
          have hgr : (eqGuard (if neg = true then BinOp.neq else .eql) t xo yo (.agg xs) (.agg ys)).run P w = .ok () w := by
            cases neg <;> simp [eqGuard, hg]
          refine flip_sound rfl hgr (by cases neg <;> rfl) (fun c hc => ?_) h
          cases hc
          show (Op.equalIn 10000 t (.agg xs) (.agg ys)).run P w = _
          rw [he, cellsEq_all hr]; rfl
  · cases h
end Go.AM

/-
  Every operation that looks at its operands alone: what the machine says is what the model does. Conditions stand at the law.
-/
namespace Go.AM
variable {P : Program} {ρ : Emb}

theorem Gives.value {w : World} {s : Sem Value} {v : AV} (h : Gives P ρ w s v) : ∃ v', (do pure (Next.value (← s)) : Sem Next).run P w = .ok (.value v') w ∧ RelV ρ v v' := by
  obtain ⟨v', h1, h2⟩ := h
  exact ⟨v', by rw [Sem.run_bind, h1]; rfl, h2⟩

theorem optO_sound {tm : Tm} {a : Act} (ht : RelT ρ tm a.tmps) {x : Option Operand} {d : Option Opd} (h : x.mapM opdOf = some d) : RelO ρ (optGet tm d) (x.map a.eval) := by
  cases x with
  | none => simp at h; subst h; trivial
  | some x =>
    simp only [Option.mapM, Option.map_eq_map] at h
    cases hx : opdOf x with
    | none => rw [hx] at h; cases h
    | some y => rw [hx] at h; cases h; exact opd_sound ht hx

theorem parts_all2 {tm : Tm} {a : Act} (ht : RelT ρ tm a.tmps) {place : Nat → Option (Nat × Nat)} {f : Nat × Operand → Option (Nat × Nat × Opd)}
    (hf : ∀ i x p, f (i, x) = some p → place i = some (p.1, p.2.1) ∧ opdOf x = some p.2.2) : ∀ {qs : List (Nat × Operand)} {ps : List (Nat × Nat × Opd)}, qs.mapM f = some ps →
    All2 (fun (p : Nat × Nat × Opd) (q : Nat × Value) => place q.1 = some (p.1, p.2.1) ∧ RelV ρ (p.2.2.get tm) q.2) ps (qs.map fun q => (q.1, a.eval q.2)) := by
  intro qs
  induction qs with
  | nil => intro ps h; simp at h; subst h; exact .nil
  | cons q qs ih =>
    intro ps h
    rw [List.mapM_cons] at h
    simp only [bind, Option.bind_eq_some_iff, pure, Option.some.injEq] at h
    obtain ⟨p, hp, r, hr, rfl⟩ := h
    obtain ⟨i, x⟩ := q
    obtain ⟨h1, h2⟩ := hf i x p hp
    exact .cons ⟨h1, opd_sound ht h2⟩ (ih hr)

theorem zero_run {t : TypeId} {l : List Sc} (h : zeroC P t = some l) (w : World) : ∃ zv, (zeroValue t).run P w = .ok zv w ∧ RelL ρ l zv.cells.toList ∧ (∀ x ∈ l, ∃ v, scOf v = some x) := by
  unfold zeroC zeroOf at h
  cases hi : P.info? t with
  | none => rw [hi] at h; cases h
  | some i =>
    rw [hi] at h
    simp only [Option.bind_some] at h
    cases hz : i.zero with
    | none => rw [hz] at h; cases h
    | some v =>
      rw [hz] at h
      simp only [Option.bind_some] at h
      have hrun : (zeroValue t).run P w = .ok v w := by simp [zeroValue, typeInfo, hi, hz]
      cases hav : avOf v with
      | none => rw [hav] at h; cases h
      | some z =>
        rw [hav] at h
        have hrel := RelV.of_av (ρ := ρ) hav
        have hsc : ∀ x ∈ z.cells, ∃ v, scOf v = some x := by
          unfold avOf at hav
          split at hav
          · rename_i cs
            cases hm : cs.toList.mapM scOf with
            | none => rw [hm] at hav; cases hav
            | some l =>
              rw [hm] at hav; cases hav
              have := mapM_all2 (f := scOf) (R := fun s v => scOf v = some s) (fun a b hab => hab) hm
              intro x hx
              obtain ⟨i, hi⟩ := List.getElem?_of_mem hx
              obtain ⟨y, _, hy⟩ := forall₂_get this i x hi
              exact ⟨y, hy⟩
          · split at hav
            · cases hav; intro x hx; cases hx
            · cases hav
          · cases hs : scOf v with
            | none => rw [hs] at hav; cases hav
            | some s => rw [hs] at hav; cases hav; intro x hx; simp [AV.cells] at hx; subst hx; exact ⟨v, hs⟩
        cases z with
        | t l => cases h
        | c x => cases h; exact ⟨v, hrun, RelV0.cells (x := .c x) hrel, hsc⟩
        | g l => cases h; exact ⟨v, hrun, RelV0.cells (x := .g l) hrel, hsc⟩

theorem run_mapM_list {α β : Type} {f : α → Sem β} {g : α → β} (w : World) : ∀ (l : List α), (∀ x ∈ l, (f x).run P w = .ok (g x) w) → (l.mapM f).run P w = .ok (l.map g) w := by
  intro l
  induction l with
  | nil => intro _; simp
  | cons x l ih =>
    intro h
    rw [List.mapM_cons, Sem.run_bind, h x (by simp), Result.andThen_ok, Sem.run_bind, ih fun y hy => h y (List.mem_cons_of_mem _ hy)]
    rfl
theorem run_mapM_array {α β : Type} {f : α → Sem β} {g : α → β} (w : World) (l : Array α) (h : ∀ x ∈ l, (f x).run P w = .ok (g x) w) : (l.mapM f).run P w = .ok (l.map g) w := by
  have := run_mapM_list (P := P) w l.toList fun x hx => h x (by simpa using hx)
  rw [Array.mapM_eq_mapM_toList, Sem.run_map, this]
  show Result.ok _ w = _
  congr 1
  apply Array.ext'; simp

theorem run_places {fs : Array Field} (h : fs.all (fun f => (szOf P f.type).isSome) = true) (w : World) :
    (fs.mapM fun f => do pure (f.offset, ← sizeOf f.type) : Sem (Array (Nat × Nat))).run P w = .ok (fs.map fun f => (f.offset, (szOf P f.type).getD 0)) w := by
  refine run_mapM_array w fs fun f hf => ?_
  have := (Array.all_eq_true_iff_forall_mem.1 h) f hf
  obtain ⟨n, hn⟩ := Option.isSome_iff_exists.1 this
  rw [Sem.run_bind, run_sizeOf' hn, hn]; rfl

theorem und_some {t : TypeId} {n : Nat} (h : szU P t = some n) : szOf P t = some n ∧ ∃ d, P.underlying t = some d := by
  unfold szU at h
  split at h
  · rename_i hs; exact ⟨h, Option.isSome_iff_exists.1 hs⟩
  · cases h

theorem pcall_sound {o : Oper} {c : Call} {po : POp} {tm : Tm} {a : Act} {v : AV} (w : World) (hop : o.op = .call c) (h : cCall P c = some (.p po)) (ht : RelT ρ tm a.tmps) (hr : po.run tm = some v) :
    ∃ v', (execOp a.eval o).run P w = .ok (.value v') w ∧ RelV ρ v v' := by
  unfold cCall at h
  simp only [bind, Option.bind_eq_some_iff] at h
  obtain ⟨xs, hxs, h⟩ := h
  split at h
  · simp only [Option.bind_eq_some_iff] at h
    obtain ⟨fn, _, h⟩ := h
    split at h
    · split at h <;> cases h
    · simp [Option.bind_eq_some_iff] at h
  · simp [Option.bind_eq_some_iff] at h
  · cases h
  · rename_i b hb
    have hall := opds_sound (ρ := ρ) ht (xs := c.args.toList) hxs
    have hbi : ∀ (s : Sem Value), (∀ cs, builtin b c.argTypes o.type cs (c.args.map a.eval) = (do pure (.value (← s)))) → Gives P ρ w s v → ∃ v', (execOp a.eval o).run P w = .ok (.value v') w ∧ RelV ρ v v' := by
      intro s hs hg
      have := hg.value
      unfold execOp; rw [hop]
      simp only [resolve, hb, Sem.run_bind, Sem.run_pure, Result.andThen_ok, invoke]
      rw [hs]; exact this
    have one : ∀ d, xs = [d] → ∃ x', c.args.map a.eval = #[x'] ∧ RelV ρ (d.get tm) x' := by
      rintro d rfl
      have hl := forall₂_length hall
      have e : gets tm [d] = [d.get tm] := rfl
      rw [e] at hall hl
      cases hargs : c.args.toList.map a.eval with
      | nil => rw [hargs] at hl; cases hl
      | cons x' r =>
        rw [hargs] at hall hl
        cases r with
        | cons _ _ => simp at hl
        | nil =>
          cases hall with
          | cons h1 _ => exact ⟨x', by apply Array.ext'; simpa using hargs, h1⟩
    have t0 : ∀ d, (c.argTypes[0]?).bind P.underlying = some d → ∃ t, c.argTypes[0]? = some t ∧ P.underlying t = some d := by
      intro d hd
      exact Option.bind_eq_some_iff.1 hd
    split at h
    · split at h
      · split at h <;> first | (cases h; done) | (simp [Option.bind_eq_some_iff] at h; done)
      · cases h
    · split at h
      · simp [Option.bind_eq_some_iff] at h
      · cases h
    · rename_i x
      obtain ⟨x', hx1, hx2⟩ := one x rfl
      split at h
      · rename_i hu
        obtain ⟨t, h1, h2⟩ := t0 _ hu
        cases h
        exact hbi (Builtin.len_ c.argTypes o.type (c.args.map a.eval)) (fun _ => rfl) (by rw [hx1]; exact pLen_sound (str := true) h1 h2 hx2 hr o.type)
      · rename_i hu
        obtain ⟨t, h1, h2⟩ := t0 _ hu
        cases h
        exact hbi (Builtin.len_ c.argTypes o.type (c.args.map a.eval)) (fun _ => rfl) (by rw [hx1]; exact pLen_sound (str := false) h1 ⟨_, h2⟩ hx2 hr o.type)
      · rename_i n e hu
        obtain ⟨t, h1, h2⟩ := t0 _ hu
        cases h
        have hr : some (AV.c (.i .i64 n)) = some v := hr
        cases hr
        exact hbi (Builtin.len_ c.argTypes o.type (c.args.map a.eval)) (fun _ => rfl) (by rw [hx1]; exact ⟨.int .i64 n, by simp [Builtin.len_, h1, run_underlying h2, goInt], rfl⟩)
      · rename_i q hu
        obtain ⟨t, h1, h2⟩ := t0 _ hu
        split at h
        · rename_i n e hu2
          cases h
          have hr : some (AV.c (.i .i64 n)) = some v := hr
          cases hr
          exact hbi (Builtin.len_ c.argTypes o.type (c.args.map a.eval)) (fun _ => rfl) (by rw [hx1]; exact ⟨.int .i64 n, by simp [Builtin.len_, h1, run_underlying h2, run_underlying hu2, goInt], rfl⟩)
        · cases h
      · cases h
      · cases h
    · rename_i x
      obtain ⟨x', hx1, hx2⟩ := one x rfl
      split at h
      · rename_i hu
        obtain ⟨t, h1, h2⟩ := t0 _ hu
        cases h
        exact hbi (Builtin.cap_ c.argTypes o.type (c.args.map a.eval)) (fun _ => rfl) (by rw [hx1]; exact pCap_sound h1 h2 hx2 hr o.type)
      · cases h
    · cases h
      obtain ⟨v', h1, h2⟩ := pMm_sound (P := P) (max := true) (w := w) ht hxs hr
      refine hbi (Builtin.max_ c.argTypes o.type (c.args.map a.eval)) (fun _ => rfl) ⟨v', ?_, h2⟩
      have e : (c.args.toList.map a.eval).toArray = c.args.map a.eval := by apply Array.ext'; simp
      rw [e] at h1; exact h1
    · cases h
      obtain ⟨v', h1, h2⟩ := pMm_sound (P := P) (max := false) (w := w) ht hxs hr
      refine hbi (Builtin.min_ c.argTypes o.type (c.args.map a.eval)) (fun _ => rfl) ⟨v', ?_, h2⟩
      have e : (c.args.toList.map a.eval).toArray = c.args.map a.eval := by apply Array.ext'; simp
      rw [e] at h1; exact h1
    · split at h
      · simp [Option.bind_eq_some_iff] at h
      · cases h
    · split at h
      · cases h
      · simp [Option.bind_eq_some_iff] at h
      · cases h
    · cases h

theorem pop_sound {o : Oper} {po : POp} {tm : Tm} {a : Act} {v : AV} (w : World) (h : cOp P o = some (.p po)) (ht : RelT ρ tm a.tmps) (hr : po.run tm = some v) :
    ∃ v', (execOp a.eval o).run P w = .ok (.value v') w ∧ RelV ρ v v' := by
  unfold cOp at h
  split at h
  · rename_i x hop
    simp only [bind, Option.bind_eq_some_iff, pure, Option.some.injEq, XOp.p.injEq] at h
    obtain ⟨d, hd, rfl⟩ := h
    have hr : some (d.get tm) = some v := hr
    cases hr
    exact ⟨a.eval x, by unfold execOp; rw [hop]; rfl, opd_sound ht hd⟩
  · rename_i x hop
    simp only [bind, Option.bind_eq_some_iff, pure, Option.some.injEq, XOp.p.injEq] at h
    obtain ⟨d, hd, rfl⟩ := h
    have hr : some (d.get tm) = some v := hr
    cases hr
    exact ⟨a.eval x, by unfold execOp; rw [hop]; rfl, opd_sound ht hd⟩
  · rename_i c x y hop
    simp only [bind, Option.bind_eq_some_iff, pure, Option.some.injEq, XOp.p.injEq] at h
    obtain ⟨dc, hc, dx, hx, dy, hy, rfl⟩ := h
    have hr : (match dc.get tm with | .c (.b t) => some (bif t then dx.get tm else dy.get tm) | _ => none) = some v := hr
    have h1 := opd_sound ht hc
    split at hr
    · rename_i t e
      rw [e] at h1
      have h1 : a.eval c = .bool t := h1
      cases hr
      cases t
      · exact ⟨a.eval y, by unfold execOp; rw [hop]; simp [asBool, h1], opd_sound ht hy⟩
      · exact ⟨a.eval x, by unfold execOp; rw [hop]; simp [asBool, h1], opd_sound ht hx⟩
    · cases hr
  · simp [bind, Option.bind_eq_some_iff] at h
  · simp [bind, Option.bind_eq_some_iff] at h
  · rename_i t ps hop
    simp only [bind, Option.bind_eq_some_iff] at h
    obtain ⟨z, hz, h⟩ := h
    obtain ⟨zv, hz1, hz2, hz3⟩ := zero_run (ρ := ρ) hz w
    have hrun := runs_toRuns z hz3
    split at h
    · rename_i fs hu
      split at h
      · cases h
      rename_i hall
      have hall : fs.all (fun f => (szOf P f.type).isSome) = true := by
        cases hh : fs.all (fun f => (szOf P f.type).isSome) with
        | true => rfl
        | false => rw [hh] at hall; exact absurd rfl hall
      simp only [bind, Option.bind_eq_some_iff, pure, Option.some.injEq, XOp.p.injEq] at h
      obtain ⟨l, hl, rfl⟩ := h
      have hr : (layParts (runs (toRuns z)) l tm).map .g = some v := hr
      rw [hrun] at hr
      cases hp : layParts z l tm with
      | none => rw [hp] at hr; cases hr
      | some cs =>
        rw [hp] at hr; cases hr
        have h2 := parts_all2 (ρ := ρ) ht (place := fun i => (fs.map fun f => (f.offset, (szOf P f.type).getD 0))[i]?) (fun i x p hp => by
          simp only [bind, Option.bind_eq_some_iff, pure, Option.some.injEq] at hp
          obtain ⟨f, hf, n, hn, d, hd, rfl⟩ := hp
          exact ⟨by simp [hf, hn], hd⟩) hl
        obtain ⟨cs', h3, h4⟩ := layParts_sound h2 hz2 hp
        refine ⟨.agg cs', ?_, cs', rfl, h4⟩
        unfold execOp
        rw [hop]
        simp only [Instr.build, Sem.run_bind, hz1, Result.andThen_ok, run_underlying hu, run_places hall, Array.toList_map]
        rw [h3]; rfl
    · rename_i n e hu
      simp only [bind, Option.bind_eq_some_iff, pure, Option.some.injEq, XOp.p.injEq] at h
      obtain ⟨sz, hsz, l, hl, rfl⟩ := h
      have hr : (layParts (runs (toRuns z)) l tm).map .g = some v := hr
      rw [hrun] at hr
      cases hp : layParts z l tm with
      | none => rw [hp] at hr; cases hr
      | some cs =>
        rw [hp] at hr; cases hr
        have h2 := parts_all2 (ρ := ρ) ht (place := fun i => some (i * sz, sz)) (fun i x p hp => by
          simp only [bind, Option.bind_eq_some_iff, pure, Option.some.injEq] at hp
          obtain ⟨d, hd, rfl⟩ := hp
          exact ⟨rfl, hd⟩) hl
        obtain ⟨cs', h3, h4⟩ := layParts_sound (place := fun i => some (i * sz, sz)) h2 hz2 hp
        refine ⟨.agg cs', ?_, cs', rfl, h4⟩
        unfold execOp
        rw [hop]
        simp only [Instr.build, Sem.run_bind, hz1, Result.andThen_ok, run_underlying hu, run_sizeOf' hsz, Array.toList_map]
        rw [h3]; rfl
    · cases h
  · -- buildSlice
    simp only [bind, Option.bind_eq_some_iff] at h
    split at h
    · simp [Option.bind_eq_some_iff] at h
    · cases h
  · -- load
    split at h <;> simp [bind, Option.bind_eq_some_iff] at h
  · -- store
    simp [bind, Option.bind_eq_some_iff] at h
  · -- nilCheck
    rename_i x hop
    simp only [bind, Option.bind_eq_some_iff, pure, Option.some.injEq, XOp.p.injEq] at h
    obtain ⟨d, hd, rfl⟩ := h
    exact pNil_sound hop (opd_sound ht hd) hr
  · -- binOp
    rename_i op t x y yt hop
    simp only [bind, Option.bind_eq_some_iff] at h
    obtain ⟨dx, hx, dy, hy, h⟩ := h
    have hex : ∀ s : Sem Value, s = (do eqGuard op t x y (a.eval x) (a.eval y); binOp op t (a.eval x) (a.eval y)) → Gives P ρ w s v → ∃ v', (execOp a.eval o).run P w = .ok (.value v') w ∧ RelV ρ v v' := by
      rintro s rfl hg
      have := hg.value
      unfold execOp; rw [hop]; exact this
    have hxx := opd_sound ht hx
    have hyy := opd_sound ht hy
    have heqx : ∀ q, (match op with
        | .eql => some (XOp.p (.eqx false q dx dy))
        | .neq => some (XOp.p (.eqx true q dx dy))
        | _ => none) = some (.p po) → ∃ neg : Bool, op = (if neg then .neq else .eql) ∧ po = .eqx neg q dx dy := by
      intro q hq
      split at hq
      · cases hq; exact ⟨false, rfl, rfl⟩
      · cases hq; exact ⟨true, rfl, rfl⟩
      · cases hq
    split at h
    · rename_i k hu
      cases h
      exact hex _ rfl (pBin_sound hxx hyy hr)
    · rename_i hu
      cases h
      exact hex _ rfl (pBin_sound hxx hyy hr)
    · rename_i hu
      obtain ⟨neg, rfl, rfl⟩ := heqx .b h
      exact hex _ rfl (pEqx_sound (q := .b) hxx hyy hu hr)
    · rename_i e hu
      obtain ⟨neg, rfl, rfl⟩ := heqx .p h
      exact hex _ rfl (pEqx_sound (q := .p) hxx hyy ⟨e, hu⟩ hr)
    · rename_i e hu
      obtain ⟨neg, rfl, rfl⟩ := heqx .s h
      exact hex _ rfl (pEqx_sound (q := .s) hxx hyy ⟨e, hu⟩ hr)
    · rename_i k e hu
      obtain ⟨neg, rfl, rfl⟩ := heqx .m h
      exact hex _ rfl (pEqx_sound (q := .m) hxx hyy ⟨k, e, hu⟩ hr)
    · rename_i k e z hu
      obtain ⟨neg, rfl, rfl⟩ := heqx .f h
      exact hex _ rfl (pEqx_sound (q := .f) hxx hyy ⟨k, e, z, hu⟩ hr)
    · rename_i fs hu
      split at h
      · cases h
      · rename_i hg
        have ha : aggOf P t = true := by unfold aggOf; rw [hu]
        split at h
        · rename_i ks hks
          cases h
          exact hex _ rfl (pEqa_sound (neg := false) hxx hyy ha (by simpa using hg) hks hr)
        · rename_i ks hks
          cases h
          exact hex _ rfl (pEqa_sound (neg := true) hxx hyy ha (by simpa using hg) hks hr)
        · cases h
    · rename_i n e hu
      split at h
      · cases h
      · rename_i hg
        have ha : aggOf P t = true := by unfold aggOf; rw [hu]
        split at h
        · rename_i ks hks
          cases h
          exact hex _ rfl (pEqa_sound (neg := false) hxx hyy ha (by simpa using hg) hks hr)
        · rename_i ks hks
          cases h
          exact hex _ rfl (pEqa_sound (neg := true) hxx hyy ha (by simpa using hg) hks hr)
        · cases h
    · cases h
  · -- unOp
    rename_i op t x hop
    simp only [bind, Option.bind_eq_some_iff, pure, Option.some.injEq, XOp.p.injEq] at h
    obtain ⟨d, hd, rfl⟩ := h
    have := (pUn_sound (P := P) (w := w) (opd_sound ht hd) hr).value
    unfold execOp; rw [hop]; exact this
  · -- convert
    rename_i s d x hop
    simp only [bind, Option.bind_eq_some_iff] at h
    obtain ⟨dx, hx, h⟩ := h
    have hxx := opd_sound ht hx
    split at h
    · rename_i ks k hs hd
      cases h
      have := (pCvt_sound (P := P) (w := w) hs hd hxx hr).value
      unfold execOp; rw [hop]; exact this
    · simp only [Option.bind_eq_some_iff] at h
      obtain ⟨n, _, h⟩ := h
      split at h <;> cases h
    · rename_i hs hd
      cases h
      have hr : pSls (dx.get tm) none none = some v := hr
      unfold pSls at hr
      split at hr
      · rename_i l e
        rw [e] at hxx
        obtain ⟨s', h1, h2⟩ := hxx
        simp only [bnd, Option.bind_some, forceL_eq, takeK_eq, dropK_eq] at hr
        rw [ble_t (Nat.le_refl _), ble_t (Nat.zero_le _)] at hr
        simp only [cond_true, List.drop_zero, Nat.sub_eq, Nat.sub_zero, List.take_length, Option.some.injEq] at hr
        subst hr
        refine ⟨a.eval x, ?_, ⟨s', h1, h2⟩⟩
        unfold execOp; rw [hop]; simp only [Sem.run_bind]
        rw [h1]
        simp only [convert, Sem.run_bind, run_underlying hs, run_underlying hd, Result.andThen_ok]
        rfl
      · cases hr
    · split at h <;> cases h
    · split at h <;> cases h
    · cases h
  · -- makeFunc
    rename_i f first cs hop
    split at h
    · rename_i hf
      simp only [bind, Option.bind_eq_some_iff, pure, Option.some.injEq, XOp.p.injEq] at h
      obtain ⟨l1, h1, l2, h2, rfl⟩ := h
      have hr : (match ptrs tm l1, ptrs tm l2 with | some p, some q => some (.c (.f (.of f) p q)) | _, _ => none) = some v := hr
      split at hr
      · rename_i p q e1 e2
        cases hr
        refine ⟨.func (.func f) (first.map a.eval) (cs.map a.eval), by unfold execOp; rw [hop]; rfl, ?_⟩
        refine ⟨_, _, by rw [P4.n_of hf], ?_, ?_⟩
        · have := ptrs_sound ht h1 e1; simpa using this
        · have := ptrs_sound ht h2 e2; simpa using this
      · cases hr
    · cases h
  · cases h
  · -- makeSlice
    simp only [bind, Option.bind_eq_some_iff] at h
    split at h
    · simp [Option.bind_eq_some_iff] at h
    · cases h
  · -- slice
    rename_i t x lo hi mx hop
    simp only [bind, Option.bind_eq_some_iff] at h
    obtain ⟨dx, hx, dlo, hlo, dhi, hhi, dmx, hmx, h⟩ := h
    have hxx := opd_sound ht hx
    have h1 := optO_sound ht hlo
    have h2 := optO_sound ht hhi
    have h3 := optO_sound ht hmx
    have hex : Gives P ρ w (Instr.sliceAt t (a.eval x) (lo.map a.eval) (hi.map a.eval) (mx.map a.eval)) v → ∃ v', (execOp a.eval o).run P w = .ok (.value v') w ∧ RelV ρ v v' := by
      intro hg
      have := hg.value
      unfold execOp; rw [hop]; exact this
    split at h
    · rename_i hu
      split at h
      · rename_i hn
        cases h
        cases mx with
        | some m =>
          simp only [Option.mapM, Option.map_eq_map] at hmx
          cases hm : opdOf m with
          | none => rw [hm] at hmx; cases hmx
          | some y => rw [hm] at hmx; cases hmx; cases hn
        | none => exact hex (pSls_sound hu hxx h1 h2 hr)
      · cases h
    · rename_i e hu
      simp only [Option.bind_eq_some_iff, pure, Option.some.injEq, XOp.p.injEq] at h
      obtain ⟨n, hn, rfl⟩ := h
      exact hex (pSlc_sound hu hn hxx h1 h2 h3 hr)
    · rename_i n e hu
      simp only [Option.bind_eq_some_iff, pure, Option.some.injEq, XOp.p.injEq] at h
      obtain ⟨sz, hn, rfl⟩ := h
      exact hex (pSla_sound hu hn hxx h1 h2 h3 hr)
    · rename_i pa hu
      split at h
      · rename_i n e hua
        simp only [Option.bind_eq_some_iff, pure, Option.some.injEq, XOp.p.injEq] at h
        obtain ⟨sz, hn, rfl⟩ := h
        exact hex (pSlaP_sound hu hua hn hxx h1 h2 h3 hr)
      · cases h
    · cases h
  · -- fieldAddr
    rename_i st x f hop
    simp only [bind, Option.bind_eq_some_iff] at h
    split at h
    · rename_i fs hu
      simp only [Option.bind_eq_some_iff] at h
      obtain ⟨fd, hf, n, hn, h⟩ := h
      split at h
      · cases h
      · rename_i hn0
        simp only [Option.bind_eq_some_iff, pure, Option.some.injEq, XOp.p.injEq] at h
        obtain ⟨d, hd, rfl⟩ := h
        have := (pFa_sound (P := P) (w := w) hu hf hn hn0 (opd_sound ht hd) hr).value
        unfold execOp; rw [hop]; exact this
    · cases h
  · -- field
    rename_i st x f hop
    simp only [bind, Option.bind_eq_some_iff] at h
    split at h
    · rename_i fs hu
      simp only [Option.bind_eq_some_iff, pure, Option.some.injEq, XOp.p.injEq] at h
      obtain ⟨fd, hf, n, hn, d, hd, rfl⟩ := h
      obtain ⟨hn, u, hud⟩ := und_some (P := P) hn
      have := (pFld_sound (P := P) (w := w) hu hf hud hn (opd_sound ht hd) hr).value
      unfold execOp; rw [hop]; exact this
    · cases h
  · -- indexAddr
    rename_i t x i hop
    split at h
    · rename_i n e hu
      simp only [bind, Option.bind_eq_some_iff, pure, Option.some.injEq, XOp.p.injEq] at h
      obtain ⟨sz, hn, d, hd, di, hi, rfl⟩ := h
      have := (pIar_sound (P := P) (w := w) hu hn (opd_sound ht hd) (opd_sound ht hi) hr).value
      unfold execOp; rw [hop]; exact this
    · rename_i e hu
      simp only [bind, Option.bind_eq_some_iff, pure, Option.some.injEq, XOp.p.injEq] at h
      obtain ⟨sz, hn, d, hd, di, hi, rfl⟩ := h
      have := (pIsl_sound (P := P) (w := w) hu hn (opd_sound ht hd) (opd_sound ht hi) hr).value
      unfold execOp; rw [hop]; exact this
    · cases h
  · -- index
    rename_i t x i hop
    split at h
    · rename_i n e hu
      simp only [bind, Option.bind_eq_some_iff, pure, Option.some.injEq, XOp.p.injEq] at h
      obtain ⟨sz, hn, d, hd, di, hi, rfl⟩ := h
      obtain ⟨hn, u, hud⟩ := und_some (P := P) hn
      have := (pIxa_sound (P := P) (w := w) hu hud hn (opd_sound ht hd) (opd_sound ht hi) hr).value
      unfold execOp; rw [hop]; exact this
    · rename_i hu
      simp only [bind, Option.bind_eq_some_iff, pure, Option.some.injEq, XOp.p.injEq] at h
      obtain ⟨d, hd, di, hi, rfl⟩ := h
      have := (pIxs_sound (P := P) (w := w) hu (opd_sound ht hd) (opd_sound ht hi) hr).value
      unfold execOp; rw [hop]; exact this
    · cases h
  · split at h
    · simp only [bind, Option.bind_eq_some_iff] at h
      obtain ⟨f, _, h⟩ := h
      split at h
      · cases h
      · simp [Option.bind_eq_some_iff] at h
      · cases h
    · cases h
  · split at h
    · simp [bind, Option.bind_eq_some_iff] at h
    · cases h
  · split at h
    · simp [bind, Option.bind_eq_some_iff] at h
    · cases h
  · -- extract
    rename_i x i hop
    simp only [bind, Option.bind_eq_some_iff, pure, Option.some.injEq, XOp.p.injEq] at h
    obtain ⟨d, hd, rfl⟩ := h
    have := (pExt_sound (P := P) (w := w) (opd_sound ht hd) hr).value
    unfold execOp; rw [hop]; exact this
  · -- call
    rename_i c hop
    exact pcall_sound w hop h ht hr
  · split at h
    · simp [bind, Option.bind_eq_some_iff] at h
    · cases h
  · cases h
end Go.AM

/-
  Operations that read memory. Conditions stand at each law.
-/
namespace Go.AM
variable {P : Program} {ρ : Emb}

/-- A block of cells, as the world has it. -/
theorem RelH.cells {h : Hp} {w : World} (H : RelH P ρ h w) {r : Id} {wr : Bool} {l : Rope Sc} (hr : h.get r = some (.cells wr l)) :
    ∃ b o vs, ρ r = some (b, o) ∧ b < w.heap.size ∧ l.ok ∧ w.rangeAt b o vs ∧ RelL ρ l.toList vs ∧ (wr = true → w.there b 0 (ρ.e r) ∧ o + vs.length ≤ ρ.e r) := by
  obtain ⟨b, o, h1, h2, hok, vs, h3, h4, h5⟩ := H.blk r _ hr
  exact ⟨b, o, vs, h1, h2, hok, h3, h4, h5⟩

theorem rLd_sound {x v : AV} {x' : Value} {h : Hp} {w : World} (H : RelH P ρ h w) (hx : RelV ρ x x') (hr : rLd x h = some v) :
    ∃ a v', x' = .pointer (some a) ∧ w.cell? a = some v' ∧ ∃ s, v = .c s ∧ RelS ρ s v' := by
  unfold rLd at hr
  split at hr
  · rename_i r o
    obtain ⟨a, rfl, b, o1, h1, rfl⟩ := hx
    split at hr
    · rename_i wr l hg
      obtain ⟨b', o', vs, h2, _, hok, h3, h4, _⟩ := H.cells hg
      rw [h1] at h2; cases h2
      rw [Rope.get_eq l hok] at hr
      cases hs : l.toList[o]? with
      | none => rw [hs] at hr; cases hr
      | some s =>
        rw [hs] at hr; cases hr
        obtain ⟨y, hy, hr⟩ := forall₂_get h4 o s hs
        exact ⟨_, y, rfl, h3 o y hy, s, rfl, hr⟩
    · cases hr
  · cases hr

theorem ld_run {t : TypeId} {a : Addr} {v' : Value} {w : World} {u : TypeDesc} (hu : P.underlying t = some u) (ha : aggOf P t = false) (hc : w.cell? a = some v') :
    (Instr.loadAt t (.pointer (some a))).run P w = .ok v' w := by
  simp only [Instr.loadAt, Instr.sureAddr, Sem.run_bind, Sem.run_pure, Result.andThen_ok, loadVar, run_isAgg t hu, ha, Bool.false_eq_true, if_false, run_load, hc]

theorem readN_sound {h : Hp} {w : World} (H : RelH P ρ h w) {r : Id} {o n : Nat} {l : List Sc} (hr : readN h r o n = some l) :
    ∃ b o1 vs, ρ r = some (b, o1) ∧ w.rangeAt b (o1 + o) vs ∧ RelL ρ l vs ∧ l.length = n := by
  unfold readN at hr
  split at hr
  · rename_i wr c hg
    obtain ⟨b, o', vs, h2, _, hok, h3, h4, _⟩ := H.cells hg
    simp only [forceL_eq, Rope.read_eq c hok] at hr
    cases hb : Nat.beq ((c.toList.drop o).take n).length n with
    | false => rw [hb] at hr; cases hr
    | true =>
      rw [hb, cond_true] at hr; cases hr
      rw [Nat.beq_eq] at hb
      refine ⟨b, o', (vs.drop o).take n, h2, fun j v hv => ?_, forall₂_take (forall₂_drop h4 o) n, hb⟩
      rw [List.getElem?_take] at hv
      split at hv
      · rw [List.getElem?_drop] at hv
        rw [Nat.add_assoc]; exact h3 _ v hv
      · cases hv
  · cases hr

theorem rLda_sound {x v : AV} {x' : Value} {t : TypeId} {n : Nat} {h : Hp} {w : World} (H : RelH P ρ h w) (ha : aggOf P t = true) (hn : szOf P t = some n) (hx : RelV ρ x x') (hr : rLda n x h = some v) :
    Gives P ρ w (Instr.loadAt t x') v := by
  unfold rLda at hr
  split at hr
  · rename_i r o
    obtain ⟨a, rfl, b, o1, h1, rfl⟩ := hx
    cases hl : readN h r o n with
    | none => rw [hl] at hr; cases hr
    | some l =>
      rw [hl] at hr; cases hr
      obtain ⟨b', o', vs, h2, h3, h4, h5⟩ := readN_sound H hl
      rw [h1] at h2; cases h2
      obtain ⟨u, hu⟩ := und_of_sz hn ha
      have hd : u.isRow = true := by
        unfold aggOf at ha; rw [hu] at ha
        cases u <;> first | rfl | cases ha
      have hlen := forall₂_length h4
      refine ⟨.agg vs.toArray, run_loadAt_mid w b (o1 + o) t vs u h3 hu hd ?_, vs.toArray, rfl, by simpa using h4⟩
      unfold szOf at hn; rw [hn, ← h5, hlen]
  · cases hr

theorem rMlen_sound {x v : AV} {x' : Value} {ts : Array TypeId} {t k e : TypeId} {h : Hp} {w : World} (H : RelH P ρ h w) (h0 : ts[0]? = some t) (ht : P.underlying t = some (.map k e)) (hx : RelV ρ x x') (hr : rMlen x h = some v) (ty : TypeId) :
    Gives P ρ w (Builtin.len_ ts ty #[x']) v := by
  unfold rMlen at hr
  split at hr
  · have hx : x' = .map none := hx
    subst hx; cases hr
    exact ⟨.int .i64 (0 : Nat), by simp [Builtin.len_, h0, run_underlying ht, goInt], by simp only [natAV, forceN_eq]; rfl⟩
  · rename_i r
    obtain ⟨b, hb, rfl⟩ := hx
    split at hr
    · rename_i es ck hg
      cases hr
      obtain ⟨b', o, h1, _, ho, ms, l, h2, h3, h4, _⟩ := H.blk r _ hg
      rw [hb] at h1; cases h1
      have hlen : es.length = ms.size := by rw [← h3.length_eq, forall₂_length h4]; simp
      refine ⟨.int .i64 (ms.size : Nat), ?_, by simp only [natAV, forceN_eq]; rw [hlen]; rfl⟩
      simp [Builtin.len_, h0, run_underlying ht, goInt, getObj, Sem.run, h2]
    · cases hr
  · cases hr

theorem bytesOfCells_sound : ∀ (cs : List Value) (l : List Sc) (bs : List Nat), RelL ρ l cs → bytesOfCells l = some bs → cs = (bs.map Int.ofNat).map (Value.int .u8) ∧ ∀ b ∈ bs, b ≤ 255 := by
  intro cs
  induction cs with
  | nil => intro l bs hl hb; cases hl; cases hb; exact ⟨rfl, by simp⟩
  | cons c cs ih =>
    intro l bs hl hb
    cases hl with
    | @cons x _ l _ hx hl =>
      unfold bytesOfCells at hb
      split at hb
      · rename_i h; cases h
      · rename_i b r h
        cases h
        split at hb
        · rename_i q hq
          cases hle : Nat.ble b 255 with
          | false => rw [hle] at hb; cases hb
          | true =>
            rw [hle, cond_true] at hb; cases hb
            rw [Nat.ble_eq] at hle
            have hx : c = .int .u8 (b : Nat) := hx
            obtain ⟨h1, h2⟩ := ih _ _ hl hq
            refine ⟨by rw [hx, h1]; rfl, ?_⟩
            intro y hy
            rcases List.mem_cons.1 hy with rfl | hy
            · exact hle
            · exact h2 y hy
        · cases hb
      · cases hb

theorem foldl_push : ∀ (bs : List Nat) (s : ByteArray), (∀ b ∈ bs, b ≤ 255) → ((bs.map Int.ofNat).foldl (fun (r : ByteArray) (n : Int) => r.push (UInt8.ofNat n.toNat)) s).data.toList.map UInt8.toNat = s.data.toList.map UInt8.toNat ++ bs := by
  intro bs
  induction bs with
  | nil => intro s _; simp
  | cons b bs ih =>
    intro s h
    rw [List.map_cons, List.foldl_cons, ih _ fun y hy => h y (List.mem_cons_of_mem _ hy)]
    have hb := h b (by simp)
    have : (UInt8.ofNat (Int.ofNat b).toNat).toNat = b := by simp; omega
    simp only [ByteArray.data_push, Array.toList_push, List.map_append, List.map_cons, List.map_nil, this, List.append_assoc, List.singleton_append]

theorem rB2s_sound {x v : AV} {x' : Value} {s d e : TypeId} {h : Hp} {w : World} (H : RelH P ρ h w) (hs : P.underlying s = some (.slice e)) (hd : P.underlying d = some .string) (he : P.underlying e = some (.int .u8)) (hx : RelV ρ x x') (hr : rB2s x h = some v) :
    Gives P ρ w (convert s d x') v := by
  have hc : ∀ y w, (∀ q, y ≠ .string q) → (∀ k n, y ≠ .int k n) → (convert s d y).run P w = (Conv.bytesToString y).run P w := by
    intro y w h1 h2
    cases y <;> first | exact absurd rfl (h1 _) | exact absurd rfl (h2 _ _) | simp [convert, run_underlying hs, run_underlying hd, run_underlying he]
  unfold rB2s at hr
  split at hr
  · have hx : x' = .slice none 0 0 := hx
    subst hx; cases hr
    refine ⟨.string .empty, ?_, .empty, rfl, rfl⟩
    rw [hc _ _ (by simp) (by simp)]; rfl
  · rename_i r o n c
    obtain ⟨A, cap, rfl, h1, h2, h3⟩ := hx
    split at hr
    · rename_i l hl
      split at hr
      · rename_i bs hb
        simp only [forceL_eq] at hr; cases hr
        obtain ⟨b, o1, vs, hρ, hat, hrel, hlen⟩ := readN_sound H hl
        obtain ⟨e1, e2⟩ := bytesOfCells_sound _ _ _ hrel hb
        have hlen2 := forall₂_length hrel
        have hload : (loadCells A n).run P w = .ok ((bs.map Int.ofNat).map (Value.int .u8)).toArray w := by
          by_cases hn : n = 0
          · subst hn
            have : bs = [] := by
              have : bs.length = 0 := by
                have := congrArg List.length e1; simp at this; omega
              exact List.length_eq_zero_iff.1 this
            subst this; rfl
          · obtain ⟨⟨b', o', hρ', rfl⟩, _⟩ := h3 (by omega)
            rw [hρ] at hρ'; cases hρ'
            rw [← e1]
            have hn2 : n = vs.length := by omega
            subst hn2
            exact run_loadCells_list (P := P) w _ vs fun j v hv => by rw [Addr.add_mid]; exact hat j v hv
        refine ⟨_, by rw [hc _ _ (by simp) (by simp)]; exact run_bytesToString w A n cap (bs.map Int.ofNat) hload, _, rfl, ?_⟩
        rw [foldl_push _ _ e2]; rfl
      · cases hr
    · cases hr
  · cases hr

theorem rUsp_sound {x v : AV} {x' : Value} {s d e : TypeId} {n : Nat} {h : Hp} {w : World} (H : RelH P ρ h w) (hs : P.underlying s = some (.pointer e)) (hd : P.underlying d = some .unsafePointer) (hn : szOf P e = some n) (hn0 : n ≠ 0) (hx : RelV ρ x x') (hr : rUsp x h = some v) :
    Gives P ρ w (convert s d x') v := by
  unfold rUsp at hr
  split at hr
  · rename_i r o
    obtain ⟨a, rfl, b, o1, h1, rfl⟩ := hx
    split at hr
    · rename_i wr l hg
      obtain ⟨b', o', vs, h2, hb, hok, h3, h4, _⟩ := H.cells hg
      rw [h1] at h2; cases h2
      rw [Rope.get_eq l hok] at hr
      cases hs' : l.toList[o]? with
      | none => rw [hs'] at hr; cases hr
      | some sc =>
        rw [hs'] at hr; cases hr
        obtain ⟨y, hy, _⟩ := forall₂_get h4 o sc hs'
        have hcell := h3 o y hy
        obtain ⟨c, t, fr, hheap, hoff⟩ : ∃ c t fr, w.heap[b]? = some (.cells c t fr) ∧ o1 + o < c.size := by
          unfold World.cell? at hcell
          split at hcell
          · rename_i c t fr hh
            refine ⟨c, t, fr, hh, ?_⟩
            simp only [Option.isSome_none, Bool.false_eq_true, if_false] at hcell
            exact (Array.getElem?_eq_some_iff.1 hcell).1
          · cases hcell
        have hshape : w.shape? b = some (t, c.size) := by unfold World.shape?; rw [hheap]
        refine ⟨.pointer (some ⟨b, o1 + o, none⟩), ?_, _, rfl, b, o1, h1, rfl⟩
        have hlt : ¬ (o1 + o ≥ c.size) := by omega
        simp only [convert, Sem.run_bind, run_underlying hs, run_underlying hd, Result.andThen_ok, Conv.unsafePointer, Conv.seenAt, viewAt, cellsIn, run_shape, hshape, Option.isSome_some, if_true, Sem.run_pure, run_sizeOf' hn]
        simp [hn0, hlt]
    · cases hr
  · cases hr
end Go.AM

