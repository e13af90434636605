/- The law FnExactDrainChain of this seat holds for every input, by a small machine whose steps are proved against the model, and by plain functions printed for it. No condition. -/
import GoSem.Core.Code
import GoSem.Core.Sem
import GoSem.Core.Lib
import GoSem.Op.String
import Derived.Calls
import Derived.Laws.World
import Derived.Laws.Sem
import Derived.Laws.Cells
import Derived.Laws.Strings
import Derived.Orders
set_option linter.unusedVariables false
set_option linter.unusedSimpArgs false
section
/- The machine of plain trees: values, states, a small code, and what it asks for (awp). No memory, no program in sight. -/
namespace Go.Vm
/-- What a cell of a slice's array holds. -/
inductive D where
  | int (k : IntKind) (n : Int)
  | bool (b : Bool)
  | str (s : List UInt8)
  | sl (rows : List (List D))
  | gone
  deriving Inhabited
abbrev Rows := List (List D)
abbrev Path := List (Nat × Nat)
/-- What a slot or a box's cell holds. 'd (sl rows)': a slice that is never written again. 'ref a p lo n': a view of the row at path p of the owned array a. -/
inductive V where
  | bot
  | d (x : D)
  | nilsl
  | ref (a : Nat) (p : Path) (lo n : Nat)
  | bptr (b off : Nat)
  | aptr (a : Nat) (p : Path) (i j : Nat)
  | iptr (cs : List D)
  | nilptr
  | agg (vs : List V)
  | tup (vs : List V)
  | clos (f : Nat) (vs : List V)
  deriving Inhabited
structure St where
  tm : Nat → V
  bs : Nat → Option (List V)
  as : Nat → Option Rows
inductive Opd where
  | t (n : Nat)
  | v (x : V)
inductive MOp where
  | mov (x : Opd)
  | pick (c a b : Opd)
  | box (x : Opd)
  | build (zero : List V) (parts : List (Nat × Nat × Opd))
  | mkrow (nm esz : Nat) (parts : List Opd)
  | mkimm (nm esz : Nat) (parts : List Opd)
  | load (agg : Bool) (s : Nat) (a : Opd)
  | store (s : Nat) (a x : Opd)
  | nilck (x : Opd)
  | bin (chk : Bool) (op : BinOp) (x y : Opd)
  | beq (neg : Bool) (x y : Opd)
  | sh (left : Bool) (x y : Opd)
  | isnil (neg : Bool) (x : Opd)
  | un (op : UnOp) (x : Opd)
  | toInt (k : IntKind) (x : Opd)
  | b2s (x : Opd)
  | s2b (nm : Nat) (x : Opd)
  | mkfn (f : Nat) (caps : List Opd)
  | make (nm : Nat) (zero : List D) (len cap : Opd)
  | sub (esz : Nat) (x : Opd) (lo hi : Option Opd)
  | subs (x : Opd) (lo hi : Option Opd)
  | fld (off : Nat) (x : Opd)
  | fldv (off s : Nat) (agg : Bool) (x : Opd)
  | idx (esz : Nat) (x i : Opd)
  | idxs (x i : Opd)
  | ext (x : Opd) (i : Nat)
  | len (x : Opd)
  | lens (x : Opd)
  | app (nm : Nat) (mv : Bool) (esz bytes : Nat) (x y : Opd)
  | mm (max : Bool) (xs : List Opd)
  | call (f : Opd) (args : List Opd) (own : List Bool) (nms : List Nat)
  /-- No operation of the program: less is known from here on. -/
  | nrm
structure MOper where
  dst : Option Nat
  guard : Option (Nat × Bool)
  op : MOp
/-- A region whose order is drawn: 'take': an operation that leaves the memory alone is done first; 'fork': whichever of these comes up. -/
inductive Plan where
  | done
  | take (i : Nat) (m : MOper) (p : Plan)
  | nrm (p : Plan)
  /-- A load is done first; what it reads is held until it comes up. -/
  | hold (i t : Nat) (m : MOper) (p : Plan)
  /-- 'hs': the slots whose places this operation leaves alone. -/
  | fork (i : Nat) (m : MOper) (hs : List Nat) (p : Plan) (r : Plan)
  | nofork
inductive MC where
  | skip
  | reg (ops : List MOper)
  | draw (p : Plan)
  | seq (a b : MC)
  | cond (c : Opd) (a b : MC)
  | block (id : Nat) (c : MC)
  | loop (c : MC)
  | exit (id : Nat)
  | ret
  /-- The code, and behind it nothing is known but these slots. -/
  | keep (ts : List Nat) (c : MC)
  /-- A nil slice in a box becomes an array of its own, before the code. -/
  | adopt (b off nm : Nat) (c : MC)
  | adoptT (t nm : Nat) (c : MC)
  | adoptA (t i nm : Nat) (c : MC)
  /-- Less is known from here on. -/
  | norm (c : MC)
  /-- 'a', then 'b'; all ways out of 'a' meet in one form. -/
  | cut (a b : MC)
  /-- Two arrays change their names. -/
  | swap (x y : Nat) (c : MC)
  /-- The array 'y' that was handed in becomes the function's own, under the name 'x'. -/
  | grab (x y : Nat) (c : MC)
inductive MExit where
  | normal | exit (id : Nat) | ret

def upd {α : Type} (m : Nat → α) (k : Nat) (x : α) : Nat → α := fun j => cond (Nat.beq j k) x (m j)
def look {α : Type} (e : α) : List (Nat × α) → Nat → α
  | [], _ => e
  | (k, x) :: r, j => cond (Nat.beq j k) x (look e r j)

def St.ev (st : St) : Opd → V
  | .t n => st.tm n
  | .v x => x
def St.put (st : St) (dst : Option Nat) (v : V) : St :=
  match dst with
  | none => st
  | some k => { st with tm := upd st.tm k v }

mutual
/-- A value without its views that 'p' names. -/
def V.kill (p : V → Bool) : V → V
  | .agg vs => .agg (V.killL p vs)
  | .tup vs => .tup (V.killL p vs)
  | .clos f vs => .clos f (V.killL p vs)
  | v => if p v then .bot else v
def V.killL (p : V → Bool) : List V → List V
  | [] => []
  | v :: r => V.kill p v :: V.killL p r
end
def St.kill (st : St) (p : V → Bool) : St := { st with tm := fun k => (st.tm k).kill p, bs := fun k => (st.bs k).map (V.killL p) }
/-- Cells of one value as a value: a struct or a single cell. -/
def cellsV (agg : Bool) (s : Nat) (vs : List V) : Option V :=
  if agg then (if s ≤ vs.length then some (.agg (vs.take s)) else none) else vs.head?
def V.cells : V → List V
  | .agg vs => vs
  | v => [v]
def packD (a : Nat) (p : Path) (i : Nat) : Nat → List D → List V
  | _, [] => []
  | j, .sl r :: cs => .ref a (p ++ [(i, j)]) 0 r.length :: packD a p i (j + 1) cs
  | j, .gone :: cs => .bot :: packD a p i (j + 1) cs
  | j, x :: cs => .d x :: packD a p i (j + 1) cs
def getRow : Path → Rows → Option Rows
  | [], r => some r
  | (i, j) :: p, r =>
    match r[i]? with
    | some cs => match cs[j]? with
      | some (.sl r') => getRow p r'
      | _ => none
    | none => none
def setRow : Path → Rows → Rows → Rows
  | [], _, x => x
  | (i, j) :: p, r, x =>
    match r[i]? with
    | some cs => match cs[j]? with
      | some (.sl r') => r.set i (cs.set j (.sl (setRow p r' x)))
      | _ => r
    | none => r
/-- The row at a path is moved away: its cell holds nothing that is known. -/
def goneRow : Path → Rows → Rows
  | [], r => r
  | (i, j) :: [], r =>
    match r[i]? with
    | some cs => r.set i (cs.set j .gone)
    | none => r
  | (i, j) :: p, r =>
    match r[i]? with
    | some cs => match cs[j]? with
      | some (.sl r') => r.set i (cs.set j (.sl (goneRow p r')))
      | _ => r
    | none => r
def St.rowAt (st : St) (a : Nat) (p : Path) : Option Rows := (st.as a).bind (getRow p)
def D.flat : D → Bool
  | .sl _ => false
  | .gone => false
  | _ => true
def swp (x y k : Nat) : Nat := cond (Nat.beq k x) y (cond (Nat.beq k y) x k)
mutual
def V.sw (x y : Nat) : V → V
  | .ref a p lo n => .ref (swp x y a) p lo n
  | .aptr a p i j => .aptr (swp x y a) p i j
  | .agg vs => .agg (V.swL x y vs)
  | .tup vs => .tup (V.swL x y vs)
  | .clos f vs => .clos f (V.swL x y vs)
  | v => v
def V.swL (x y : Nat) : List V → List V
  | [] => []
  | v :: r => V.sw x y v :: V.swL x y r
end
def St.sw (st : St) (x y : Nat) : St := { tm := fun k => (st.tm k).sw x y, bs := fun k => (st.bs k).map (V.swL x y), as := fun k => st.as (swp x y k) }
mutual
/-- The boxes that a value names. -/
def V.boxes : V → List Nat
  | .bptr b _ => [b]
  | .agg vs => V.boxesL vs
  | .tup vs => V.boxesL vs
  | .clos _ vs => V.boxesL vs
  | _ => []
def V.boxesL : List V → List Nat
  | [] => []
  | v :: r => V.boxes v ++ V.boxesL r
end
end Go.Vm
end
section
/- What a small code asks for: 'awp'. -/
namespace Go.Vm
/-- Outer boxes and arrays bear the names from here on. -/
abbrev outer : Nat := 10000
def inR (k : IntKind) (n : Int) : Prop := k.min ≤ n ∧ n ≤ k.max
def awpD (st : St) : V → (D → List Nat → Prop) → Prop
  | .d x, K => x.flat = true ∧ K x []
  | .nilsl, K => K (.sl []) []
  | .ref a [] 0 n, K => match st.as a with
    | some rows => rows.length = n ∧ K (.sl rows) [a]
    | none => False
  | _, _ => False
def awpDs (st : St) : List V → (List D → List Nat → Prop) → Prop
  | [], K => K [] []
  | v :: r, K => awpD st v fun d c => awpDs st r fun ds cs => K (d :: ds) (c ++ cs)
def awpRows (st : St) (esz : Nat) : List V → (List (List D) → List Nat → Prop) → Prop
  | [], K => K [] []
  | v :: r, K => awpDs st v.cells fun ds c => ds.length = esz ∧ awpRows st esz r fun rs cs => K (ds :: rs) (c ++ cs)
def V.isA (as : List Nat) : V → Bool
  | .ref a _ _ _ => as.contains a
  | .aptr a _ _ _ => as.contains a
  | _ => false
def V.isHead (a0 : Nat) : V → Bool
  | .ref a [] _ _ => a == a0
  | .aptr a [] _ _ => a == a0
  | _ => false
def V.isB (b0 : Nat) : V → Bool
  | .bptr b _ => b == b0
  | _ => false
def jpre : Path → Path → Bool
  | [], _ => true
  | _ :: _, [] => false
  | (_, j) :: p, (_, j') :: q => j == j' && jpre p q
/-- Views at or below a path (whatever the indexes on the way). -/
def V.isBelow (a0 : Nat) (p0 : Path) : V → Bool
  | .ref a p _ _ => a == a0 && jpre p0 p
  | .aptr a p _ _ => a == a0 && jpre p0 p
  | _ => false
def V.isUnder (a0 : Nat) (p0 : Path) : V → Bool
  | .ref a p _ _ => a == a0 && jpre p0 p && p0.length < p.length
  | .aptr a p _ _ => a == a0 && jpre p0 p && p0.length < p.length
  | _ => false
def St.setA (st : St) (a : Nat) (r : Option Rows) : St := { st with as := upd st.as a r }
def St.setB (st : St) (b : Nat) (r : Option (List V)) : St := { st with bs := upd st.bs b r }
def D.isSl : D → Bool
  | .sl _ => true
  | _ => false
def V.isCell : V → Bool
  | .agg _ => false
  | .tup _ => false
  | .bot => false
  | .d .gone => false
  | _ => true
/-- The rows that an appended value brings, and the arrays that it moves. -/
def awpSrc (st : St) (mv : Bool) : V → (Rows → List Nat → Prop) → Prop
  | .nilsl, K => K [] []
  | .d (.sl rows), K => (∀ r ∈ rows, ∀ x ∈ r, D.flat x = true) ∧ K rows []
  | .d (.str s), K => K (s.map fun b => [.int .u8 b.toNat]) []
  | .ref a p lo n, K => match st.rowAt a p with
    | some rows =>
      if mv then p = [] ∧ lo = 0 ∧ rows.length = n ∧ K rows [a]
      else lo + n ≤ rows.length ∧ (∀ r ∈ (rows.drop lo).take n, ∀ x ∈ r, D.flat x = true) ∧ K ((rows.drop lo).take n) []
    | none => False
  | _, _ => False
/-- The state behind a change of the row at path p of array a. -/
def changeSt (st : St) (q : V → Bool) (cons : List Nat) (a : Nat) (p : Path) (new : Rows) : St :=
  { tm := fun k => (st.tm k).kill q
    bs := fun k => (st.bs k).map (V.killL q)
    as := upd (fun c => bif cons.contains c then none else st.as c) a (match p with
      | [] => some new
      | p => (st.as a).map fun R => setRow p R new) }
def takeSt (st : St) (q : V → Bool) (a : Nat) (p : Path) (nm : Nat) : St :=
  { tm := fun k => (st.tm k).kill q
    bs := fun k => (st.bs k).map (V.killL q)
    as := upd (upd st.as a (match p with
      | [] => none
      | p => (st.as a).map (goneRow p))) nm (st.rowAt a p) }
abbrev takeQ (a : Nat) (p : Path) (nm : Nat) : V → Bool := fun v => V.isBelow a p v || V.isA [nm] v
/-- The array that a whole view names. -/
def srcOf : V → Option Nat
  | .ref a [] 0 _ => some a
  | _ => none
/-- Rows put behind an array that is there. -/
def appTo (st : St) (a : Nat) (mv : Bool) (cons : List Nat) (esz bytes n : Nat) (rows : Rows) (K : St → Prop) : Prop :=
  match st.as a with
  | some old => old.length = n ∧ (n + rows.length) * bytes ≤ 2 ^ 45 ∧ (∀ r ∈ old, r.length = esz) ∧ (∀ r ∈ rows, r.length = esz) ∧ a ∉ cons ∧ K (changeSt st (fun v => V.isHead a v || (mv && V.isUnder a [] v)) cons a [] (old ++ rows))
  | none => False
def binV (op : BinOp) (chk : Bool) : V → V → (V → Prop) → Prop
  | .d (.int k a), .d (.int k' b), K => k = k' ∧ match op with
    | .add => if chk then inR k (a + b) ∧ K (.d (.int k (a + b))) else K (.d (.int k (k.wrap (a + b))))
    | .sub => if chk then inR k (a - b) ∧ K (.d (.int k (a - b))) else K (.d (.int k (k.wrap (a - b))))
    | .mul => if chk then inR k (a * b) ∧ K (.d (.int k (a * b))) else K (.d (.int k (k.wrap (a * b))))
    | .quo => 0 ≤ a ∧ 0 < b ∧ inR k (a / b) ∧ K (.d (.int k (a / b)))
    | .rem => 0 ≤ a ∧ 0 < b ∧ K (.d (.int k (a % b)))
    | .eql => ∀ t : Bool, t = decide (a = b) → K (.d (.bool t))
    | .neq => ∀ t : Bool, t = decide (a ≠ b) → K (.d (.bool t))
    | .lss => ∀ t : Bool, t = decide (a < b) → K (.d (.bool t))
    | .leq => ∀ t : Bool, t = decide (a ≤ b) → K (.d (.bool t))
    | .gtr => ∀ t : Bool, t = decide (b < a) → K (.d (.bool t))
    | .geq => ∀ t : Bool, t = decide (b ≤ a) → K (.d (.bool t))
    | .and => K (.d (.int k (k.wrap (BitVec.ofInt k.bits a &&& BitVec.ofInt k.bits b).toNat)))
    | .or => K (.d (.int k (k.wrap (BitVec.ofInt k.bits a ||| BitVec.ofInt k.bits b).toNat)))
    | .xor => K (.d (.int k (k.wrap (BitVec.ofInt k.bits a ^^^ BitVec.ofInt k.bits b).toNat)))
    | .andNot => K (.d (.int k (k.wrap (BitVec.ofInt k.bits a &&& ~~~BitVec.ofInt k.bits b).toNat)))
    | _ => False
  | .d (.str a), .d (.str b), K => match op with
    | .add => a.length + b.length ≤ 2 ^ 47 ∧ K (.d (.str (a ++ b)))
    | .eql => ∀ t : Bool, t = decide (a = b) → K (.d (.bool t))
    | .neq => ∀ t : Bool, t = decide (a ≠ b) → K (.d (.bool t))
    | .lss => ∀ t : Bool, t = Op.bytesLess a b → K (.d (.bool t))
    | .leq => ∀ t : Bool, t = (Op.bytesLess a b || a == b) → K (.d (.bool t))
    | .gtr => ∀ t : Bool, t = !(Op.bytesLess a b || a == b) → K (.d (.bool t))
    | .geq => ∀ t : Bool, t = (!Op.bytesLess a b) → K (.d (.bool t))
    | _ => False
  | _, _, _ => False
def asNat (v : V) (K : Nat → Prop) : Prop :=
  match v with
  | .d (.int _ i) => 0 ≤ i ∧ K i.toNat
  | _ => False
def oNat (st : St) (o : Option Opd) (dflt : Nat) (K : Nat → Prop) : Prop :=
  match o with
  | none => K dflt
  | some x => asNat (st.ev x) K

/-- What is handed to a callee: the boxes, the one owned array that goes along, and whether arrays are read. -/
structure Pass where
  bs : List Nat
  arr : Option (Nat × Path)
  rd : List Nat
def idxOf (x : Nat) : List Nat → Nat
  | [] => 0
  | y :: r => cond (Nat.beq x y) 0 (idxOf x r + 1)
mutual
def passV (st : St) (own : Bool) : V → Pass → Option (V × Pass)
  | .bptr b off, c => let c' := cond (c.bs.contains b) c { c with bs := c.bs ++ [b] }
    some (.bptr (outer + idxOf b c'.bs) off, c')
  | .ref a p lo n, c =>
    cond own (match c.arr with
      | none => some (.ref outer [] lo n, { c with arr := some (a, p) })
      | some _ => none)
    (match st.rowAt a p with
      | some rows => some (.d (.sl ((rows.drop lo).take n)), { c with rd := c.rd ++ [a] })
      | none => none)
  | .aptr .., _ => none
  | .agg vs, c => match passL st own vs c with
    | some (vs', c') => some (.agg vs', c')
    | none => none
  | .tup _, _ => none
  | .clos f vs, c => match passL st own vs c with
    | some (vs', c') => some (.clos f vs', c')
    | none => none
  | .nilsl, c => some (cond own .nilsl (.d (.sl [])), c)
  | v, c => some (v, c)
def passL (st : St) (own : Bool) : List V → Pass → Option (List V × Pass)
  | [], c => some ([], c)
  | v :: r, c => match passV st own v c with
    | none => none
    | some (v', c') => match passL st own r c' with
      | none => none
      | some (r', c'') => some (v' :: r', c'')
end
def passArgs (st : St) : List Bool → List V → Pass → Option (List V × Pass)
  | _, [], c => some ([], c)
  | os, v :: r, c => match passV st (os.headD false) v c with
    | none => none
    | some (v', c') => match passArgs st os.tail r c' with
      | none => none
      | some (r', c'') => some (v' :: r', c'')
mutual
/-- A callee's value in the caller's names. -/
def backV (c : Pass) (nms : List Nat) : V → V
  | .bptr b off => match c.bs[b - outer]? with
    | some b' => cond (Nat.ble outer b) (.bptr b' off) .bot
    | none => .bot
  | .ref a p lo n =>
    cond (Nat.ble outer a) (match c.arr with
      | some (a', p') => cond (Nat.beq a outer) (.ref a' (p' ++ p) lo n) .bot
      | none => .bot)
    (match nms[a]? with
      | some a' => .ref a' p lo n
      | none => .bot)
  | .aptr .. => .bot
  | .agg vs => .agg (backL c nms vs)
  | .tup vs => .tup (backL c nms vs)
  | .clos f vs => .clos f (backL c nms vs)
  | v => v
def backL (c : Pass) (nms : List Nat) : List V → List V
  | [] => []
  | v :: r => backV c nms v :: backL c nms r
end
mutual
def V.noIsl : V → Bool
  | .d (.sl _) => false
  | .iptr _ => false
  | .agg vs => V.noIslL vs
  | .tup vs => V.noIslL vs
  | .clos _ vs => V.noIslL vs
  | _ => true
def V.noIslL : List V → Bool
  | [] => true
  | v :: r => V.noIsl v && V.noIslL r
end
mutual
/-- A value that names no owned array and no box. -/
def V.noRef : V → Bool
  | .ref .. => false
  | .aptr .. => false
  | .bptr .. => false
  | .agg vs => V.noRefL vs
  | .tup vs => V.noRefL vs
  | .clos _ vs => V.noRefL vs
  | _ => true
def V.noRefL : List V → Bool
  | [] => true
  | v :: r => V.noRef v && V.noRefL r
end
def Pass.ok (c : Pass) : Bool :=
  match c.arr with
  | none => true
  | some (a, _) => !c.rd.contains a
def getBs (st : St) : List Nat → Option (List (List V))
  | [] => some []
  | b :: r => match st.bs b, getBs st r with
    | some x, some y => some (x :: y)
    | _, _ => none
def getA (st : St) : Option (Nat × Path) → Option (List Rows)
  | none => some []
  | some (a, p) => match st.rowAt a p with
    | some x => some [x]
    | none => none
/-- Many names at once; the first stands. -/
def updL {α : Type} (m : Nat → α) : List Nat → List α → Nat → α
  | k :: ks, x :: xs => upd (updL m ks xs) k x
  | _, _ => m
abbrev Post := V → List (List V) → List (Option Rows) → List Rows → Prop
abbrev Handler := Nat → List V → List (List V) → List Rows → Post → Prop
def callQ (c : Pass) (nms : List Nat) (oa' : List (Option Rows)) : V → Bool := fun v => V.isA nms v || match c.arr with
  | none => false
  | some (a, p) => match oa' with
    | [some _] => V.isUnder a p v
    | _ => V.isBelow a p v
def callAs (st : St) (c : Pass) (oa' : List (Option Rows)) : Nat → Option Rows :=
  match c.arr with
  | none => st.as
  | some (a, p) => upd st.as a (match p, oa' with
    | [], [some r] => some r
    | [], _ => none
    | p, [some r] => (st.as a).map fun R => setRow p R r
    | p, _ => (st.as a).map (goneRow p))
/-- The caller's state behind a call. -/
def callSt (st : St) (c : Pass) (nms : List Nat) (ob' : List (List V)) (oa' : List (Option Rows)) (na : List Rows) : St :=
  { tm := fun k => (st.tm k).kill (callQ c nms oa')
    bs := updL (fun k => (st.bs k).map (V.killL (callQ c nms oa'))) c.bs (ob'.map fun vs => some (backL c nms vs))
    as := updL (callAs st c oa') nms (na.map some) }
def awpCall (H : Handler) (f : V) (args : List V) (own : List Bool) (nms : List Nat) (st : St) (K : V → St → Prop) : Prop :=
  match f with
  | .clos f caps =>
    match passArgs st own (args ++ caps) ⟨[], none, []⟩ with
    | none => False
    | some (args', c) =>
      c.ok = true ∧ nms.Nodup ∧ nms.length < outer ∧ (∀ k ∈ nms, k < outer) ∧ (match c.arr with | some (a, _) => !nms.contains a | none => true) = true ∧
      match getBs st c.bs, getA st c.arr with
      | some ob, some oa => (ob.all V.noRefL = true) ∧ H f args' ob oa fun r ob' oa' na =>
          ob'.length = ob.length ∧ oa'.length = oa.length ∧ na.length = nms.length ∧ (ob'.all V.noRefL = true) ∧
          (c.rd = [] ∨ (V.noIsl r = true ∧ ob'.all V.noIslL = true)) ∧
          (match oa, oa' with | [x], [some y] => y.length = x.length | _, _ => True) ∧
          K (backV c nms r) (callSt st c nms ob' oa' na)
      | _, _ => False
  | _ => False
def splice (cs : List V) (off : Nat) (vs : List V) : List V := cs.take off ++ vs ++ cs.drop (off + vs.length)
def awpBuild (st : St) : List (Nat × Nat × Opd) → List V → (List V → Prop) → Prop
  | [], cs, K => K cs
  | (off, s, y) :: r, cs, K => (st.ev y).cells.length = s ∧ (st.ev y).cells.all V.isCell = true ∧ off + s ≤ cs.length ∧ awpBuild st r (splice cs off (st.ev y).cells) K
mutual
/-- The first value says less than the second. -/
def VLe : V → V → Prop
  | .bot, _ => True
  | .agg vs, u => ∃ us, u = .agg us ∧ VLeL vs us
  | .tup vs, u => ∃ us, u = .tup us ∧ VLeL vs us
  | .d (.sl []), u => u = .d (.sl []) ∨ u = .nilsl
  | v, u => u = v
def VLeL : List V → List V → Prop
  | [], [] => True
  | v :: vs, u :: us => VLe v u ∧ VLeL vs us
  | _, _ => False
end
/-- The first knows less than the second. -/
structure Le (a b : St) : Prop where
  tm : ∀ k, VLe (a.tm k) (b.tm k)
  bs : ∀ k x, a.bs k = some x → ∃ y, b.bs k = some y ∧ VLeL x y
  as : ∀ k x, a.as k = some x → b.as k = some x
def awpOp (H : Handler) (dst : Option Nat) (o : MOp) (st : St) (K : St → Prop) : Prop :=
  match o with
  | .mov x => K (st.put dst (st.ev x))
  | .pick c a b => match st.ev c with
    | .d (.bool t) => (t = true → K (st.put dst (st.ev a))) ∧ (t = false → K (st.put dst (st.ev b)))
    | _ => False
  | .box x => match dst with
    | some b => (st.ev x).cells.all V.isCell = true ∧ K (((st.kill (V.isB b)).setB b (some (V.killL (V.isB b) (st.ev x).cells))).put dst (.bptr b 0))
    | none => False
  | .build zero parts => awpBuild st parts zero fun cs => K (st.put dst (.agg cs))
  | .mkrow nm esz parts => awpRows st esz (parts.map st.ev) fun rows cs =>
      cs.Nodup ∧ nm ∉ cs ∧ K ((changeSt st (V.isA [nm]) cs nm [] rows).put dst (.ref nm [] 0 rows.length))
  | .mkimm nm esz parts => awpRows st esz (parts.map st.ev) fun rows cs => cs = [] ∧
      K (({ tm := fun k => (st.tm k).kill (V.isA [nm]), bs := fun k => (st.bs k).map (V.killL (V.isA [nm])), as := upd st.as nm none } : St).put dst (.d (.sl rows)))
  | .load agg s a => match st.ev a with
    | .bptr b off => match st.bs b with
      | some cs => match cellsV agg s (cs.drop off) with
        | some v => K (st.put dst v)
        | none => False
      | none => False
    | .iptr cs => match cellsV agg s (cs.map .d) with
      | some v => K (st.put dst v)
      | none => False
    | .aptr a p i j => ∃ rows cs, st.rowAt a p = some rows ∧ rows[i]? = some cs ∧ match cellsV agg s ((packD a p i 0 cs).drop j) with
      | some v => K (st.put dst v)
      | none => False
    | _ => False
  | .store s a x => match st.ev a with
    | .bptr b off => match st.bs b with
      | some cs => (st.ev x).cells.length = s ∧ (st.ev x).cells.all V.isCell = true ∧ off + (st.ev x).cells.length ≤ cs.length ∧ K (st.setB b (some (splice cs off (st.ev x).cells)))
      | none => False
    | .aptr a p i j => ∃ rows cs, st.rowAt a p = some rows ∧ rows[i]? = some cs ∧ awpDs st (st.ev x).cells fun ds cons =>
            ds.length = s ∧ cons.Nodup ∧ j + ds.length ≤ cs.length ∧ a ∉ cons ∧
            K (changeSt st (fun v => (ds.any D.isSl || ((cs.drop j).take ds.length).any D.isSl) && V.isUnder a p v) cons a p (rows.set i (cs.take j ++ ds ++ cs.drop (j + ds.length))))
    | _ => False
  | .nilck x => match st.ev x with
    | .bptr .. | .aptr .. | .iptr .. | .clos .. => K (st.put dst (st.ev x))
    | _ => False
  | .bin chk op x y => binV op chk (st.ev x) (st.ev y) fun v => K (st.put dst v)
  | .beq neg x y => match st.ev x, st.ev y with
    | .d (.bool a), .d (.bool b) => ∀ t : Bool, t = ((a == b) != neg) → K (st.put dst (.d (.bool t)))
    | _, _ => False
  | .sh left x y => match st.ev x, st.ev y with
    | .d (.int k a), .d (.int _ b) => 0 ≤ b ∧ K (st.put dst (.d (.int k (if left then k.wrap (a * 2 ^ min b.toNat k.bits) else a.fdiv (2 ^ min b.toNat k.bits)))))
    | _, _ => False
  | .isnil neg x => match st.ev x with
    | .nilsl => K (st.put dst (.d (.bool (!neg))))
    | .ref _ _ _ n => ∀ t : Bool, (t = true → n = 0) → K (st.put dst (.d (.bool (t != neg))))
    | .d (.sl rows) => ∀ t : Bool, (t = true → rows = []) → K (st.put dst (.d (.bool (t != neg))))
    | _ => False
  | .un op x => match op, st.ev x with
    | .not, .d (.bool t) => K (st.put dst (.d (.bool !t)))
    | .neg, .d (.int k n) => inR k (0 - n) ∧ K (st.put dst (.d (.int k (0 - n))))
    | _, _ => False
  | .toInt k x => match st.ev x with
    | .d (.int _ n) => K (st.put dst (.d (.int k (k.wrap n))))
    | _ => False
  | .b2s x => match st.ev x with
    | .nilsl => K (st.put dst (.d (.str [])))
    | .d (.sl rows) => ∃ s : List UInt8, rows = s.map (fun b => [.int .u8 b.toNat]) ∧ K (st.put dst (.d (.str s)))
    | .ref a p lo n => match st.rowAt a p with
      | some rows => ∃ s : List UInt8, (rows.drop lo).take n = s.map (fun b => [.int .u8 b.toNat]) ∧ s.length = n ∧ K (st.put dst (.d (.str s)))
      | none => False
    | _ => False
  | .s2b nm x => match st.ev x with
    | .d (.str s) => (s = [] → K (st.put dst (.d (.sl [])))) ∧ (s ≠ [] → K ((changeSt st (V.isA [nm]) [] nm [] (s.map fun b => [.int .u8 b.toNat])).put dst (.ref nm [] 0 s.length)))
    | _ => False
  | .mkfn f caps => K (st.put dst (.clos f (caps.map st.ev)))
  | .make nm zero len cap => asNat (st.ev len) fun n => asNat (st.ev cap) fun m => m = n ∧ n ≤ 2 ^ 32 ∧
      K ((changeSt st (V.isA [nm]) [] nm [] (List.replicate n zero)).put dst (.ref nm [] 0 n))
  | .subs x lo hi => match st.ev x with
    | .d (.str s) => oNat st lo 0 fun l => oNat st hi s.length fun h => l ≤ h ∧ h ≤ s.length ∧ K (st.put dst (.d (.str ((s.take h).drop l))))
    | _ => False
  | .sub esz x lo hi => match st.ev x with
    | .d (.sl rows) => oNat st lo 0 fun l => oNat st hi rows.length fun h => l ≤ h ∧ h ≤ rows.length ∧ (∀ r ∈ rows, r.length = esz) ∧ K (st.put dst (.d (.sl ((rows.take h).drop l))))
    | .ref a p b n => oNat st lo 0 fun l => oNat st hi n fun h => l ≤ h ∧ h ≤ n ∧ (∀ rows, st.rowAt a p = some rows → ∀ r ∈ rows, r.length = esz) ∧ K (st.put dst (.ref a p (l + b) (h - l)))
    | .nilsl => oNat st lo 0 fun l => oNat st hi 0 fun h => l = 0 ∧ h = 0 ∧ K (st.put dst .nilsl)
    | _ => False
  | .fld off x => match st.ev x with
    | .bptr b o => K (st.put dst (.bptr b (o + off)))
    | .aptr a p i j => K (st.put dst (.aptr a p i (j + off)))
    | .iptr cs => K (st.put dst (.iptr (cs.drop off)))
    | _ => False
  | .fldv off s agg x => match st.ev x with
    | .agg vs => match cellsV agg s (vs.drop off) with
      | some v => K (st.put dst v)
      | none => False
    | _ => False
  | .idx esz x i => match st.ev x with
    | .d (.sl rows) => asNat (st.ev i) fun k => ∃ cs, rows[k]? = some cs ∧ cs.length = esz ∧ K (st.put dst (.iptr cs))
    | .ref a p lo n => asNat (st.ev i) fun k => ∃ rows cs, st.rowAt a p = some rows ∧ k < n ∧ rows[k + lo]? = some cs ∧ cs.length = esz ∧ K (st.put dst (.aptr a p (k + lo) 0))
    | _ => False
  | .idxs x i => match st.ev x with
    | .d (.str s) => asNat (st.ev i) fun k => ∃ h : k < s.length, K (st.put dst (.d (.int .u8 s[k].toNat)))
    | _ => False
  | .ext x i => match st.ev x with
    | .tup vs => match vs[i]? with
      | some v => K (st.put dst v)
      | none => False
    | _ => False
  | .lens x => match st.ev x with
    | .d (.str s) => K (st.put dst (.d (.int .i64 s.length)))
    | _ => False
  | .len x => match st.ev x with
    | .d (.sl rows) => K (st.put dst (.d (.int .i64 rows.length)))
    | .ref _ _ _ n => K (st.put dst (.d (.int .i64 n)))
    | .nilsl => K (st.put dst (.d (.int .i64 0)))
    | _ => False
  | .app nm mv esz bytes x y => awpSrc st mv (st.ev y) fun rows cons =>
      match st.ev x with
      | .nilsl => nm ∉ cons ∧ appTo (changeSt st (V.isA [nm]) [] nm [] []) nm mv cons esz bytes 0 rows fun st' => K (st'.put dst (.ref nm [] 0 rows.length))
      | .ref a p lo n => lo = 0 ∧
        if p = [] ∧ a < outer then appTo st a mv cons esz bytes n rows fun st' => K (st'.put dst (.ref a [] 0 (n + rows.length)))
        else nm ≠ a ∧ nm ∉ cons ∧ a ∉ cons ∧ (st.rowAt a p).isSome = true ∧ appTo (takeSt st (takeQ a p nm) a p nm) nm mv cons esz bytes n rows fun st' => K (st'.put dst (.ref nm [] 0 (n + rows.length)))
      | _ => False
  | .mm mx xs => match xs.map st.ev with
    | [.d (.int k a), .d (.int k' b)] => k = k' ∧ K (st.put dst (.d (.int k (if mx then max a b else min a b))))
    | [.d (.int k a), .d (.int k' b), .d (.int k'' c)] => k = k' ∧ k = k'' ∧ K (st.put dst (.d (.int k (if mx then max (max a b) c else min (min a b) c))))
    | _ => False
  | .call f args own nms => awpCall H (st.ev f) (args.map st.ev) own nms st fun v st' => K (st'.put dst v)
  | .nrm => ∃ st', Le st' st ∧ K st'
def awpOper (H : Handler) (o : MOper) (st : St) (K : St → Prop) : Prop :=
  match o.guard with
  | none => awpOp H o.dst o.op st K
  | some (t, want) => match st.tm t with
    | .d (.bool b) => (b = want → awpOp H o.dst o.op st K) ∧ (b = (!want) → K (st.put o.dst (.tup [])))
    | .tup [] => K (st.put o.dst (.tup []))
    | _ => False
def awpOps (H : Handler) : List MOper → St → (St → Prop) → Prop
  | [], st, K => K st
  | o :: r, st, K => awpOper H o st fun st' => awpOps H r st' K
/-- The operation leaves alone what lies where 'v' points to. -/
def apartV (st : St) (m : MOp) : V → Prop
  | .bptr k _ => (st.bs k).isSome = true ∧ match m with
    | .store _ y _ => match st.ev y with
      | .bptr k' _ => Nat.beq k k' = false ∧ (st.bs k').isSome = true
      | .aptr a p _ _ => (st.rowAt a p).isSome = true
      | _ => True
    | .app _ _ _ _ x _ => match st.ev x with
      | .ref a p _ _ => (st.rowAt a p).isSome = true
      | _ => True
    | .call f args _ _ => match st.ev f with
      | .clos _ caps => (V.boxesL (args.map st.ev ++ caps)).contains k = false
      | _ => True
    | _ => True
  | .iptr _ => match m with
    | .store _ y _ => match st.ev y with
      | .bptr k' _ => (st.bs k').isSome = true
      | .aptr a p _ _ => (st.rowAt a p).isSome = true
      | _ => True
    | .app _ _ _ _ x _ => match st.ev x with
      | .ref a p _ _ => (st.rowAt a p).isSome = true
      | _ => True
    | _ => True
  | .aptr a p _ _ => (st.rowAt a p).isSome = true ∧ match m with
    | .store _ y _ => match st.ev y with
      | .bptr k' _ => (st.bs k').isSome = true
      | .aptr a' p' _ _ => Nat.beq a a' = false ∧ (st.rowAt a' p').isSome = true
      | _ => True
    | .app _ _ _ _ x _ => match st.ev x with
      | .ref a' p' _ _ => Nat.beq a a' = false ∧ (st.rowAt a' p').isSome = true
      | _ => True
    | .call _ _ own _ => own.all (fun b => !b) = true
    | _ => True
  | _ => False
def apartAll (st : St) (m : MOp) : List Nat → Prop
  | [] => True
  | t :: r => apartV st m (st.tm t) ∧ apartAll st m r
def awpPlan (H : Handler) : Plan → St → (St → Prop) → Prop
  | .done, st, K => K st
  | .nofork, _, _ => True
  | .take _ m p, st, K => awpOper H m st fun st' => awpPlan H p st' K
  | .nrm p, st, K => ∃ st', Le st' st ∧ awpPlan H p st' K
  | .hold _ _ m p, st, K => awpOper H m st fun st' => awpPlan H p st' K
  | .fork _ m hs p r, st, K => (apartAll st m.op hs ∧ awpOper H m st (fun st' => awpPlan H p st' K)) ∧ awpPlan H r st K
def awp (H : Handler) : MC → (MExit → St → Prop) → St → Prop
  | .skip, Q, st => Q .normal st
  | .reg ops, Q, st => awpOps H ops st (Q .normal)
  | .draw p, Q, st => awpPlan H p st (Q .normal)
  | .seq a b, Q, st => awp H a (fun e st' => match e with
    | .normal => awp H b Q st'
    | e => Q e st') st
  | .cond c a b, Q, st => match st.ev c with
    | .d (.bool t) => (t = true → awp H a Q st) ∧ (t = false → awp H b Q st)
    | _ => False
  | .block id c, Q, st => awp H c (fun e st' => match e with
    | .exit id' => if id' = id then Q .normal st' else Q (.exit id') st'
    | e => Q e st') st
  | .loop c, Q, st => ∃ (G : Type) (F : G → St) (m : G → Nat) (g0 : G), Le (F g0) st ∧ ∀ g, awp H c (fun e st' => match e with
    | .normal => ∃ g', Le (F g') st' ∧ m g' < m g
    | e => Q e st') (F g)
  | .exit id, Q, st => Q (.exit id) st
  | .ret, Q, st => Q .ret st
  | .keep ts c, Q, st => awp H c (fun e st' => match e with
    | .normal => Q .normal { st' with tm := look .bot (ts.map fun t => (t, st'.tm t)) }
    | e => Q e st') st
  | .adopt b off nm c, Q, st => nm < outer ∧ match st.bs b with
    | some cs => match cs[off]? with
      | some .nilsl => awp H c Q ((changeSt st (V.isA [nm]) [] nm [] []).setB b (some (splice (V.killL (V.isA [nm]) cs) off [.ref nm [] 0 0])))
      | _ => awp H c Q st
    | none => False
  | .adoptT t nm c, Q, st => nm < outer ∧ match st.tm t with
    | .nilsl => awp H c Q ((changeSt st (V.isA [nm]) [] nm [] []).put (some t) (.ref nm [] 0 0))
    | _ => awp H c Q st
  | .adoptA t i nm c, Q, st => nm < outer ∧ match st.tm t with
    | .agg vs => match vs[i]? with
      | some .nilsl => awp H c Q ((changeSt st (V.isA [nm]) [] nm [] []).put (some t) (.agg ((V.killL (V.isA [nm]) vs).set i (.ref nm [] 0 0))))
      | _ => awp H c Q st
    | _ => awp H c Q st
  | .norm c, Q, st => ∃ st', Le st' st ∧ awp H c Q st'
  | .cut a b, Q, st => ∃ (G : Type) (F : G → St), awp H a (fun e st' => match e with
    | .normal => ∃ g, Le (F g) st'
    | e => Q e st') st ∧ ∀ g, awp H b Q (F g)
  | .swap x y c, Q, st => (Nat.blt x outer && Nat.blt y outer) = true ∧ awp H c Q (st.sw x y)
  | .grab x y c, Q, st => Nat.blt x outer = true ∧ (st.as x).isNone = true ∧ awp H c Q (st.sw x y)
end Go.Vm
end
section
/- How a state of trees stands to the model's memory. -/
namespace Go.Vm
structure Seg where
  b : Nat
  o : Nat
  sz : Nat
  top : Nat
def bytesVal (s : List UInt8) : Value := .string ⟨s.toArray⟩
mutual
def Imm (w : World) (I : Nat → Prop) : Value → D → Prop
  | c, .int k n => c = .int k n
  | c, .bool b => c = .bool b
  | c, .str s => c = bytesVal s
  | _, .gone => True
  | c, .sl rows => ∃ ad cap, c = .slice ad rows.length cap ∧ rows.length ≤ cap ∧
      (rows.length = 0 ∨ ∃ b o sz, ad = some ⟨b, o, none⟩ ∧ I b ∧ ImmRows w I b o sz rows)
def ImmRows (w : World) (I : Nat → Prop) (b o sz : Nat) : List (List D) → Prop
  | [] => True
  | cs :: r => cs.length = sz ∧ ImmCells w I b o cs ∧ ImmRows w I b (o + sz) sz r
def ImmCells (w : World) (I : Nat → Prop) (b o : Nat) : List D → Prop
  | [] => True
  | x :: r => (∃ c, w.cell? ⟨b, o, none⟩ = some c ∧ Imm w I c x) ∧ ImmCells w I b (o + 1) r
end
/-- Where things lie: boxes, rows; how long the rows are that are known. -/
structure Env where
  w : World
  I : Nat → Prop
  bl : Nat → Nat
  al : Nat → Path → Option Seg
  row : Nat → Path → Option Nat
def HeadOK (al : Nat → Path → Option Seg) (a : Nat) (p : Path) (len lo n : Nat) (c : Value) : Prop :=
  ∃ ad cap, c = .slice ad n cap ∧ n ≤ cap ∧ (len = 0 → cap = 0) ∧ (cap = 0 ∨ ∃ s, al a p = some s ∧ ad = some ⟨s.b, s.o + lo * s.sz, none⟩ ∧ s.o + (lo + cap) * s.sz ≤ s.top)
mutual
def VRel (E : Env) : Value → V → Prop
  | _, .bot => True
  | c, .d x => Imm E.w E.I c x
  | c, .nilsl => c = .slice none 0 0
  | c, .ref a p lo n => (∃ ad cap, c = .slice ad n cap ∧ n ≤ cap ∧ (ad = none → n = 0)) ∧ ∀ len, E.row a p = some len → lo + n ≤ len ∧ HeadOK E.al a p len lo n c
  | c, .bptr b off => c = .pointer (some ⟨E.bl b, off, none⟩)
  | c, .aptr a p i j => ∃ b o, c = .pointer (some ⟨b, o, none⟩) ∧ ∀ len, E.row a p = some len → ∃ s, E.al a p = some s ∧ b = s.b ∧ o = s.o + i * s.sz + j
  | c, .iptr cs => ∃ b o, c = .pointer (some ⟨b, o, none⟩) ∧ E.I b ∧ ImmCells E.w E.I b o cs
  | c, .nilptr => c = .pointer none ∨ c = .nilFunc ∨ c = .nilIface
  | c, .agg vs => ∃ cs, c = .agg cs ∧ VRelL E cs.toList vs
  | c, .tup vs => ∃ cs, c = .tuple cs ∧ VRelL E cs.toList vs
  | c, .clos f vs => ∃ cs, c = .func (.func f) #[] cs ∧ VRelL E cs.toList vs
def VRelL (E : Env) : List Value → List V → Prop
  | [], [] => True
  | c :: cs, v :: vs => VRel E c v ∧ VRelL E cs vs
  | _, _ => False
end
/-- Immutable content reads the same where its blocks are the same. -/
structure Same (w w' : World) (I I' : Nat → Prop) : Prop where
  blk : ∀ b, I b → w'.heap[b]? = w.heap[b]?
  sub : ∀ b, I b → I' b
theorem Same.cell {w w' : World} {I I' : Nat → Prop} (h : Same w w' I I') {b o : Nat} (hb : I b) : w'.cell? ⟨b, o, none⟩ = w.cell? ⟨b, o, none⟩ := by
  unfold World.cell?; simp only [h.blk b hb]
mutual
theorem Imm.same {w w' : World} {I I' : Nat → Prop} (h : Same w w' I I') : ∀ (x : D) (c : Value), Imm w I c x → Imm w' I' c x
  | .int _ _, _, e => by simpa only [Imm] using e
  | .bool _, _, e => by simpa only [Imm] using e
  | .str _, _, e => by simpa only [Imm] using e
  | .gone, _, _ => by simp only [Imm]
  | .sl rows, c, e => by
    simp only [Imm] at e ⊢
    obtain ⟨ad, cap, h1, h2, h3⟩ := e
    refine ⟨ad, cap, h1, h2, h3.imp id fun ⟨b, o, sz, e1, e2, e3⟩ => ⟨b, o, sz, e1, h.sub b e2, ImmRows.same h e2 rows o e3⟩⟩
theorem ImmRows.same {w w' : World} {I I' : Nat → Prop} (h : Same w w' I I') {b sz : Nat} (hb : I b) : ∀ (r : List (List D)) (o : Nat), ImmRows w I b o sz r → ImmRows w' I' b o sz r
  | [], _, _ => trivial
  | cs :: r, o, e => by
    simp only [ImmRows] at e ⊢
    exact ⟨e.1, ImmCells.same h hb cs o e.2.1, ImmRows.same h hb r _ e.2.2⟩
theorem ImmCells.same {w w' : World} {I I' : Nat → Prop} (h : Same w w' I I') {b : Nat} (hb : I b) : ∀ (r : List D) (o : Nat), ImmCells w I b o r → ImmCells w' I' b o r
  | [], _, _ => trivial
  | x :: r, o, e => by
    simp only [ImmCells] at e ⊢
    obtain ⟨⟨c, h1, h2⟩, h3⟩ := e
    exact ⟨⟨c, by rw [h.cell hb]; exact h1, Imm.same h x c h2⟩, ImmCells.same h hb r _ h3⟩
end
/-- From one place of things to another, but for what 'q' names. -/
structure Move (q : V → Bool) (E E' : Env) : Prop where
  same : Same E.w E'.w E.I E'.I
  bl : ∀ b off, q (.bptr b off) = false → E'.bl b = E.bl b
  ref : ∀ a p lo n, q (.ref a p lo n) = false → ∀ len', E'.row a p = some len' → ∃ len, E.row a p = some len ∧ len ≤ len' ∧ E'.al a p = E.al a p
  aptr : ∀ a p i j, q (.aptr a p i j) = false → ∀ len', E'.row a p = some len' → ∃ len, E.row a p = some len ∧ len ≤ len' ∧ E'.al a p = E.al a p
mutual
theorem VRel.move {q : V → Bool} {E E' : Env} (h : Move q E E') : ∀ (v : V) (c : Value), VRel E c v → VRel E' c (v.kill q)
  | .bot, c, e => by simp only [V.kill]; split <;> simp only [VRel]
  | .d x, c, e => by
    simp only [V.kill]; split
    · simp only [VRel]
    · simp only [VRel] at e ⊢; exact Imm.same h.same x c e
  | .nilsl, c, e => by
    simp only [V.kill]; split
    · simp only [VRel]
    · simp only [VRel] at e ⊢; exact e
  | .nilptr, c, e => by
    simp only [V.kill]; split
    · simp only [VRel]
    · simp only [VRel] at e ⊢; exact e
  | .ref a p lo n, c, e => by
    simp only [V.kill]; split
    · simp only [VRel]
    · rename_i hq
      simp only [VRel] at e ⊢
      refine ⟨e.1, fun len' hl' => ?_⟩
      obtain ⟨len, hl, hle, hal⟩ := h.ref a p lo n (by simpa using hq) len' hl'
      obtain ⟨h1, ad, cap, h2, h3, h5, h4⟩ := e.2 len hl
      exact ⟨by omega, ad, cap, h2, h3, fun h0 => h5 (by omega), by rw [hal]; exact h4⟩
  | .aptr a p i j, c, e => by
    simp only [V.kill]; split
    · simp only [VRel]
    · rename_i hq
      simp only [VRel] at e ⊢
      obtain ⟨b, o, h1, h2⟩ := e
      refine ⟨b, o, h1, fun len' hl' => ?_⟩
      obtain ⟨len, hl, hle, hal⟩ := h.aptr a p i j (by simpa using hq) len' hl'
      rw [hal]; exact h2 len hl
  | .bptr b off, c, e => by
    simp only [V.kill]; split
    · simp only [VRel]
    · rename_i hq
      simp only [VRel] at e ⊢
      rw [h.bl b off (by simpa using hq)]; exact e
  | .iptr cs, c, e => by
    simp only [V.kill]; split
    · simp only [VRel]
    · simp only [VRel] at e ⊢
      obtain ⟨b, o, h1, h2, h3⟩ := e
      exact ⟨b, o, h1, h.same.sub b h2, ImmCells.same h.same h2 cs o h3⟩
  | .agg vs, c, e => by
    simp only [V.kill, VRel] at e ⊢
    obtain ⟨cs, h1, h2⟩ := e
    exact ⟨cs, h1, VRelL.move h vs _ h2⟩
  | .tup vs, c, e => by
    simp only [V.kill, VRel] at e ⊢
    obtain ⟨cs, h1, h2⟩ := e
    exact ⟨cs, h1, VRelL.move h vs _ h2⟩
  | .clos f vs, c, e => by
    simp only [V.kill, VRel] at e ⊢
    obtain ⟨cs, h1, h2⟩ := e
    exact ⟨cs, h1, VRelL.move h vs _ h2⟩
theorem VRelL.move {q : V → Bool} {E E' : Env} (h : Move q E E') : ∀ (vs : List V) (cs : List Value), VRelL E cs vs → VRelL E' cs (V.killL q vs)
  | [], [], _ => by simp only [V.killL, VRelL]
  | [], _ :: _, e => by simp only [VRelL] at e
  | _ :: _, [], e => by simp only [VRelL] at e
  | v :: vs, c :: cs, e => by
    simp only [V.killL, VRelL] at e ⊢
    exact ⟨VRel.move h v c e.1, VRelL.move h vs cs e.2⟩
end
mutual
theorem V.kill_false : ∀ v : V, v.kill (fun _ => false) = v
  | .bot => rfl
  | .d _ => rfl
  | .nilsl => rfl
  | .nilptr => rfl
  | .ref .. => rfl
  | .aptr .. => rfl
  | .bptr .. => rfl
  | .iptr _ => rfl
  | .agg vs => by simp only [V.kill, V.killL_false vs]
  | .tup vs => by simp only [V.kill, V.killL_false vs]
  | .clos f vs => by simp only [V.kill, V.killL_false vs]
theorem V.killL_false : ∀ vs : List V, V.killL (fun _ => false) vs = vs
  | [] => rfl
  | v :: vs => by simp only [V.killL, V.kill_false v, V.killL_false vs]
end
theorem VRel.keep {E E' : Env} (h : Move (fun _ => false) E E') {v : V} {c : Value} (e : VRel E c v) : VRel E' c v := by
  have := VRel.move h v c e; rwa [V.kill_false] at this
theorem VRelL.keep {E E' : Env} (h : Move (fun _ => false) E E') {vs : List V} {cs : List Value} (e : VRelL E cs vs) : VRelL E' cs vs := by
  have := VRelL.move h vs cs e; rwa [V.killL_false] at this
theorem VRelL.length {E : Env} : ∀ {cs : List Value} {vs : List V}, VRelL E cs vs → cs.length = vs.length
  | [], [], _ => rfl
  | [], _ :: _, e => by simp only [VRelL] at e
  | _ :: _, [], e => by simp only [VRelL] at e
  | c :: cs, v :: vs, e => by simp only [VRelL] at e; simp [VRelL.length e.2]
theorem VRelL.get {E : Env} : ∀ {cs : List Value} {vs : List V}, VRelL E cs vs → ∀ (i : Nat) (v : V), vs[i]? = some v → ∃ c, cs[i]? = some c ∧ VRel E c v
  | [], [], _, i, v, h => by simp at h
  | [], _ :: _, e, _, _, _ => by simp only [VRelL] at e
  | _ :: _, [], e, _, _, _ => by simp only [VRelL] at e
  | c :: cs, v :: vs, e, 0, u, h => by
    simp only [VRelL] at e; simp at h; subst h; exact ⟨c, rfl, e.1⟩
  | c :: cs, v :: vs, e, i + 1, u, h => by
    simp only [VRelL] at e; simp at h ⊢; exact VRelL.get e.2 i u h
theorem VRelL.drop {E : Env} : ∀ {cs : List Value} {vs : List V} (n : Nat), VRelL E cs vs → VRelL E (cs.drop n) (vs.drop n)
  | _, _, 0, e => by simpa using e
  | [], [], _ + 1, _ => by simp [VRelL]
  | [], _ :: _, _ + 1, e => by simp only [VRelL] at e
  | _ :: _, [], _ + 1, e => by simp only [VRelL] at e
  | c :: cs, v :: vs, n + 1, e => by simp only [VRelL] at e; simpa using VRelL.drop n e.2
theorem VRelL.take {E : Env} : ∀ {cs : List Value} {vs : List V} (n : Nat), VRelL E cs vs → VRelL E (cs.take n) (vs.take n)
  | _, _, 0, e => by simp [VRelL]
  | [], [], _ + 1, _ => by simp [VRelL]
  | [], _ :: _, _ + 1, e => by simp only [VRelL] at e
  | _ :: _, [], _ + 1, e => by simp only [VRelL] at e
  | c :: cs, v :: vs, n + 1, e => by simp only [VRelL] at e; simp only [List.take_succ_cons, VRelL]; exact ⟨e.1, VRelL.take n e.2⟩
theorem VRelL.append {E : Env} : ∀ {cs : List Value} {vs : List V} {ds us}, VRelL E cs vs → VRelL E ds us → VRelL E (cs ++ ds) (vs ++ us)
  | [], [], _, _, _, e => by simpa using e
  | [], _ :: _, _, _, e, _ => by simp only [VRelL] at e
  | _ :: _, [], _, _, e, _ => by simp only [VRelL] at e
  | c :: cs, v :: vs, _, _, e, e' => by simp only [VRelL] at e; simp only [List.cons_append, VRelL]; exact ⟨e.1, VRelL.append e.2 e'⟩
end Go.Vm
end
section
/- The standing relation between a state of trees and the model's frame and memory, and the steps that leave the memory alone. -/

namespace Go.Vm
structure Lay where
  I : Nat → Prop
  bl : Nat → Nat
  al : Nat → Path → Option Seg
def St.lens (st : St) (a : Nat) (p : Path) : Option Nat := (st.rowAt a p).map List.length
def envOf (w : World) (L : Lay) (st : St) : Env := ⟨w, L.I, L.bl, L.al, st.lens⟩
/-- What was there when the call began, and what of it the call may write. -/
structure Ghost where
  w0 : World
  O0 : Nat → Prop
  I0 : Nat → Prop
  bl0 : Nat → Nat
  al0 : Nat → Option Seg
def Unfrozen (n : Nat) (fr : Nat × Nat) : Prop := ∀ o, o < n → ¬ (fr.1 ≤ o ∧ o < fr.2)
def CellOK (al : Nat → Path → Option Seg) (a : Nat) (p : Path) (i j : Nat) (c : Value) : D → Prop
  | .int k n => c = .int k n
  | .bool b => c = .bool b
  | .str s => c = bytesVal s
  | .gone => c.oneCell' = true
  | .sl r => HeadOK al a (p ++ [(i, j)]) r.length 0 r.length c
def CellsOK (al : Nat → Path → Option Seg) (cs : Array Value) (a : Nat) (p : Path) (s : Seg) (r : Rows) : Prop :=
  ∀ i row, r[i]? = some row → row.length = s.sz ∧ ∀ j x, row[j]? = some x → ∃ c, cs[s.o + i * s.sz + j]? = some c ∧ CellOK al a p i j c x
def RowOK (w : World) (al : Nat → Path → Option Seg) (a : Nat) (p : Path) (r : Rows) : Prop :=
  match al a p with
  | none => r = []
  | some s => ∃ cs ty fr, w.heap[s.b]? = some (.cells cs ty fr) ∧ cs.size = s.top ∧ Unfrozen cs.size fr ∧ CellsOK al cs a p s r
def OwnsB (L : Lay) (st : St) (b : Nat) : Prop := ∃ k vs, st.bs k = some vs ∧ L.bl k = b
def OwnsA (L : Lay) (st : St) (b : Nat) : Prop := ∃ a p r s, st.rowAt a p = some r ∧ L.al a p = some s ∧ s.b = b
def Owns (L : Lay) (st : St) (b : Nat) : Prop := OwnsB L st b ∨ OwnsA L st b
structure Mem (G : Ghost) (w : World) (L : Lay) (st : St) : Prop where
  box : ∀ b vs, st.bs b = some vs → ∃ cs ty fr, w.heap[L.bl b]? = some (.cells cs ty fr) ∧ Unfrozen cs.size fr ∧ VRelL (envOf w L st) cs.toList vs
  row : ∀ a p r, st.rowAt a p = some r → RowOK w L.al a p r
  bb : ∀ b b' vs vs', st.bs b = some vs → st.bs b' = some vs' → L.bl b = L.bl b' → b = b'
  ba : ∀ b vs a p r s, st.bs b = some vs → st.rowAt a p = some r → L.al a p = some s → L.bl b ≠ s.b
  aa : ∀ a p r s a' p' r' s', st.rowAt a p = some r → L.al a p = some s → st.rowAt a' p' = some r' → L.al a' p' = some s' → s.b = s'.b → a = a' ∧ p = p'
  iown : ∀ b, L.I b → ¬ Owns L st b
  ilt : ∀ b, L.I b → b < w.heap.size
  own0 : ∀ b, Owns L st b → G.O0 b ∨ G.w0.heap.size ≤ b
  i0 : ∀ b, L.I b → G.I0 b ∨ G.O0 b ∨ G.w0.heap.size ≤ b
  frame : ∀ b, b < G.w0.heap.size → ¬ G.O0 b → w.heap[b]? = G.w0.heap[b]?
  size : G.w0.heap.size ≤ w.heap.size
  os : w.os = G.w0.os
  tape : w.tape = G.w0.tape
  output : w.output = G.w0.output
/-- What was handed in lies where it lay. -/
structure Out (G : Ghost) (L : Lay) (st : St) : Prop where
  bl : ∀ k, outer ≤ k → L.bl k = G.bl0 k
  al : ∀ k r, outer ≤ k → st.as k = some r → L.al k [] = G.al0 k
structure Rel (G : Ghost) (N : Nat) (ac : Act) (w : World) (L : Lay) (st : St) : Prop where
  size : ac.tmps.size = N
  defers : ac.defers = []
  tm : ∀ k, VRel (envOf w L st) (ac.tmps.getD k undef) (st.tm k)
  mem : Mem G w L st
  lim : N ≤ outer
  out : Out G L st
/-- What a step leaves. -/
def After (G : Ghost) (N : Nat) (K : St → Prop) (ac : Act) (w : World) : Prop := ∃ L st, K st ∧ Rel G N ac w L st

/-- ... and what of the memory it may have changed. -/
def AfterT (G : Ghost) (N : Nat) (K : St → Prop) (w0 : World) (T : Nat → Prop) (ac : Act) (w : World) : Prop :=
  After G N K ac w ∧ ∀ b, b < w0.heap.size → ¬ T b → w.heap[b]? = w0.heap[b]?
theorem Rel.put {G : Ghost} {N : Nat} {ac : Act} {w : World} {L : Lay} {st : St} (h : Rel G N ac w L st) {dst : Option Nat} (hd : ∀ k, dst = some k → k < N)
    {v : Value} {x : V} (hv : VRel (envOf w L st) v x) : Rel G N (ac.put dst v) w L (st.put dst x) := by
  cases dst with
  | none => exact h
  | some d =>
    have hd' := hd d rfl
    refine ⟨by simp [Act.put, h.size], h.defers, ?_, ⟨h.mem.box, h.mem.row, h.mem.bb, h.mem.ba, h.mem.aa, h.mem.iown, h.mem.ilt, h.mem.own0, h.mem.i0, h.mem.frame, h.mem.size, h.mem.os, h.mem.tape, h.mem.output⟩, h.lim, ⟨h.out.bl, h.out.al⟩⟩
    intro k
    have hs := h.size
    show VRel (envOf w L st) _ (upd st.tm d x k)
    by_cases hk : k = d
    · subst hk
      simp only [upd, Nat.beq_refl, cond_true, Act.put]
      rw [Array.getD_eq_getD_getElem?, Array.getElem?_setIfInBounds_self_of_lt (by omega)]
      exact hv
    · have : Nat.beq k d = false := by
        cases hb : Nat.beq k d with
        | false => rfl
        | true => exact absurd (Nat.eq_of_beq_eq_true hb) hk
      simp only [upd, this, cond_false, Act.put]
      rw [Array.getD_eq_getD_getElem?, Array.getElem?_setIfInBounds_ne (by omega), ← Array.getD_eq_getD_getElem?]
      exact h.tm k

/-- A step that hands back a value and leaves the memory alone. -/
theorem wp_value {P : Program} {o : Oper} {ac : Act} {w w' : World} {v : Value} {next : Act → World → Prop} {Q : Exit → Act → World → Prop}
    (hr : (execOp ac.eval o).run P w = .ok (.value v) w') (h : next (ac.put o.dst v) w') : o.wp P ac w next Q := by
  simp only [Oper.wp, hr, Oper.upon]; exact h
theorem wp_skipv {P : Program} {o : Oper} {ac : Act} {w w' : World} {next : Act → World → Prop} {Q : Exit → Act → World → Prop}
    (hr : (execOp ac.eval o).run P w = .ok .skip w') (h : next (ac.put o.dst undef) w') : o.wp P ac w next Q := by
  simp only [Oper.wp, hr, Oper.upon]; exact h

def chkLit : Value → D → Bool
  | .int k n, .int k' n' => k == k' && n == n'
  | .bool b, .bool b' => b == b'
  | .string s, .str l => s.data.toList == l
  | _, _ => false
def chkNil : Value → Bool
  | .slice none 0 0 => true
  | _ => false
def chkNilPtr : Value → Bool
  | .pointer none => true
  | .nilFunc => true
  | .nilIface => true
  | _ => false
def aggOf : Value → Option (Array Value)
  | .agg cs => some cs
  | _ => none
mutual
def chkConst (c : Value) : V → Bool
  | .d x => chkLit c x
  | .nilsl => chkNil c
  | .nilptr => chkNilPtr c
  | .agg vs => match aggOf c with
    | some cs => chkConsts cs.toList vs
    | none => false
  | _ => false
def chkConsts : List Value → List V → Bool
  | [], [] => true
  | c :: cs, v :: vs => chkConst c v && chkConsts cs vs
  | _, _ => false
end
def chkOpd : Operand → Opd → Bool
  | .tmp t, .t n => t == n
  | .const c, .v x => chkConst c x
  | .func f, .v (.clos g []) => f == g
  | _, _ => false
theorem chkLit_ok {w : World} {I : Nat → Prop} {c : Value} {x : D} (h : chkLit c x = true) : Imm w I c x := by
  unfold chkLit at h
  split at h
  · simp only [Bool.and_eq_true, beq_iff_eq] at h
    simp only [Imm, h.1, h.2]
  · simp only [beq_iff_eq] at h
    simp only [Imm, h]
  · simp only [beq_iff_eq] at h
    simp only [Imm, bytesVal, ← h]
  · cases h
theorem chkNil_ok {c : Value} (h : chkNil c = true) : c = .slice none 0 0 := by
  unfold chkNil at h; split at h
  · rfl
  · cases h
theorem chkNilPtr_ok {c : Value} (h : chkNilPtr c = true) : c = .pointer none ∨ c = .nilFunc ∨ c = .nilIface := by
  unfold chkNilPtr at h; split at h
  · exact .inl rfl
  · exact .inr (.inl rfl)
  · exact .inr (.inr rfl)
  · cases h
theorem aggOf_ok {c : Value} {cs : Array Value} (h : aggOf c = some cs) : c = .agg cs := by
  unfold aggOf at h; split at h
  · cases h; rfl
  · cases h
mutual
theorem chkConst_ok {E : Env} : ∀ (v : V) (c : Value), chkConst c v = true → VRel E c v
  | .d x, c, h => by simp only [chkConst] at h; simp only [VRel]; exact chkLit_ok h
  | .nilsl, c, h => by simp only [chkConst] at h; simp only [VRel]; exact chkNil_ok h
  | .nilptr, c, h => by simp only [chkConst] at h; simp only [VRel]; exact chkNilPtr_ok h
  | .agg vs, c, h => by
    simp only [chkConst] at h
    split at h
    · rename_i cs hc
      simp only [VRel]
      exact ⟨cs, aggOf_ok hc, chkConsts_ok vs _ h⟩
    · cases h
  | .bot, c, _ => by simp only [VRel]
  | .ref .., c, h => by simp [chkConst] at h
  | .aptr .., c, h => by simp [chkConst] at h
  | .bptr .., c, h => by simp [chkConst] at h
  | .iptr _, c, h => by simp [chkConst] at h
  | .tup _, c, h => by simp [chkConst] at h
  | .clos .., c, h => by simp [chkConst] at h
theorem chkConsts_ok {E : Env} : ∀ (vs : List V) (cs : List Value), chkConsts cs vs = true → VRelL E cs vs
  | [], [], _ => by simp [VRelL]
  | [], _ :: _, h => by simp [chkConsts] at h
  | _ :: _, [], h => by simp [chkConsts] at h
  | v :: vs, c :: cs, h => by
    simp only [chkConsts, Bool.and_eq_true] at h
    simp only [VRelL]
    exact ⟨chkConst_ok v c h.1, chkConsts_ok vs cs h.2⟩
end
theorem Rel.ev {G : Ghost} {N : Nat} {ac : Act} {w : World} {L : Lay} {st : St} (h : Rel G N ac w L st) {x : Operand} {y : Opd} (hc : chkOpd x y = true) :
    VRel (envOf w L st) (ac.eval x) (st.ev y) := by
  unfold chkOpd at hc
  split at hc
  · simp only [beq_iff_eq] at hc; subst hc; exact h.tm _
  · exact chkConst_ok _ _ hc
  · simp only [beq_iff_eq] at hc; subst hc
    simp [St.ev, Act.eval, VRel, VRelL]
  · cases hc
end Go.Vm
end
section
/- The operations that leave the memory alone: what the small code says of them holds in the model. -/
namespace Go.Vm
theorem add_mk (b o j : Nat) : (Addr.mk b o none).add j = ⟨b, o + j, none⟩ := by
  unfold Addr.add; split
  · rename_i h; subst h; rfl
  · rfl
theorem cell_of {w : World} {b : Nat} {cs : Array Value} {ty : TypeId} {fr : Nat × Nat} (h : w.heap[b]? = some (.cells cs ty fr)) (o : Nat) : w.cell? ⟨b, o, none⟩ = cs[o]? := by
  simp [World.cell?, h]
theorem frozen_of {w : World} {b : Nat} {cs : Array Value} {ty : TypeId} {fr : Nat × Nat} (h : w.heap[b]? = some (.cells cs ty fr)) (hu : Unfrozen cs.size fr) {o : Nat} (ho : o < cs.size) :
    w.frozen? ⟨b, o, none⟩ = false := by
  simp only [World.frozen?, h]
  have := hu o ho
  simpa using this
theorem run_underlying {P : Program} {w : World} {t : TypeId} {d : TypeDesc} (h : P.underlying t = some d) : (underlying t).run P w = .ok d w := by
  simp [underlying, h]
theorem run_typeInfo {P : Program} {w : World} {t : TypeId} {i : TypeInfo} (h : P.info? t = some i) : (typeInfo t).run P w = .ok i w := by
  simp [typeInfo, h]
theorem run_sizeOf {P : Program} {w : World} {t : TypeId} {i : TypeInfo} (h : P.info? t = some i) : (sizeOf t).run P w = .ok i.size w := by
  simp [sizeOf, run_typeInfo h]
def aggB : TypeDesc → Bool
  | .struct _ => true
  | .array _ _ => true
  | _ => false
theorem run_isAgg {P : Program} {w : World} {t : TypeId} {d : TypeDesc} (h : P.underlying t = some d) : (isAgg t).run P w = .ok (aggB d) w := by
  simp only [isAgg, Sem.run_bind, run_underlying h, Result.andThen_ok]
  cases d <;> rfl
/-- A type is so many cells, and a struct or not. -/
def chkTy (P : Program) (t : TypeId) (agg : Bool) (s : Nat) : Bool :=
  match P.info? t, P.underlying t with
  | some i, some d => i.size == s && aggB d == agg
  | _, _ => false
theorem chkTy_ok {P : Program} {t : TypeId} {agg : Bool} {s : Nat} (h : chkTy P t agg s = true) (w : World) : (isAgg t).run P w = .ok agg w ∧ (sizeOf t).run P w = .ok s w := by
  unfold chkTy at h
  split at h
  · rename_i i d h1 h2
    simp only [Bool.and_eq_true, beq_iff_eq] at h
    refine ⟨?_, ?_⟩
    · rw [run_isAgg h2, h.2]
    · rw [run_sizeOf h1, h.1]
  · cases h
theorem load_cells {P : Program} {w : World} {E : Env} {t : TypeId} {agg : Bool} {s : Nat} (ht : chkTy P t agg s = true) {b o : Nat} {cs : List Value}
    (hc : ∀ j c, cs[j]? = some c → w.cell? ⟨b, o + j, none⟩ = some c) {vs : List V} (hv : VRelL E cs vs) {v : V} (hcv : cellsV agg s vs = some v) :
    ∃ c, (loadVar t ⟨b, o, none⟩).run P w = .ok c w ∧ VRel E c v := by
  obtain ⟨h1, h2⟩ := chkTy_ok ht w
  unfold cellsV at hcv
  cases agg with
  | true =>
    simp only [if_true] at hcv
    split at hcv
    · rename_i hs
      cases hcv
      have hlen := hv.length
      have hl : (loadCells ⟨b, o, none⟩ s).run P w = .ok (cs.take s).toArray w := by
        have := run_loadCells_list (P := P) w ⟨b, o, none⟩ (cs.take s) (fun j c hj => by
          rw [add_mk]
          rw [List.getElem?_take] at hj
          split at hj
          · exact hc j c hj
          · cases hj)
        rwa [List.length_take, Nat.min_eq_left (by omega)] at this
      refine ⟨.agg (cs.take s).toArray, ?_, ?_⟩
      · simp only [loadVar, Sem.run_bind, h1, Result.andThen_ok, if_true, h2, hl, Sem.run_pure]
      · simp only [VRel]
        exact ⟨_, rfl, by simpa using hv.take s⟩
    · cases hcv
  | false =>
    simp only [Bool.false_eq_true, if_false] at hcv
    cases vs with
    | nil => simp at hcv
    | cons u us =>
      simp at hcv; subst hcv
      cases cs with
      | nil => simp [VRelL] at hv
      | cons c cs =>
        simp only [VRelL] at hv
        refine ⟨c, ?_, hv.1⟩
        have := hc 0 c rfl
        simp only [Nat.add_zero] at this
        simp only [loadVar, Sem.run_bind, h1, Result.andThen_ok, Bool.false_eq_true, if_false, run_load, this]
theorem ImmCells.vrel {E : Env} {b : Nat} : ∀ (xs : List D) (o : Nat), ImmCells E.w E.I b o xs → ∃ cs : List Value, VRelL E cs (xs.map V.d) ∧ ∀ j c, cs[j]? = some c → E.w.cell? ⟨b, o + j, none⟩ = some c
  | [], _, _ => ⟨[], by simp [VRelL], fun j c h => by simp at h⟩
  | x :: xs, o, h => by
    simp only [ImmCells] at h
    obtain ⟨⟨c, h1, h2⟩, h3⟩ := h
    obtain ⟨cs, h4, h5⟩ := ImmCells.vrel xs (o + 1) h3
    refine ⟨c :: cs, ?_, ?_⟩
    · simp only [List.map_cons, VRelL, VRel]; exact ⟨h2, h4⟩
    · intro j c' hj
      cases j with
      | zero => simp at hj; subst hj; exact h1
      | succ j => simp at hj; have := h5 j c' hj; rwa [show o + 1 + j = o + (j + 1) by omega] at this
theorem ImmCells.drop {w : World} {I : Nat → Prop} {b : Nat} : ∀ (n : Nat) (xs : List D) (o : Nat), ImmCells w I b o xs → ImmCells w I b (o + n) (xs.drop n)
  | 0, xs, o, h => by simpa using h
  | n + 1, [], o, h => by simp [ImmCells]
  | n + 1, x :: xs, o, h => by
    simp only [ImmCells] at h
    have := ImmCells.drop n xs (o + 1) h.2
    simpa [show o + 1 + n = o + (n + 1) by omega] using this
theorem ImmRows.get {w : World} {I : Nat → Prop} {b sz : Nat} : ∀ (k : Nat) (rows : List (List D)) (o : Nat), ImmRows w I b o sz rows → ∀ cs, rows[k]? = some cs → cs.length = sz ∧ ImmCells w I b (o + k * sz) cs
  | _, [], _, _, cs, h => by simp at h
  | 0, r :: rows, o, h, cs, hk => by
    simp only [ImmRows] at h
    simp at hk; subst hk
    exact ⟨h.1, by simpa using h.2.1⟩
  | k + 1, r :: rows, o, h, cs, hk => by
    simp only [ImmRows] at h
    simp at hk
    have := ImmRows.get k rows (o + sz) h.2.2 cs hk
    rwa [show o + sz + k * sz = o + (k + 1) * sz by rw [Nat.add_mul]; omega] at this
theorem ImmRows.drop {w : World} {I : Nat → Prop} {b sz : Nat} : ∀ (n : Nat) (rows : List (List D)) (o : Nat), ImmRows w I b o sz rows → ImmRows w I b (o + n * sz) sz (rows.drop n)
  | 0, rows, o, h => by simpa using h
  | n + 1, [], o, _ => by simp [ImmRows]
  | n + 1, r :: rows, o, h => by
    simp only [ImmRows] at h
    have := ImmRows.drop n rows (o + sz) h.2.2
    simpa [show o + sz + n * sz = o + (n + 1) * sz by rw [Nat.add_mul]; omega] using this
theorem ImmRows.take {w : World} {I : Nat → Prop} {b sz : Nat} : ∀ (n : Nat) (rows : List (List D)) (o : Nat), ImmRows w I b o sz rows → ImmRows w I b o sz (rows.take n)
  | 0, rows, o, h => by simp [ImmRows]
  | n + 1, [], o, _ => by simp [ImmRows]
  | n + 1, r :: rows, o, h => by
    simp only [ImmRows, List.take_succ_cons] at h ⊢
    exact ⟨h.1, h.2.1, ImmRows.take n rows _ h.2.2⟩
theorem packD_get (a : Nat) (p : Path) (i : Nat) : ∀ (cs : List D) (k j : Nat), (packD a p i k cs)[j]? = (cs[j]?).map fun x => match x with
    | .sl r => .ref a (p ++ [(i, k + j)]) 0 r.length
    | .gone => .bot
    | x => .d x
  | [], k, j => by simp [packD]
  | x :: cs, k, 0 => by cases x <;> simp [packD]
  | x :: cs, k, j + 1 => by
    have ih := packD_get a p i cs (k + 1) j
    have e : k + 1 + j = k + (j + 1) := by omega
    cases x <;> simp [packD, ih, e]
theorem packD_length (a : Nat) (p : Path) (i : Nat) : ∀ (cs : List D) (k : Nat), (packD a p i k cs).length = cs.length
  | [], k => rfl
  | x :: cs, k => by cases x <;> simp [packD, packD_length a p i cs (k + 1)]
theorem VRelL.of_get {E : Env} : ∀ {cs : List Value} {vs : List V}, cs.length = vs.length → (∀ (j : Nat) (c : Value) (v : V), cs[j]? = some c → vs[j]? = some v → VRel E c v) → VRelL E cs vs
  | [], [], _, _ => by simp [VRelL]
  | [], _ :: _, h, _ => by simp at h
  | _ :: _, [], h, _ => by simp at h
  | c :: cs, v :: vs, h, hg => by
    simp only [VRelL]
    exact ⟨hg 0 c v rfl rfl, VRelL.of_get (by simpa using h) fun j c' v' h1 h2 => hg (j + 1) c' v' (by simpa using h1) (by simpa using h2)⟩
theorem getRow_append (p q : Path) (r : Rows) : getRow (p ++ q) r = (getRow p r).bind (getRow q) := by
  induction p generalizing r with
  | nil => rfl
  | cons x p ih =>
    obtain ⟨i, j⟩ := x
    simp only [List.cons_append, getRow]
    cases r[i]? with
    | none => rfl
    | some cs =>
      simp only []
      cases cs[j]? with
      | none => rfl
      | some d => cases d <;> first | rfl | exact ih _
theorem rowAt_sub {st : St} {a : Nat} {p : Path} {r : Rows} (h : st.rowAt a p = some r) {i j : Nat} {cs : List D} (h1 : r[i]? = some cs) {r' : Rows} (h2 : cs[j]? = some (.sl r')) :
    st.rowAt a (p ++ [(i, j)]) = some r' := by
  unfold St.rowAt at h ⊢
  cases ha : st.as a with
  | none => simp [ha] at h
  | some rows =>
    simp only [ha, Option.bind_some] at h ⊢
    rw [getRow_append, h]
    simp [getRow, h1, h2]
/-- An element of an owned row, cell by cell. -/
theorem row_cells {G : Ghost} {w : World} {L : Lay} {st : St} (h : Mem G w L st) {a : Nat} {p : Path} {r : Rows} (hr : st.rowAt a p = some r) {i : Nat} {row : List D} (hi : r[i]? = some row) :
    ∃ s cs, L.al a p = some s ∧ row.length = s.sz ∧ VRelL (envOf w L st) cs (packD a p i 0 row) ∧ ∀ j c, cs[j]? = some c → w.cell? ⟨s.b, s.o + i * s.sz + j, none⟩ = some c := by
  have h1 := h.row a p r hr
  unfold RowOK at h1
  cases hal : L.al a p with
  | none => rw [hal] at h1; simp only [] at h1; subst h1; simp at hi
  | some s =>
    rw [hal] at h1; simp only [] at h1
    obtain ⟨cs, ty, fr, hh, hsz, hu, hcs⟩ := h1
    obtain ⟨hlen, hcell⟩ := hcs i row hi
    rcases Nat.eq_zero_or_pos row.length with h0 | h0
    · have : row = [] := List.length_eq_zero_iff.mp h0
      subst this
      exact ⟨s, [], rfl, hlen, by simp [packD, VRelL], fun j c hj => by simp at hj⟩
    refine ⟨s, (cs.toList.drop (s.o + i * s.sz)).take row.length, rfl, hlen, ?_, ?_⟩
    · have hfit : s.o + i * s.sz + row.length ≤ cs.size := by
        obtain ⟨x, hx⟩ : ∃ x, row[row.length - 1]? = some x := ⟨row[row.length - 1], by simp [List.getElem?_eq_getElem (show row.length - 1 < row.length by omega)]⟩
        obtain ⟨c, hc, _⟩ := hcell _ x hx
        have := (Array.getElem?_eq_some_iff.mp hc).1
        omega
      apply VRelL.of_get
      · rw [packD_length]; simp; omega
      · intro j c v hj hv
        rw [packD_get] at hv
        cases hx : row[j]? with
        | none => simp [hx] at hv
        | some x =>
          simp only [hx, Option.map_some, Option.some.injEq] at hv
          obtain ⟨c', hc', hok⟩ := hcell j x hx
          have hjl : j < row.length := (List.getElem?_eq_some_iff.mp hx).1
          rw [List.getElem?_take, if_pos hjl, List.getElem?_drop] at hj
          rw [Array.getElem?_toList] at hj
          rw [hj] at hc'
          cases hc'
          subst hv
          cases x with
          | int k n => simpa only [VRel, Imm, CellOK] using hok
          | bool b => simpa only [VRel, Imm, CellOK] using hok
          | str s' => simpa only [VRel, Imm, CellOK] using hok
          | gone => simp only [VRel]
          | sl r' =>
            simp only [VRel, Nat.zero_add]
            refine ⟨?_, fun len hl => ?_⟩
            · obtain ⟨ad, cap, e1, e2, _, e3⟩ := hok
              refine ⟨ad, cap, e1, e2, fun hn => ?_⟩
              rcases e3 with e3 | ⟨s', _, e4, _⟩
              · omega
              · rw [e4] at hn; cases hn
            have := rowAt_sub hr hi hx
            simp only [envOf, St.lens, this, Option.map_some, Option.some.injEq] at hl
            subst hl
            exact ⟨by omega, hok⟩
    · intro j c hj
      rw [List.getElem?_take] at hj
      split at hj
      · rw [List.getElem?_drop, Array.getElem?_toList] at hj
        rw [cell_of hh]; exact hj
      · cases hj
end Go.Vm
end
section
/- Each operation that leaves the memory alone, by itself. -/
namespace Go.Vm
section
variable {P : Program} {o : Oper} {N : Nat} {G : Ghost} {ac : Act} {w : World} {L : Lay} {st : St} {K : St → Prop} {Q : Exit → Act → World → Prop}
/-- The operation hands back one value, whatever the memory, and leaves it alone. -/
def QP (P : Program) (o : Oper) (ac : Act) (w : World) (L : Lay) (st : St) (K : St → Prop) : Prop :=
  ∃ c v, (∀ w', (execOp ac.eval o).run P w' = .ok (.value c) w') ∧ VRel (envOf w L st) c v ∧ K (st.put o.dst v)
/-- The operation reads a value, and leaves the memory alone. -/
def QR (P : Program) (o : Oper) (ac : Act) (w : World) (L : Lay) (st : St) (K : St → Prop) : Prop :=
  ∃ c v, (execOp ac.eval o).run P w = .ok (.value c) w ∧ VRel (envOf w L st) c v ∧ K (st.put o.dst v)
theorem QP.read (h : QP P o ac w L st K) : QR P o ac w L st K := let ⟨c, v, h1, h2⟩ := h; ⟨c, v, h1 w, h2⟩
theorem QR.wp (hd : ∀ k, o.dst = some k → k < N) (h : Rel G N ac w L st) (hq : QR P o ac w L st K) : o.wp P ac w (After G N K) Q :=
  let ⟨_, _, hr, hv, hk⟩ := hq; wp_value hr ⟨L, _, hk, h.put hd hv⟩
theorem quiet_step {c : Value} {v : V} (hr : ∀ w', (execOp ac.eval o).run P w' = .ok (.value c) w') (hv : VRel (envOf w L st) c v) (hk : K (st.put o.dst v)) : QP P o ac w L st K := ⟨c, v, hr, hv, hk⟩
theorem ok_mov (h : Rel G N ac w L st) {x : Operand} {y : Opd} (ho : o.op = .move x ∨ o.op = .assign x) (hc : chkOpd x y = true)
    {H : Handler} (hp : awpOp H o.dst (.mov y) st K) : QP P o ac w L st K := by
  refine quiet_step (c := ac.eval x) ?_ (h.ev hc) hp
  rcases ho with ho | ho <;> simp [execOp, ho]
theorem Imm_bool {w : World} {I : Nat → Prop} {c : Value} {b : Bool} (h : Imm w I c (.bool b)) : c = .bool b := by simpa only [Imm] using h
theorem Imm_int {w : World} {I : Nat → Prop} {c : Value} {k : IntKind} {n : Int} (h : Imm w I c (.int k n)) : c = .int k n := by simpa only [Imm] using h
theorem Imm_str {w : World} {I : Nat → Prop} {c : Value} {s : List UInt8} (h : Imm w I c (.str s)) : c = bytesVal s := by simpa only [Imm] using h
theorem ev_d {x : Operand} {y : Opd} {d : D} (h : Rel G N ac w L st) (hc : chkOpd x y = true) (e : st.ev y = .d d) : Imm w L.I (ac.eval x) d := by
  have := h.ev hc; rw [e] at this; simpa only [VRel, envOf] using this
theorem ok_pick (h : Rel G N ac w L st) {c a b : Operand} {c' a' b' : Opd} (ho : o.op = .pick c a b) (hc : chkOpd c c' = true) (ha : chkOpd a a' = true) (hb : chkOpd b b' = true)
    {H : Handler} (hp : awpOp H o.dst (.pick c' a' b') st K) : QP P o ac w L st K := by
  simp only [awpOp] at hp
  split at hp
  · rename_i t ht
    have h1 := Imm_bool (ev_d h hc ht)
    cases t with
    | true =>
      refine quiet_step (c := ac.eval a) ?_ (h.ev ha) (hp.1 rfl)
      simp [execOp, ho, h1, asBool]
    | false =>
      refine quiet_step (c := ac.eval b) ?_ (h.ev hb) (hp.2 rfl)
      simp [execOp, ho, h1, asBool]
  · exact hp.elim
theorem box_cells (h : Mem G w L st) {b : Nat} {vs : List V} (hb : st.bs b = some vs) : ∃ cs : List Value, VRelL (envOf w L st) cs vs ∧ ∀ j c, cs[j]? = some c → w.cell? ⟨L.bl b, j, none⟩ = some c := by
  obtain ⟨cs, ty, fr, h1, h2, h3⟩ := h.box b vs hb
  exact ⟨cs.toList, h3, fun j c hj => by rw [cell_of h1]; simpa using hj⟩
theorem ok_load (h : Rel G N ac w L st) {t : TypeId} {x : Operand} {y : Opd} {agg : Bool} {s : Nat} (ho : o.op = .load t x) (hc : chkOpd x y = true) (ht : chkTy P t agg s = true)
    {H : Handler} (hp : awpOp H o.dst (.load agg s y) st K) : QR P o ac w L st K := by
  have hx := h.ev hc
  simp only [awpOp] at hp
  have key : ∀ {b o' : Nat} {cs : List Value} {vs : List V} {v : V}, ac.eval x = .pointer (some ⟨b, o', none⟩) → (∀ j c, cs[j]? = some c → w.cell? ⟨b, o' + j, none⟩ = some c) → VRelL (envOf w L st) cs vs →
      cellsV agg s vs = some v → K (st.put o.dst v) → QR P o ac w L st K := by
    intro b o' cs vs v he hcell hrel hv hk
    obtain ⟨c, h1, h2⟩ := load_cells ht hcell hrel hv
    refine ⟨c, v, ?_, h2, hk⟩
    simp [execOp, ho, he, Instr.loadAt, Instr.sureAddr, h1]
  split at hp
  · rename_i b off he
    split at hp
    · rename_i cs hb
      split at hp
      · rename_i v hv
        rw [he] at hx
        simp only [VRel, envOf] at hx
        obtain ⟨cs', h1, h2⟩ := box_cells h.mem hb
        refine key hx (cs := cs'.drop off) ?_ (h1.drop off) hv hp
        intro j c hj
        rw [List.getElem?_drop] at hj
        exact h2 _ c hj
      · exact hp.elim
    · exact hp.elim
  · rename_i cs he
    split at hp
    · rename_i v hv
      rw [he] at hx
      simp only [VRel, envOf] at hx
      obtain ⟨b, o', h1, h2, h3⟩ := hx
      obtain ⟨cs', h4, h5⟩ := ImmCells.vrel (E := envOf w L st) cs o' h3
      exact key h1 h5 h4 hv hp
    · exact hp.elim
  · rename_i a p i j he
    obtain ⟨rows, row, hr, hi, hp⟩ := hp
    split at hp
    · rename_i v hv
      rw [he] at hx
      simp only [VRel, envOf, St.lens] at hx
      obtain ⟨s', cs', h1, h2, h3, h4⟩ := row_cells h.mem hr hi
      obtain ⟨b, o', h6, h7⟩ := hx
      obtain ⟨s'', h5, hb, ho'⟩ := h7 rows.length (by rw [hr]; rfl)
      rw [h1] at h5; cases h5
      subst hb; subst ho'
      refine key h6 (cs := cs'.drop j) ?_ (h3.drop j) hv hp
      intro k c hk
      rw [List.getElem?_drop] at hk
      have := h4 _ c hk
      rwa [← Nat.add_assoc] at this
    · exact hp.elim
  · exact hp.elim
def fieldOf (P : Program) (t : TypeId) (f : Nat) : Option Field :=
  match P.underlying t with
  | some (.struct fs) => fs[f]?
  | _ => none
def chkField (P : Program) (t : TypeId) (f off : Nat) : Bool :=
  match fieldOf P t f with
  | some fd => fd.offset == off && (match P.info? fd.type with | some i => i.size != 0 | none => false)
  | none => false
theorem run_fieldAt (t : TypeId) (f off b o' : Nat) (hc : chkField P t f off = true) : (Instr.fieldAt t (.pointer (some ⟨b, o', none⟩)) f).run P w = .ok (.pointer (some ⟨b, o' + off, none⟩)) w := by
  unfold chkField fieldOf at hc
  cases hu : P.underlying t with
  | none => simp [hu] at hc
  | some d =>
    cases d <;> simp only [hu] at hc <;> try (simp at hc; done)
    rename_i fs
    cases hf : fs[f]? with
    | none => simp [hf] at hc
    | some fd =>
      simp only [hf, Bool.and_eq_true, beq_iff_eq] at hc
      obtain ⟨h1, h2⟩ := hc
      cases hi : P.info? fd.type with
      | none => simp [hi] at h2
      | some i =>
        simp only [hi, bne_iff_ne, ne_eq] at h2
        simp only [Instr.fieldAt, Sem.run_bind, run_underlying hu, Result.andThen_ok, hf, Instr.sureAddr, Sem.run_pure, fieldPlace, run_sizeOf hi, h2, if_false, add_mk, h1]
theorem ok_fld (h : Rel G N ac w L st) {t : TypeId} {x : Operand} {f off : Nat} {y : Opd} (ho : o.op = .fieldAddr t x f) (hc : chkOpd x y = true) (hf : chkField P t f off = true)
    {H : Handler} (hp : awpOp H o.dst (.fld off y) st K) : QP P o ac w L st K := by
  have hx := h.ev hc
  simp only [awpOp] at hp
  split at hp
  · rename_i b o' he
    rw [he] at hx; simp only [VRel, envOf] at hx
    refine quiet_step (c := .pointer (some ⟨L.bl b, o' + off, none⟩)) ?_ (by simp only [VRel, envOf]) hp
    simp [execOp, ho, hx, run_fieldAt t f off _ _ hf]
  · rename_i a p i j he
    rw [he] at hx; simp only [VRel] at hx
    obtain ⟨b, o', h1, h2⟩ := hx
    refine quiet_step (c := .pointer (some ⟨b, o' + off, none⟩)) ?_ ?_ hp
    · simp [execOp, ho, h1, run_fieldAt t f off _ _ hf]
    · simp only [VRel]
      refine ⟨b, _, rfl, fun len hl => ?_⟩
      obtain ⟨s, h3, h4, h5⟩ := h2 len hl
      exact ⟨s, h3, h4, by omega⟩
  · rename_i cs he
    rw [he] at hx; simp only [VRel, envOf] at hx
    obtain ⟨b, o', h1, h2, h3⟩ := hx
    refine quiet_step (c := .pointer (some ⟨b, o' + off, none⟩)) ?_ ?_ hp
    · simp [execOp, ho, h1, run_fieldAt t f off _ _ hf]
    · simp only [VRel, envOf]; exact ⟨b, _, rfl, h2, h3.drop off⟩
  · exact hp.elim

theorem nat_int {k : IntKind} {i : Int} {n : Nat} (h0 : 0 ≤ i) (hn : i.toNat = n) : i = (n : Int) := by omega
theorem ok_idx (h : Rel G N ac w L st) {t e : TypeId} {x i : Operand} {y k : Opd} {esz : Nat} (ho : o.op = .indexAddr t x i) (hc : chkOpd x y = true) (hi : chkOpd i k = true)
    (ht : P.underlying t = some (.slice e)) (he : ∃ ti, P.info? e = some ti ∧ ti.size = esz)
    {H : Handler} (hp : awpOp H o.dst (.idx esz y k) st K) : QP P o ac w L st K := by
  have hx := h.ev hc
  obtain ⟨ti, he1, he2⟩ := he
  have run : ∀ (b o' n cap : Nat) (kk : IntKind) (q : Int), ac.eval x = .slice (some ⟨b, o', none⟩) n cap → ac.eval i = .int kk q → 0 ≤ q → q.toNat < n →
      ∀ w', (execOp ac.eval o).run P w' = .ok (.value (.pointer (some ⟨b, o' + q.toNat * esz, none⟩))) w' := by
    intro b o' n cap kk q h1 h2 h3 h4
    have h5 : 0 ≤ q ∧ q < (n : Int) := ⟨h3, by omega⟩
    simp [execOp, ho, h1, h2, Instr.indexAt, asIntOf, run_underlying ht, h5, run_sizeOf he1, he2, add_mk]
  simp only [awpOp] at hp
  split at hp
  · rename_i rows hy
    unfold asNat at hp
    split at hp
    · rename_i kk q hk
      obtain ⟨h0, row, hget, hsz, hK⟩ := hp
      have hlt : q.toNat < rows.length := (List.getElem?_eq_some_iff.mp hget).1
      have h1 := ev_d h hc hy
      have h2 := Imm_int (ev_d h hi hk)
      simp only [Imm] at h1
      obtain ⟨ad, cap, e1, e2, e3⟩ := h1
      rcases e3 with e3 | ⟨b, o', sz, e4, e5, e6⟩
      · omega
      · subst e4
        obtain ⟨g1, g2⟩ := e6.get q.toNat rows o' row hget
        refine quiet_step (run b o' _ cap kk q e1 h2 h0 hlt) ?_ hK
        simp only [VRel, envOf]
        exact ⟨b, _, rfl, e5, by rw [← hsz, g1]; exact g2⟩
    · exact hp.elim
  · rename_i a p lo n hy
    unfold asNat at hp
    split at hp
    · rename_i kk q hk
      obtain ⟨h0, rows, row, hr, hlt, hget, hsz, hK⟩ := hp
      rw [Nat.add_comm q.toNat lo] at hget hK
      have hlt' : lo + q.toNat < rows.length := (List.getElem?_eq_some_iff.mp hget).1
      have h2 := Imm_int (ev_d h hi hk)
      rw [hy] at hx
      simp only [VRel, envOf, St.lens] at hx
      obtain ⟨_, hx2⟩ := hx
      obtain ⟨h3, ad, cap, h4, h5, _, h6⟩ := hx2 rows.length (by rw [hr]; rfl)
      rcases h6 with h6 | ⟨s, h7, h8, h9⟩
      · omega
      · subst h8
        have hrow := h.mem.row a p rows hr
        unfold RowOK at hrow
        rw [h7] at hrow; simp only [] at hrow
        obtain ⟨cs, ty, fr, _, _, _, hcs⟩ := hrow
        have hs := (hcs (lo + q.toNat) row hget).1
        have hsz' : s.sz = esz := by rw [← hs]; exact hsz
        refine quiet_step (run s.b _ n cap kk q h4 h2 h0 hlt) ?_ hK
        simp only [VRel]
        refine ⟨_, _, rfl, fun len hl => ⟨s, h7, rfl, ?_⟩⟩
        rw [hsz', Nat.add_mul]; omega
    · exact hp.elim
  · exact hp.elim
theorem ok_idxs (h : Rel G N ac w L st) {t : TypeId} {x i : Operand} {y k : Opd} (ho : o.op = .index t x i) (hc : chkOpd x y = true) (hi : chkOpd i k = true)
    (ht : P.underlying t = some .string) {H : Handler} (hp : awpOp H o.dst (.idxs y k) st K) : QP P o ac w L st K := by
  simp only [awpOp] at hp
  split at hp
  · rename_i s hy
    unfold asNat at hp
    split at hp
    · rename_i kk q hk
      obtain ⟨h0, hlt, hK⟩ := hp
      have h1 := Imm_str (ev_d h hc hy)
      have h2 := Imm_int (ev_d h hi hk)
      refine quiet_step (c := .int .u8 s[q.toNat].toNat) ?_ (by simp only [VRel, Imm]) hK
      have h3 : (if 0 ≤ q then (ByteArray.mk s.toArray)[q.toNat]? else none) = some s[q.toNat] := by
        rw [if_pos h0]
        show (if h : q.toNat < (ByteArray.mk s.toArray).size then some _ else none) = _
        rw [dif_pos (by simpa [ByteArray.size] using hlt)]
        rfl
      simp [execOp, ho, h1, h2, bytesVal, Instr.index, asIntOf, run_underlying ht, h3]
    · exact hp.elim
  · exact hp.elim
theorem ok_ext (h : Rel G N ac w L st) {x : Operand} {y : Opd} {i : Nat} (ho : o.op = .extract x i) (hc : chkOpd x y = true)
    {H : Handler} (hp : awpOp H o.dst (.ext y i) st K) : QP P o ac w L st K := by
  have hx := h.ev hc
  simp only [awpOp] at hp
  split at hp
  · rename_i vs hy
    split at hp
    · rename_i v hv
      rw [hy] at hx; simp only [VRel] at hx
      obtain ⟨cs, h1, h2⟩ := hx
      obtain ⟨c, h3, h4⟩ := h2.get i v hv
      refine quiet_step (c := c) ?_ h4 hp
      have : cs[i]? = some c := by simpa using h3
      simp [execOp, ho, h1, Instr.extract, this]
    · exact hp.elim
  · exact hp.elim
theorem exec_builtin {b : Builtin} {args : Array Operand} {ts : Array TypeId} (ho : o.op = .call { callee := .builtin b, args := args, argTypes := ts }) (ρ : Operand → Value) :
    execOp ρ o = builtin b ts o.type (args.map fun | .const _ => true | _ => false) (args.map ρ) := by
  simp only [execOp, ho, resolve]; rfl
theorem run_v (s : Sem Value) {c : Value} {w' : World} (h : s.run P w = .ok c w') : (do pure (Next.value (← s)) : Sem Next).run P w = .ok (.value c) w' := by
  simp only [Sem.run_bind, h, Result.andThen_ok, Sem.run_pure]
theorem ok_len (h : Rel G N ac w L st) {x : Operand} {y : Opd} {t e : TypeId} (ho : o.op = .call { callee := .builtin .len, args := #[x], argTypes := #[t] }) (hc : chkOpd x y = true)
    (ht : P.underlying t = some (.slice e)) {H : Handler} (hp : awpOp H o.dst (.len y) st K) : QP P o ac w L st K := by
  have hx := h.ev hc
  have run : ∀ ad n cap, ac.eval x = .slice ad n cap → ∀ w', (execOp ac.eval o).run P w' = .ok (.value (.int .i64 n)) w' := by
    intro ad n cap he
    intro w'; rw [exec_builtin ho]
    refine run_v _ ?_
    simp only [Builtin.len_, List.map_toArray, List.map_cons, List.map_nil, he]
    show (do match ← underlying t, Value.slice ad n cap with | _, _ => _ : Sem Value).run P _ = _
    simp only [Sem.run_bind, run_underlying ht, Result.andThen_ok]
    rfl
  simp only [awpOp] at hp
  split at hp
  · rename_i rows hy
    have h1 := ev_d h hc hy
    simp only [Imm] at h1
    obtain ⟨ad, cap, e1, _⟩ := h1
    exact quiet_step (run ad _ cap e1) (by simp only [VRel, Imm]) hp
  · rename_i a p lo n hy
    rw [hy] at hx; simp only [VRel] at hx
    obtain ⟨⟨ad, cap, e1, _, _⟩, _⟩ := hx
    exact quiet_step (run ad _ cap e1) (by simp only [VRel, Imm]) hp
  · rename_i hy
    rw [hy] at hx; simp only [VRel] at hx
    exact quiet_step (run none 0 0 hx) (by simp only [VRel, Imm]; rfl) hp
  · exact hp.elim
theorem ok_lens (h : Rel G N ac w L st) {x : Operand} {y : Opd} {t : TypeId} (ho : o.op = .call { callee := .builtin .len, args := #[x], argTypes := #[t] }) (hc : chkOpd x y = true)
    (ht : P.underlying t = some .string) {H : Handler} (hp : awpOp H o.dst (.lens y) st K) : QP P o ac w L st K := by
  simp only [awpOp] at hp
  split at hp
  · rename_i s hy
    have h1 := Imm_str (ev_d h hc hy)
    refine quiet_step (c := .int .i64 s.length) ?_ (by simp only [VRel, Imm]) hp
    intro w'; rw [exec_builtin ho]
    refine run_v _ ?_
    simp only [Builtin.len_, List.map_toArray, List.map_cons, List.map_nil, h1, bytesVal]
    show (do match ← underlying t, Value.string ⟨s.toArray⟩ with | _, _ => _ : Sem Value).run P _ = _
    simp only [Sem.run_bind, run_underlying ht, Result.andThen_ok]
    rfl
  · exact hp.elim
theorem ok_fldv (h : Rel G N ac w L st) {t : TypeId} {x : Operand} {y : Opd} {f off s : Nat} {agg : Bool} {fd : Field} (ho : o.op = .field t x f) (hc : chkOpd x y = true)
    (hf : fieldOf P t f = some fd) (hoff : fd.offset = off) (ht : chkTy P fd.type agg s = true)
    {H : Handler} (hp : awpOp H o.dst (.fldv off s agg y) st K) : QP P o ac w L st K := by
  have hx := h.ev hc
  simp only [awpOp] at hp
  split at hp
  · rename_i vs hy
    split at hp
    · rename_i v hv
      rw [hy] at hx; simp only [VRel] at hx
      obtain ⟨cs, h1, h2⟩ := hx
      have t1 := fun w' => (chkTy_ok ht w').1
      have t2 := fun w' => (chkTy_ok ht w').2
      unfold fieldOf at hf
      cases hu : P.underlying t with
      | none => simp [hu] at hf
      | some d =>
        cases d <;> simp only [hu] at hf <;> try (simp at hf; done)
        rename_i fs
        have h3 := h2.drop off
        unfold cellsV at hv
        cases agg with
        | true =>
          simp only [if_true] at hv
          split at hv
          · rename_i hs
            cases hv
            refine quiet_step (c := .agg (cs.extract off (off + s))) ?_ ?_ hp
            · intro w'; simp only [execOp, ho]
              refine run_v _ ?_
              simp only [Instr.field, Sem.run_bind, run_underlying hu, Result.andThen_ok, hf, h1, asAgg, Sem.run_pure, part, hoff, t1, if_true, t2]
            · simp only [VRel]
              refine ⟨_, rfl, ?_⟩
              have := h3.take s
              simpa [Array.toList_extract, List.extract_eq_take_drop] using this
          · cases hv
        | false =>
          simp only [Bool.false_eq_true, if_false] at hv
          have hg : vs[off]? = some v := by
            rw [List.head?_drop] at hv; exact hv
          obtain ⟨c, g1, g2⟩ := h2.get off v hg
          refine quiet_step (c := c) ?_ g2 hp
          have g3 : cs[off]? = some c := by simpa using g1
          intro w'; simp only [execOp, ho]
          refine run_v _ ?_
          simp only [Instr.field, Sem.run_bind, run_underlying hu, Result.andThen_ok, hf, h1, asAgg, Sem.run_pure, part, hoff, t1, Bool.false_eq_true, if_false, g3]
    · exact hp.elim
  · exact hp.elim
theorem wrap_inR {k : IntKind} {n : Int} (h : inR k n) : k.wrap n = n := by
  obtain ⟨h1, h2⟩ := h
  cases k <;> simp [IntKind.wrap, IntKind.min, IntKind.max, IntKind.signed, IntKind.bits] at h1 h2 ⊢ <;> omega
theorem ok_un (h : Rel G N ac w L st) {op : UnOp} {t : TypeId} {x : Operand} {y : Opd} (ho : o.op = .unOp op t x) (hc : chkOpd x y = true)
    {H : Handler} (hp : awpOp H o.dst (.un op y) st K) : QP P o ac w L st K := by
  simp only [awpOp] at hp
  split at hp
  · rename_i b hy
    have h1 := Imm_bool (ev_d h hc hy)
    refine quiet_step (c := .bool !b) ?_ (by simp only [VRel, Imm]) hp
    intro w'; simp only [execOp, ho]
    exact run_v _ (by simp only [h1, Op.unary]; rfl)
  · rename_i k n hy
    have h1 := Imm_int (ev_d h hc hy)
    refine quiet_step (c := .int k (k.wrap (0 - n))) ?_ ?_ hp.2
    · intro w'; simp only [execOp, ho]
      exact run_v _ (by simp only [h1, Op.unary, Op.intArith]; rfl)
    · simp only [VRel, Imm, wrap_inR hp.1]
  · exact hp.elim
theorem ok_toInt (h : Rel G N ac w L st) {a b : TypeId} {d : TypeDesc} {k : IntKind} {x : Operand} {y : Opd} (ho : o.op = .convert a b x) (hc : chkOpd x y = true)
    (ha : P.underlying a = some d) (hb : P.underlying b = some (.int k)) {H : Handler} (hp : awpOp H o.dst (.toInt k y) st K) : QP P o ac w L st K := by
  simp only [awpOp] at hp
  split at hp
  · rename_i k' n hy
    have h1 := Imm_int (ev_d h hc hy)
    refine quiet_step (c := .int k (k.wrap n)) ?_ (by simp only [VRel, Imm]) hp
    intro w'
    simp only [execOp, ho]
    refine run_v _ ?_
    simp only [convert, Sem.run_bind, run_underlying ha, run_underlying hb, Result.andThen_ok, h1]
    cases d <;> rfl
  · exact hp.elim
theorem ok_nilck (h : Rel G N ac w L st) {x : Operand} {y : Opd} (ho : o.op = .nilCheck x) (hc : chkOpd x y = true)
    {H : Handler} (hp : awpOp H o.dst (.nilck y) st K) : QP P o ac w L st K := by
  have hx := h.ev hc
  simp only [awpOp] at hp
  split at hp
  · rename_i b off hy
    rw [hy] at hx
    have hx' := hx
    simp only [VRel] at hx
    refine quiet_step (c := ac.eval x) ?_ hx' (by rw [hy] at hp; exact hp)
    intro w'; simp only [execOp, ho, hx]; rfl
  · rename_i a p i j hy
    rw [hy] at hx
    have hx' := hx
    simp only [VRel] at hx
    obtain ⟨b, o', h1, _⟩ := hx
    refine quiet_step (c := ac.eval x) ?_ hx' (by rw [hy] at hp; exact hp)
    intro w'; simp only [execOp, ho, h1]; rfl
  · rename_i cs hy
    rw [hy] at hx
    have hx' := hx
    simp only [VRel] at hx
    obtain ⟨b, o', h1, _⟩ := hx
    refine quiet_step (c := ac.eval x) ?_ hx' (by rw [hy] at hp; exact hp)
    intro w'; simp only [execOp, ho, h1]; rfl
  · rename_i f vs hy
    rw [hy] at hx
    have hx' := hx
    simp only [VRel] at hx
    obtain ⟨cs, h1, _⟩ := hx
    refine quiet_step (c := ac.eval x) ?_ hx' (by rw [hy] at hp; exact hp)
    intro w'; simp only [execOp, ho, h1]; rfl
  · exact hp.elim
end
end Go.Vm
end
section
/- Arithmetic, comparisons, slicing. -/
namespace Go.Vm
section
variable {P : Program} {o : Oper} {N : Nat} {G : Ghost} {ac : Act} {w : World} {L : Lay} {st : St} {K : St → Prop} {Q : Exit → Act → World → Prop}
theorem toList_bytes (s : List UInt8) : (ByteArray.mk s.toArray).toList = s := by rw [ByteArray.toList_eq]
theorem exec_bin {op : BinOp} {t u : TypeId} {x y : Operand} (ho : o.op = .binOp op t x y u) (ρ : Operand → Value) {a b : Value} (ha : ρ x = a) (hb : ρ y = b)
    (hg : (eqGuard op t x y a b).run P w = .ok () w) {c : Value} (hr : (binOp op t a b).run P w = .ok c w) : (execOp ρ o).run P w = .ok (.value c) w := by
  simp only [execOp, ho]
  refine run_v _ ?_
  simp only [ha, hb, Sem.run_bind, hg, Result.andThen_ok, hr]
theorem guard_int {op : BinOp} {t : TypeId} {x y : Operand} {k k' : IntKind} {a b : Int} : (eqGuard op t x y (.int k a) (.int k' b)).run P w = .ok () w := by
  unfold eqGuard; split <;> rfl
theorem guard_str {op : BinOp} {t : TypeId} {x y : Operand} {a b : ByteArray} : (eqGuard op t x y (.string a) (.string b)).run P w = .ok () w := by
  unfold eqGuard; split <;> rfl
theorem guard_bool {op : BinOp} {t : TypeId} {x y : Operand} {a b : Bool} : (eqGuard op t x y (.bool a) (.bool b)).run P w = .ok () w := by
  unfold eqGuard; split <;> rfl
theorem guard_slice {op : BinOp} {t : TypeId} {x y : Operand} {a b : Option Addr} {n m c d : Nat} : (eqGuard op t x y (.slice a n c) (.slice b m d)).run P w = .ok () w := by
  unfold eqGuard; split <;> rfl
theorem equal_bool {t : TypeId} (hu : P.underlying t = some .bool) {a b : Bool} : (Op.equal t (.bool a) (.bool b)).run P w = .ok (a == b) w := by
  show (Op.equalIn (9999 + 1) t (.bool a) (.bool b)).run P w = _
  rw [Op.equalIn]
  simp only [Sem.run_bind, run_underlying hu, Result.andThen_ok]
  rfl
theorem ok_bin (h : Rel G N ac w L st) {op : BinOp} {t u : TypeId} {x y : Operand} {x' y' : Opd} {chk : Bool} (ho : o.op = .binOp op t x y u) (hx : chkOpd x x' = true) (hy : chkOpd y y' = true)
    {H : Handler} (hp : awpOp H o.dst (.bin chk op x' y') st K) : QP P o ac w L st K := by
  simp only [awpOp] at hp
  unfold binV at hp
  split at hp
  · rename_i k a k' b e1 e2
    have h1 := Imm_int (ev_d h hx e1)
    have h2 := Imm_int (ev_d h hy e2)
    obtain ⟨hk, hp⟩ := hp
    subst hk
    have fin : ∀ {c : Value} {v : V}, (∀ w', (binOp op t (.int k a) (.int k b)).run P w' = .ok c w') → VRel (envOf w L st) c v → K (st.put o.dst v) → QP P o ac w L st K :=
      fun hr hv hk => quiet_step (fun w' => exec_bin ho ac.eval h1 h2 guard_int (hr w')) hv hk
    have fw : ∀ {n : Int} {v : V}, (∀ w', (binOp op t (.int k a) (.int k b)).run P w' = .ok (.int k (k.wrap n)) w') → inR k n ∧ K (st.put o.dst (.d (.int k n))) → QP P o ac w L st K :=
      fun hr hk => fin hr (by simp only [VRel, Imm, wrap_inR hk.1]) hk.2
    split at hp
    · split at hp
      · exact fw (v := .bot) (by simp [binOp, Op.intArith]) hp
      · exact fin (by simp [binOp, Op.intArith]; rfl) (by simp only [VRel, Imm]) hp
    · split at hp
      · exact fw (v := .bot) (by simp [binOp, Op.intArith]) hp
      · exact fin (by simp [binOp, Op.intArith]; rfl) (by simp only [VRel, Imm]) hp
    · split at hp
      · exact fw (v := .bot) (by simp [binOp, Op.intArith]) hp
      · exact fin (by simp [binOp, Op.intArith]; rfl) (by simp only [VRel, Imm]) hp
    · obtain ⟨g1, g2, g3⟩ := hp
      refine fw (v := .bot) ?_ g3
      have : ¬ b = 0 := by omega
      simp [binOp, Op.intDiv, this, Int.tdiv_eq_ediv_of_nonneg g1]
    · obtain ⟨g1, g2, g3⟩ := hp
      refine fin (c := .int k (a % b)) ?_ (by simp only [VRel, Imm]) g3
      have : ¬ b = 0 := by omega
      simp [binOp, Op.intDiv, this, Int.tmod_eq_emod_of_nonneg g1]
    · exact fin (c := .bool (decide (a = b))) (by simp [binOp, Op.intCmp]; rfl) (by simp only [VRel, Imm]) (hp _ rfl)
    · exact fin (c := .bool (decide (a ≠ b))) (by simp [binOp, Op.intCmp]; by_cases hab : a = b <;> simp [hab]) (by simp only [VRel, Imm]) (hp _ rfl)
    · exact fin (c := .bool (decide (a < b))) (by simp [binOp, Op.intCmp]) (by simp only [VRel, Imm]) (hp _ rfl)
    · exact fin (c := .bool (decide (a ≤ b))) (by simp [binOp, Op.intCmp]) (by simp only [VRel, Imm]) (hp _ rfl)
    · exact fin (c := .bool (decide (b < a))) (by simp [binOp, Op.intCmp]) (by simp only [VRel, Imm]) (hp _ rfl)
    · exact fin (c := .bool (decide (b ≤ a))) (by simp [binOp, Op.intCmp]) (by simp only [VRel, Imm]) (hp _ rfl)
    · exact fin (c := .int k (k.wrap (BitVec.ofInt k.bits a &&& BitVec.ofInt k.bits b).toNat)) (fun w' => by simp only [binOp, ne_eq, not_true_eq_false, if_false, Op.intBits, Sem.run_pure]) (by simp only [VRel, Imm]) hp
    · exact fin (c := .int k (k.wrap (BitVec.ofInt k.bits a ||| BitVec.ofInt k.bits b).toNat)) (fun w' => by simp only [binOp, ne_eq, not_true_eq_false, if_false, Op.intBits, Sem.run_pure]) (by simp only [VRel, Imm]) hp
    · exact fin (c := .int k (k.wrap (BitVec.ofInt k.bits a ^^^ BitVec.ofInt k.bits b).toNat)) (fun w' => by simp only [binOp, ne_eq, not_true_eq_false, if_false, Op.intBits, Sem.run_pure]) (by simp only [VRel, Imm]) hp
    · exact fin (c := .int k (k.wrap (BitVec.ofInt k.bits a &&& ~~~BitVec.ofInt k.bits b).toNat)) (fun w' => by simp only [binOp, ne_eq, not_true_eq_false, if_false, Op.intBits, Sem.run_pure]) (by simp only [VRel, Imm]) hp
    · exact hp.elim
  · rename_i a b e1 e2
    have h1 := Imm_str (ev_d h hx e1)
    have h2 := Imm_str (ev_d h hy e2)
    have fin : ∀ {c : Value} {v : V}, (∀ w', (binOp op t (bytesVal a) (bytesVal b)).run P w' = .ok c w') → VRel (envOf w L st) c v → K (st.put o.dst v) → QP P o ac w L st K :=
      fun hr hv hk => quiet_step (fun w' => exec_bin ho ac.eval h1 h2 guard_str (hr w')) hv hk
    split at hp
    · refine fin (c := bytesVal (a ++ b)) ?_ (by simp only [VRel, Imm]) hp.2
      have hl := hp.1
      have hs : ¬ ((((ByteArray.mk a.toArray).size + (ByteArray.mk b.toArray).size : Nat) : Int) > IntKind.i64.max) := by
        simp [ByteArray.size, IntKind.max, IntKind.signed, IntKind.bits]; omega
      intro w'
      simp only [bytesVal, binOp, Op.stringOp, hs, if_false, Sem.run_pure]
      congr 2
    · refine fin (c := .bool (decide (a = b))) ?_ (by simp only [VRel, Imm]) (hp _ rfl)
      intro w'
      simp only [bytesVal, binOp, Op.stringOp, toList_bytes, Sem.run_pure]
      by_cases hab : a = b <;> simp [hab]
    · refine fin (c := .bool (decide (a ≠ b))) ?_ (by simp only [VRel, Imm]) (hp _ rfl)
      intro w'
      simp only [bytesVal, binOp, Op.stringOp, toList_bytes, Sem.run_pure]
      by_cases hab : a = b <;> simp [hab]
    · refine fin (c := .bool (Op.bytesLess a b)) ?_ (by simp only [VRel, Imm]) (hp _ rfl)
      intro w'
      simp only [bytesVal, binOp, Op.stringOp, toList_bytes, Sem.run_pure]
    · refine fin (c := .bool (Op.bytesLess a b || a == b)) ?_ (by simp only [VRel, Imm]) (hp _ rfl)
      intro w'
      simp only [bytesVal, binOp, Op.stringOp, toList_bytes, Sem.run_pure]
    · refine fin (c := .bool !(Op.bytesLess a b || a == b)) ?_ (by simp only [VRel, Imm]) (hp _ rfl)
      intro w'
      simp only [bytesVal, binOp, Op.stringOp, toList_bytes, Sem.run_pure]
    · refine fin (c := .bool !Op.bytesLess a b) ?_ (by simp only [VRel, Imm]) (hp _ rfl)
      intro w'
      simp only [bytesVal, binOp, Op.stringOp, toList_bytes, Sem.run_pure]
    · exact hp.elim
  · exact hp.elim

theorem ok_beq (h : Rel G N ac w L st) {neg : Bool} {t u : TypeId} {x y : Operand} {x' y' : Opd} (ho : o.op = .binOp (if neg then .neq else .eql) t x y u) (hx : chkOpd x x' = true) (hy : chkOpd y y' = true)
    (hu : P.underlying t = some .bool) {H : Handler} (hp : awpOp H o.dst (.beq neg x' y') st K) : QP P o ac w L st K := by
  simp only [awpOp] at hp
  split at hp
  · rename_i a b e1 e2
    have h1 := Imm_bool (ev_d h hx e1)
    have h2 := Imm_bool (ev_d h hy e2)
    refine quiet_step (c := .bool ((a == b) != neg)) (fun w' => exec_bin ho ac.eval h1 h2 guard_bool ?_) (by simp only [VRel, Imm]) (hp _ rfl)
    cases neg with
    | true =>
      show (do pure (Value.bool (!(← Op.equal t (.bool a) (.bool b)))) : Sem Value).run P w' = _
      simp only [Sem.run_bind, equal_bool hu, Result.andThen_ok, Sem.run_pure]; simp
    | false =>
      show (do pure (Value.bool (← Op.equal t (.bool a) (.bool b))) : Sem Value).run P w' = _
      simp only [Sem.run_bind, equal_bool hu, Result.andThen_ok, Sem.run_pure]; simp
  · exact hp.elim
theorem ok_sh (h : Rel G N ac w L st) {left : Bool} {t u : TypeId} {x y : Operand} {x' y' : Opd} (ho : o.op = .binOp (if left then .shl else .shr) t x y u) (hx : chkOpd x x' = true) (hy : chkOpd y y' = true)
    {H : Handler} (hp : awpOp H o.dst (.sh left x' y') st K) : QP P o ac w L st K := by
  simp only [awpOp] at hp
  split at hp
  · rename_i k a k' b e1 e2
    have h1 := Imm_int (ev_d h hx e1)
    have h2 := Imm_int (ev_d h hy e2)
    refine quiet_step (fun w' => exec_bin ho ac.eval h1 h2 guard_int ?_) (by simp only [VRel, Imm]; rfl) hp.2
    have hb : ¬ b < 0 := by omega
    cases left with
    | true => simp [binOp, Op.shift, hb]
    | false => simp [binOp, Op.shift, hb]
  · exact hp.elim

theorem equal_slice_nil {t e : TypeId} (hu : P.underlying t = some (.slice e)) {ad : Option Addr} {n c : Nat} : (Op.equal t (.slice ad n c) (.slice none 0 0)).run P w = .ok ad.isNone w := by
  show (Op.equalIn (9999 + 1) t (.slice ad n c) (.slice none 0 0)).run P w = _
  rw [Op.equalIn]
  simp only [Sem.run_bind, run_underlying hu, Result.andThen_ok]
  cases ad <;> rfl
/-- 'x == nil' or 'x != nil' on a slice. -/
theorem ok_isnil (h : Rel G N ac w L st) {neg : Bool} {t u e : TypeId} {x : Operand} {x' : Opd}
    (ho : o.op = .binOp (if neg then .neq else .eql) t x (.const (.slice none 0 0)) u) (hx : chkOpd x x' = true)
    (ht : P.underlying t = some (.slice e)) {H : Handler} (hp : awpOp H o.dst (.isnil neg x') st K) : QP P o ac w L st K := by
  have hr := h.ev hx
  have run : ∀ ad n cap, ac.eval x = .slice ad n cap → ∀ w', (execOp ac.eval o).run P w' = .ok (.value (.bool (ad.isNone != neg))) w' := by
    intro ad n cap he w'
    refine exec_bin ho ac.eval he rfl guard_slice ?_
    cases neg with
    | true =>
      show (do pure (Value.bool (!(← Op.equal t (.slice ad n cap) (.slice none 0 0)))) : Sem Value).run P _ = _
      simp only [Sem.run_bind, equal_slice_nil ht, Result.andThen_ok, Sem.run_pure]; simp
    | false =>
      show (do pure (Value.bool (← Op.equal t (.slice ad n cap) (.slice none 0 0))) : Sem Value).run P _ = _
      simp only [Sem.run_bind, equal_slice_nil ht, Result.andThen_ok, Sem.run_pure]; simp
  simp only [awpOp] at hp
  split at hp
  · rename_i hy
    rw [hy] at hr; simp only [VRel] at hr
    refine quiet_step (run none 0 0 hr) (v := .d (.bool (!neg))) ?_ hp
    simp only [VRel, Imm]; cases neg <;> rfl
  · rename_i a p lo n hy
    rw [hy] at hr; simp only [VRel] at hr
    obtain ⟨⟨ad, cap, e1, e2, e3⟩, _⟩ := hr
    refine quiet_step (run ad _ cap e1) (v := .d (.bool (ad.isNone != neg))) (by simp only [VRel, Imm]) (hp _ fun hn => e3 ?_)
    cases ad with
    | none => rfl
    | some _ => cases hn
  · rename_i rows hy
    have h1 := ev_d h hx hy
    simp only [Imm] at h1
    obtain ⟨ad, cap, e1, e2, e3⟩ := h1
    refine quiet_step (run ad _ cap e1) (v := .d (.bool (ad.isNone != neg))) (by simp only [VRel, Imm]) (hp _ fun hn => ?_)
    rcases e3 with e3 | ⟨b, o', sz, e4, _⟩
    · exact List.length_eq_zero_iff.mp e3
    · rw [e4] at hn; cases hn
  · exact hp.elim
theorem ok_mkfn (h : Rel G N ac w L st) {f : FuncId} {caps : Array Operand} {caps' : List Opd} (ho : o.op = .makeFunc (.func f) #[] caps)
    (hc : ∀ (i : Nat) (x : Operand) (y : Opd), caps[i]? = some x → caps'[i]? = some y → chkOpd x y = true) (hl : caps.size = caps'.length)
    {H : Handler} (hp : awpOp H o.dst (.mkfn f caps') st K) : QP P o ac w L st K := by
  refine quiet_step (c := .func (.func f) #[] (caps.map ac.eval)) ?_ ?_ hp
  · intro w'; simp only [execOp, ho]
    exact run_v _ (by simp [Instr.makeFunc])
  · simp only [VRel]
    refine ⟨_, rfl, VRelL.of_get (by simp [hl]) ?_⟩
    intro j c v h1 h2
    simp only [Array.toList_map, List.getElem?_map] at h1 h2
    cases hx : caps.toList[j]? with
    | none => simp [hx] at h1
    | some x =>
      cases hy : caps'[j]? with
      | none => simp [hy] at h2
      | some y =>
        simp only [hx, hy, Option.map_some, Option.some.injEq] at h1 h2
        subst h1; subst h2
        exact h.ev (hc j x y (by simpa using hx) hy)
def optOpd : Option Operand → Option Opd → Bool
  | none, none => true
  | some x, some y => chkOpd x y
  | _, _ => false
theorem run_bound (h : Rel G N ac w L st) {x : Operand} {y : Opd} (hc : chkOpd x y = true) {m : Nat} {code : BoundsCode} {K' : Nat → Prop} (hp : asNat (st.ev y) K') (hle : ∀ q, K' q → q ≤ m) :
    ∃ q, (∀ w', (Instr.sliceBound (ac.eval x) m code).run P w' = .ok q w') ∧ K' q := by
  unfold asNat at hp
  split at hp
  · rename_i k i hy
    have h1 := Imm_int (ev_d h hc hy)
    have h2 := hle _ hp.2
    refine ⟨i.toNat, ?_, hp.2⟩
    have h3 : 0 ≤ i ∧ i ≤ (m : Int) := ⟨hp.1, by omega⟩
    simp [Instr.sliceBound, h1, asIntOf, h3]
  · exact hp.elim
/-- The bounds of 'x[lo:hi]'. -/
theorem run_bounds (h : Rel G N ac w L st) {isSlice : Bool} {lo hi : Option Operand} {lo' hi' : Option Opd} (h1 : optOpd lo lo' = true) (h2 : optOpd hi hi' = true) {len cap : Nat} (hlc : len ≤ cap)
    {K' : Nat → Nat → Prop} (hp : oNat st lo' 0 fun l => oNat st hi' len fun q => K' l q) (hle : ∀ l q, K' l q → l ≤ q ∧ q ≤ len) :
    ∃ l q, (∀ w', (Instr.sliceBounds isSlice len cap (lo.map ac.eval) (hi.map ac.eval) none).run P w' = .ok (l, q, cap) w') ∧ K' l q := by
  have hhi : ∀ l, oNat st hi' len (fun q => K' l q) → ∃ q, K' l q ∧ ((hi = none ∧ q = len) ∨ ∃ x, hi = some x ∧ ∀ w', (Instr.sliceBound (ac.eval x) cap (if isSlice then .sliceAcap else .sliceAlen)).run P w' = .ok q w') := by
    intro l hq
    cases hi with
    | none =>
      cases hi' with
      | none => exact ⟨len, hq, .inl ⟨rfl, rfl⟩⟩
      | some _ => simp [optOpd] at h2
    | some x =>
      cases hi' with
      | none => simp [optOpd] at h2
      | some y =>
        obtain ⟨q, g1, g2⟩ := run_bound (P := P) h (code := if isSlice then .sliceAcap else .sliceAlen) (m := cap) h2 hq (fun q hk => by have := hle l q hk; omega)
        exact ⟨q, g2, .inr ⟨x, rfl, g1⟩⟩
  cases lo with
  | none =>
    cases lo' with
    | some _ => simp [optOpd] at h1
    | none =>
      obtain ⟨q, g1, g2⟩ := hhi 0 hp
      refine ⟨0, q, ?_, g1⟩
      rcases g2 with ⟨rfl, rfl⟩ | ⟨x, rfl, g2⟩
      · simp [Instr.sliceBounds]
      · simp [Instr.sliceBounds, g2]
  | some x =>
    cases lo' with
    | none => simp [optOpd] at h1
    | some y =>
      have hp' : asNat (st.ev y) fun l => oNat st hi' len fun q => K' l q := hp
      unfold asNat at hp'
      split at hp'
      · rename_i k i hy
        obtain ⟨q, g1, g2⟩ := hhi _ hp'.2
        have e1 := Imm_int (ev_d h h1 hy)
        have e2 := hle _ _ g1
        refine ⟨i.toNat, q, ?_, g1⟩
        have e3 : 0 ≤ i ∧ i ≤ (q : Int) := ⟨hp'.1, by omega⟩
        have e4 : ∀ c w', (Instr.sliceBound (ac.eval x) q c).run P w' = .ok i.toNat w' := by
          intro c w'; simp [Instr.sliceBound, e1, asIntOf, e3]
        rcases g2 with ⟨rfl, rfl⟩ | ⟨x, rfl, g2⟩
        · simp [Instr.sliceBounds, e4]
        · simp [Instr.sliceBounds, g2, e4]
      · exact hp'.elim
theorem ok_subs (h : Rel G N ac w L st) {t : TypeId} {x : Operand} {y : Opd} {lo hi : Option Operand} {lo' hi' : Option Opd} (ho : o.op = .slice t x lo hi none)
    (hc : chkOpd x y = true) (h1 : optOpd lo lo' = true) (h2 : optOpd hi hi' = true) (ht : P.underlying t = some .string)
    {H : Handler} (hp : awpOp H o.dst (.subs y lo' hi') st K) : QP P o ac w L st K := by
  simp only [awpOp] at hp
  split at hp
  · rename_i s hy
    have e1 := Imm_str (ev_d h hc hy)
    obtain ⟨l, q, g1, g2, g3, g4⟩ := run_bounds (P := P) (isSlice := false) h h1 h2 (Nat.le_refl s.length) hp (fun l q hk => ⟨hk.1, hk.2.1⟩)
    refine quiet_step (c := bytesVal ((s.take q).drop l)) ?_ (by simp only [VRel, Imm]) g4
    intro w'
    simp only [execOp, ho]
    refine run_v _ ?_
    have hsz : (ByteArray.mk s.toArray).size = s.length := by simp [ByteArray.size]
    have hns : (match TypeDesc.string with | .array n e => (do let a ← Instr.sureAddr (ac.eval x); let (l, h, m) ← Instr.sliceBounds false n n (lo.map ac.eval) (hi.map ac.eval) none; let size ← sizeOf e; pure (.slice (some (if m = l then a else a.add (l * size))) (h - l) (m - l)) : Sem Value) | _ => Instr.slice t (ac.eval x) (lo.map ac.eval) (hi.map ac.eval) none) = Instr.slice t (ac.eval x) (lo.map ac.eval) (hi.map ac.eval) none := rfl
    simp only [Instr.sliceAt, Sem.run_bind, run_underlying ht, Result.andThen_ok, Option.map_none]
    simp only [Instr.slice, Sem.run_bind, run_underlying ht, Result.andThen_ok, e1, bytesVal, Option.isSome_none, Bool.false_eq_true, if_false, Sem.run_pure, hsz, g1]
    congr 2
    apply ByteArray.ext
    simp [List.extract_eq_take_drop, List.drop_take]
  · exact hp.elim

theorem run_slice {t e : TypeId} {ti : TypeInfo} (ht : P.underlying t = some (.slice e)) (he : P.info? e = some ti) {ad : Option Addr} {len cap : Nat} {lo hi : Option Value} {l q : Nat}
    (hb : (Instr.sliceBounds true len cap lo hi none).run P w = .ok (l, q, cap) w) :
    (Instr.sliceAt t (.slice ad len cap) lo hi none).run P w = .ok (.slice (if cap = l then ad else ad.map (·.add (l * ti.size))) (q - l) (cap - l)) w := by
  simp only [Instr.sliceAt, Sem.run_bind, run_underlying ht, Result.andThen_ok]
  simp only [Instr.slice, Sem.run_bind, run_underlying ht, Result.andThen_ok, hb, run_sizeOf he, Sem.run_pure]
theorem ok_sub (h : Rel G N ac w L st) {t e : TypeId} {ti : TypeInfo} {x : Operand} {y : Opd} {lo hi : Option Operand} {lo' hi' : Option Opd} (ho : o.op = .slice t x lo hi none)
    (hc : chkOpd x y = true) (h1 : optOpd lo lo' = true) (h2 : optOpd hi hi' = true) (ht : P.underlying t = some (.slice e)) (he : P.info? e = some ti)
    {H : Handler} (hp : awpOp H o.dst (.sub ti.size y lo' hi') st K) : QP P o ac w L st K := by
  have hr := h.ev hc
  have run : ∀ {ad n cap l q}, ac.eval x = .slice ad n cap → (∀ w', (Instr.sliceBounds true n cap (lo.map ac.eval) (hi.map ac.eval) none).run P w' = .ok (l, q, cap) w') →
      ∀ w', (execOp ac.eval o).run P w' = .ok (.value (.slice (if cap = l then ad else ad.map (·.add (l * ti.size))) (q - l) (cap - l))) w' := by
    intro ad n cap l q e1 e2 w'
    simp only [execOp, ho]
    refine run_v _ ?_
    rw [e1]
    exact run_slice ht he (e2 w')
  simp only [awpOp] at hp
  split at hp
  · rename_i rows hy
    have e1 := ev_d h hc hy
    simp only [Imm] at e1
    obtain ⟨ad, cap, e1, e2, e3⟩ := e1
    obtain ⟨l, q, g1, g2, g3, g4, g5⟩ := run_bounds (P := P) (isSlice := true) h h1 h2 e2 hp (fun l q hk => ⟨hk.1, hk.2.1⟩)
    refine quiet_step (run e1 g1) ?_ g5
    simp only [VRel, Imm, envOf]
    have hlen : ((rows.take q).drop l).length = q - l := by simp; omega
    refine ⟨_, _, by rw [hlen], by omega, ?_⟩
    rcases e3 with e3 | ⟨b, o', sz, e4, e5, e6⟩
    · left; omega
    · by_cases hz : q - l = 0
      · left; omega
      · right
        have hcl : ¬ cap = l := by omega
        have hsz : sz = ti.size := by
          obtain ⟨r, hr0⟩ : ∃ r, rows[0]? = some r := ⟨rows[0]'(by omega), by simp⟩
          have := (e6.get 0 rows o' r hr0).1
          rw [← this]; exact g4 r (List.mem_of_getElem? hr0)
        subst e4
        refine ⟨b, o' + l * ti.size, sz, by simp [hcl, add_mk], e5, ?_⟩
        rw [← hsz]
        have := (e6.take q).drop l
        simpa using this
  · rename_i a p b n hy
    rw [hy] at hr; simp only [VRel] at hr
    obtain ⟨⟨ad, cap, e1, e2, e3⟩, e4⟩ := hr
    obtain ⟨l, q, g1, g2, g3, g4, g5⟩ := run_bounds (P := P) (isSlice := true) h h1 h2 e2 hp (fun l q hk => ⟨hk.1, hk.2.1⟩)
    refine quiet_step (run e1 g1) ?_ g5
    simp only [VRel]
    refine ⟨⟨_, _, rfl, by omega, fun hn => ?_⟩, fun len hl => ?_⟩
    · by_cases hcl : cap = l
      · omega
      · simp only [hcl, if_false] at hn
        cases ad with
        | none => have := e3 rfl; omega
        | some _ => cases hn
    · obtain ⟨f1, ad', cap', f2, f3, f0, f4⟩ := e4 len hl
      rw [e1] at f2; cases f2
      refine ⟨by omega, _, _, rfl, by omega, fun h0 => by have := f0 h0; omega, ?_⟩
      by_cases hcl : cap = l
      · left; omega
      · right
        rcases f4 with f4 | ⟨s, f5, f6, f7⟩
        · omega
        · subst f6
          have hsz : l = 0 ∨ s.sz = ti.size := by
            by_cases hl0 : l = 0
            · exact .inl hl0
            · right
              simp only [envOf, St.lens] at hl
              cases hrow : st.rowAt a p with
              | none => rw [hrow] at hl; cases hl
              | some rows =>
                rw [hrow] at hl; simp at hl
                have hro := h.mem.row a p rows hrow
                unfold RowOK at hro
                have f5' : L.al a p = some s := f5
                rw [f5'] at hro; simp only [] at hro
                obtain ⟨cs, ty, fr, _, _, _, hcs⟩ := hro
                obtain ⟨r, hr0⟩ : ∃ r, rows[0]? = some r := ⟨rows[0]'(by omega), by simp⟩
                have := (hcs 0 r hr0).1
                rw [← this]; exact g4 rows hrow r (List.mem_of_getElem? hr0)
          refine ⟨s, f5, ?_, ?_⟩
          · simp only [hcl, if_false, Option.map_some, add_mk]
            rcases hsz with hsz | hsz
            · subst hsz; simp
            · rw [← hsz, Nat.add_mul]; simp; omega
          · have : l + b + (cap - l) = b + cap := by omega
            rw [this]; exact f7
  · rename_i hy
    rw [hy] at hr; simp only [VRel] at hr
    obtain ⟨l, q, g1, g2, g3, g4⟩ := run_bounds (P := P) (isSlice := true) h h1 h2 (Nat.le_refl 0) hp (fun l q hk => ⟨by omega, by omega⟩)
    subst g2; subst g3
    refine quiet_step (run hr g1) ?_ g4
    simp only [VRel]; rfl
  · exact hp.elim
end
end Go.Vm
end
section
/- Writing cells, laying new blocks: the memory's side. -/
namespace Go.Vm
def setAll (cs : Array Value) : Nat → List Value → Array Value
  | _, [] => cs
  | off, v :: vs => setAll (cs.setIfInBounds off v) (off + 1) vs
theorem setAll_size : ∀ (vs : List Value) (cs : Array Value) (off : Nat), (setAll cs off vs).size = cs.size
  | [], _, _ => rfl
  | v :: vs, cs, off => by simp [setAll, setAll_size vs]
theorem setAll_get : ∀ (vs : List Value) (cs : Array Value) (off k : Nat), off + vs.length ≤ cs.size →
    (setAll cs off vs)[k]? = if off ≤ k ∧ k < off + vs.length then vs[k - off]? else cs[k]?
  | [], cs, off, k, _ => by
    rw [if_neg (by intro hh; simp at hh; omega)]; rfl
  | v :: vs, cs, off, k, h => by
    simp only [List.length_cons] at h
    simp only [setAll]
    rw [setAll_get vs _ (off + 1) k (by simp; omega)]
    simp only [List.length_cons]
    by_cases h1 : off + 1 ≤ k ∧ k < off + 1 + vs.length
    · rw [if_pos h1, if_pos (by omega)]
      obtain ⟨j, rfl⟩ : ∃ j, k = off + 1 + j := ⟨k - (off + 1), by omega⟩
      rw [show off + 1 + j - (off + 1) = j by omega, show off + 1 + j - off = j + 1 by omega]; rfl
    · rw [if_neg h1]
      by_cases h2 : k = off
      · subst h2
        rw [if_pos (by omega), Array.getElem?_setIfInBounds_self_of_lt (by omega)]
        simp
      · rw [if_neg (by omega), Array.getElem?_setIfInBounds_ne (by omega)]
theorem setAll_toList (vs : List Value) (cs : Array Value) (off : Nat) (h : off + vs.length ≤ cs.size) :
    (setAll cs off vs).toList = cs.toList.take off ++ vs ++ cs.toList.drop (off + vs.length) := by
  apply List.ext_getElem?
  intro k
  rw [Array.getElem?_toList, setAll_get vs cs off k h, List.append_assoc, List.getElem?_append, List.getElem?_append]
  simp only [List.length_take, Array.length_toList, Nat.min_eq_left (show off ≤ cs.size by omega), List.getElem?_drop]
  by_cases h1 : k < off
  · rw [if_neg (by omega), if_pos h1, List.getElem?_take, if_pos h1, Array.getElem?_toList]
  · rw [if_neg h1]
    by_cases h2 : k < off + vs.length
    · rw [if_pos (by omega), if_pos (by omega)]
    · rw [if_neg (by omega), if_neg (by omega), Array.getElem?_toList]
      congr 1; omega
def setBlk (w : World) (b : Nat) (o : Obj) : World := { w with heap := w.heap.setIfInBounds b o }
theorem setBlk_get (w : World) (b : Nat) (o : Obj) (hb : b < w.heap.size) (k : Nat) : (setBlk w b o).heap[k]? = if k = b then some o else w.heap[k]? := by
  unfold setBlk
  by_cases h : k = b
  · subst h; simp [hb]
  · rw [if_neg h]; simp only; rw [Array.getElem?_setIfInBounds_ne (by omega)]
theorem setBlk_same (w : World) (b : Nat) (o : Obj) (h : w.heap[b]? = some o) : setBlk w b o = w := by
  have hb : b < w.heap.size := (Array.getElem?_eq_some_iff.mp h).1
  have : w.heap.setIfInBounds b o = w.heap := by
    apply Array.ext_getElem?
    intro k
    have := setBlk_get w b o hb k
    simp only [setBlk] at this
    rw [this]
    split
    · rename_i hk; subst hk; exact h.symm
    · rfl
  unfold setBlk; rw [this]
theorem lt_of_blk {w : World} {b : Nat} {o : Obj} (h : w.heap[b]? = some o) : b < w.heap.size := (Array.getElem?_eq_some_iff.mp h).1
theorem setCell_blk {w : World} {b off : Nat} {cs : Array Value} {ty : TypeId} {fr : Nat × Nat} (h : w.heap[b]? = some (.cells cs ty fr)) (v : Value) :
    w.setCell ⟨b, off, none⟩ v = setBlk w b (.cells (cs.setIfInBounds off v) ty fr) := by
  have hb := lt_of_blk h
  unfold World.setCell setBlk
  congr 1
  apply Array.ext_getElem?
  intro k
  rw [Array.getElem?_modify]
  have := setBlk_get w b (.cells (cs.setIfInBounds off v) ty fr) hb k
  simp only [setBlk] at this
  rw [this]
  by_cases hk : b = k
  · subst hk; simp [h]
  · rw [if_neg hk, if_neg (Ne.symm hk)]
theorem run_storeCells {P : Program} {b : Nat} {ty : TypeId} {fr : Nat × Nat} : ∀ (vs : List Value) (w : World) (off i : Nat) (cs : Array Value), w.heap[b]? = some (.cells cs ty fr) → Unfrozen cs.size fr →
    (∀ v ∈ vs, v.oneCell' = true) → off + i + vs.length ≤ cs.size →
    (storeCells ⟨b, off, none⟩ vs i).run P w = .ok () (setBlk w b (.cells (setAll cs (off + i) vs) ty fr))
  | [], w, off, i, cs, h, _, _, _ => by
    simp only [storeCells, Sem.run_pure, setAll, setBlk_same w b _ h]
  | v :: vs, w, off, i, cs, h, hu, hv, hle => by
    simp only [List.length_cons] at hle
    have hc : w.cell? ⟨b, off + i, none⟩ = some cs[off + i] := by rw [cell_of h]; simp [show off + i < cs.size by omega]
    have hf := frozen_of h hu (show off + i < cs.size by omega)
    have h1 : (store (Addr.add ⟨b, off, none⟩ i) v).run P w = .ok () (w.setCell ⟨b, off + i, none⟩ v) := by
      rw [run_store P w _ v .plain (hv v (by simp)), add_mk, hc]
      simp only [hf, Bool.false_eq_true, if_false]
    have hb := lt_of_blk h
    have h2 : (w.setCell ⟨b, off + i, none⟩ v).heap[b]? = some (.cells (cs.setIfInBounds (off + i) v) ty fr) := by
      rw [setCell_blk h, setBlk_get w b _ hb, if_pos rfl]
    have ih := run_storeCells (P := P) vs (w.setCell ⟨b, off + i, none⟩ v) off (i + 1) _ h2 (by simpa using hu) (fun x hx => hv x (by simp [hx])) (by simp; omega)
    simp only [storeCells, Sem.run_bind, h1, Result.andThen_ok, ih]
    congr 1
    rw [setCell_blk h]
    unfold setBlk
    simp only [setAll, Array.setIfInBounds_setIfInBounds, Nat.add_assoc]
/-- A block of the state's own is written: all else stands. -/
theorem envOf_w (w w' : World) (L : Lay) (st : St) (h : ∀ b, L.I b → w'.heap[b]? = w.heap[b]?) : Move (fun _ => false) (envOf w L st) (envOf w' L st) :=
  ⟨⟨h, fun _ hb => hb⟩, fun _ _ _ => rfl, fun _ _ _ _ _ len' hl => ⟨len', hl, Nat.le_refl _, rfl⟩, fun _ _ _ _ _ len' hl => ⟨len', hl, Nat.le_refl _, rfl⟩⟩
/-- The values of a value's cells. -/
theorem cells_rel {E : Env} {c : Value} {v : V} (h : VRel E c v) (hc : v.cells.all V.isCell = true) : VRelL E c.cells.toList v.cells ∧ ∀ x ∈ c.cells.toList, x.oneCell' = true := by
  have one : ∀ (v : V) (c : Value), v.isCell = true → VRel E c v → c.oneCell' = true := by
    intro v c hv hr
    cases v with
    | bot => simp [V.isCell] at hv
    | agg _ => simp [V.isCell] at hv
    | tup _ => simp [V.isCell] at hv
    | d x =>
      simp only [VRel] at hr
      cases x with
      | int k n => simp only [Imm] at hr; subst hr; rfl
      | bool b => simp only [Imm] at hr; subst hr; rfl
      | str s => simp only [Imm] at hr; subst hr; rfl
      | sl r => simp only [Imm] at hr; obtain ⟨ad, cap, e, _⟩ := hr; subst e; rfl
      | gone => simp [V.isCell] at hv
    | nilsl => simp only [VRel] at hr; subst hr; rfl
    | ref a p lo n => simp only [VRel] at hr; obtain ⟨⟨ad, cap, e, _⟩, _⟩ := hr; subst e; rfl
    | bptr b off => simp only [VRel] at hr; subst hr; rfl
    | aptr a p i j => simp only [VRel] at hr; obtain ⟨b, o, e, _⟩ := hr; subst e; rfl
    | iptr cs => simp only [VRel] at hr; obtain ⟨b, o, e, _⟩ := hr; subst e; rfl
    | nilptr => simp only [VRel] at hr; rcases hr with e | e | e <;> subst e <;> rfl
    | clos f vs => simp only [VRel] at hr; obtain ⟨cs, e, _⟩ := hr; subst e; rfl
  have single : ∀ (v : V) (c : Value), v.isCell = true → VRel E c v → VRelL E c.cells.toList [v] ∧ ∀ x ∈ c.cells.toList, x.oneCell' = true := by
    intro v c hv hr
    have h1 := one v c hv hr
    have h2 : c.cells = #[c] := by cases c <;> first | rfl | (simp [Value.oneCell'] at h1)
    rw [h2]
    refine ⟨by simp only [VRelL]; exact ⟨hr, trivial⟩, fun x hx => ?_⟩
    simp at hx; subst hx; exact h1
  have many : ∀ (vs : List V) (cs : List Value), vs.all V.isCell = true → VRelL E cs vs → ∀ x ∈ cs, x.oneCell' = true := by
    intro vs
    induction vs with
    | nil => intro cs _ hr x hx; cases cs with
      | nil => cases hx
      | cons _ _ => simp only [VRelL] at hr
    | cons v vs ih =>
      intro cs hv hr x hx
      cases cs with
      | nil => cases hx
      | cons c cs =>
        simp only [VRelL] at hr
        simp only [List.all_cons, Bool.and_eq_true] at hv
        rcases List.mem_cons.mp hx with e | e
        · subst e; exact one v _ hv.1 hr.1
        · exact ih cs hv.2 hr.2 x e
  cases v with
  | agg vs =>
    simp only [VRel] at h
    obtain ⟨cs, e, hr⟩ := h
    subst e
    exact ⟨hr, many vs _ hc hr⟩
  | _ => exact single _ c (by simpa [V.cells] using hc) h
end Go.Vm
end
section
/- Boxes: laid, read, written. -/
namespace Go.Vm
theorem beq_false {j k : Nat} (h : j ≠ k) : Nat.beq j k = false := by
  cases hb : Nat.beq j k with
  | false => rfl
  | true => exact absurd (Nat.eq_of_beq_eq_true hb) h
theorem upd_same {α : Type} (m : Nat → α) (k : Nat) (x : α) : upd m k x k = x := by simp [upd]
theorem upd_ne {α : Type} (m : Nat → α) {k j : Nat} (x : α) (h : j ≠ k) : upd m k x j = m j := by simp [upd, beq_false h]
theorem Mem.owns_lt {G : Ghost} {w : World} {L : Lay} {st : St} (h : Mem G w L st) {b : Nat} (ho : Owns L st b) : b < w.heap.size := by
  rcases ho with ⟨k, vs, h1, h2⟩ | ⟨a, p, r, s, h1, h2, h3⟩
  · obtain ⟨cs, ty, fr, h4, _⟩ := h.box k vs h1
    subst h2; exact lt_of_blk h4
  · have := h.row a p r h1
    unfold RowOK at this
    rw [h2] at this
    obtain ⟨cs, ty, fr, h4, _⟩ := this
    subst h3; exact lt_of_blk h4
@[simp] theorem kill_as (st : St) (q : V → Bool) : (st.kill q).as = st.as := rfl
theorem rowAt_congr {st st' : St} (h : st'.as = st.as) (a : Nat) (p : Path) : st'.rowAt a p = st.rowAt a p := by unfold St.rowAt; rw [h]
theorem lens_congr {st st' : St} (h : st'.as = st.as) : st'.lens = st.lens := by funext a p; unfold St.lens; rw [rowAt_congr h]
theorem push_old (w : World) (o : Obj) {b : Nat} (h : b < w.heap.size) : (w.alloc o).heap[b]? = w.heap[b]? := by
  simp only [World.alloc, Array.getElem?_push]; rw [if_neg (by omega)]
theorem push_new (w : World) (o : Obj) : (w.alloc o).heap[w.heap.size]? = some o := by
  show (w.heap.push o)[w.heap.size]? = _
  simp
section
variable {P : Program} {o : Oper} {N : Nat} {G : Ghost} {ac : Act} {w : World} {L : Lay} {st : St} {K : St → Prop} {Q : Exit → Act → World → Prop}
/-- A new block becomes the box b. -/
theorem Rel.newBox (h : Rel G N ac w L st) (b : Nat) (hb : b < N) {c : Value} {v : V} (hv : VRel (envOf w L st) c v) (hc : v.cells.all V.isCell = true) (ty : TypeId) :
    Rel G N ac (w.alloc (.cells c.cells ty)) { L with bl := upd L.bl b w.heap.size } ((st.kill (V.isB b)).setB b (some (V.killL (V.isB b) v.cells))) := by
  obtain ⟨hcell, _⟩ := cells_rel hv hc
  have hm := h.mem
  have hmove : Move (V.isB b) (envOf w L st) (envOf (w.alloc (.cells c.cells ty)) { L with bl := upd L.bl b w.heap.size } ((st.kill (V.isB b)).setB b (some (V.killL (V.isB b) v.cells)))) := by
    refine ⟨⟨fun b' hb' => push_old w _ (hm.ilt b' hb'), fun _ hb' => hb'⟩, ?_, ?_, ?_⟩
    · intro b' off hq
      simp only [V.isB, beq_eq_false_iff_ne, ne_eq] at hq
      exact upd_ne _ _ hq
    · intro a p lo n _ len' hl
      exact ⟨len', hl, Nat.le_refl _, rfl⟩
    · intro a p i j _ len' hl
      exact ⟨len', hl, Nat.le_refl _, rfl⟩
  have old : ∀ k vs, st.bs k = some vs → L.bl k < w.heap.size := fun k vs hk => hm.owns_lt (.inl ⟨k, vs, hk, rfl⟩)
  have olda : ∀ a p r s, st.rowAt a p = some r → L.al a p = some s → s.b < w.heap.size := fun a p r s h1 h2 => hm.owns_lt (.inr ⟨a, p, r, s, h1, h2, rfl⟩)
  have hbs : ∀ k vs, ((st.kill (V.isB b)).setB b (some (V.killL (V.isB b) v.cells))).bs k = some vs → (k = b ∧ vs = V.killL (V.isB b) v.cells) ∨ (k ≠ b ∧ ∃ vs0, st.bs k = some vs0 ∧ vs = V.killL (V.isB b) vs0) := by
    intro k vs hk
    by_cases hkb : k = b
    · subst hkb; simp only [St.setB, upd_same, Option.some.injEq] at hk; exact .inl ⟨rfl, hk.symm⟩
    · simp only [St.setB, upd_ne _ _ hkb, St.kill] at hk
      cases hs : st.bs k with
      | none => simp [hs] at hk
      | some vs0 => simp only [hs, Option.map_some, Option.some.injEq] at hk; exact .inr ⟨hkb, vs0, rfl, hk.symm⟩
  have howns : ∀ k, Owns { L with bl := upd L.bl b w.heap.size } ((st.kill (V.isB b)).setB b (some (V.killL (V.isB b) v.cells))) k → k = w.heap.size ∨ Owns L st k := by
    rintro k (⟨j, vs, h1, h2⟩ | h1)
    · rcases hbs j vs h1 with ⟨e, _⟩ | ⟨e, vs0, e1, _⟩
      · subst e; left; rw [← h2]; exact upd_same _ _ _
      · right; left; exact ⟨j, vs0, e1, by rw [← h2]; exact (upd_ne _ _ e).symm⟩
    · exact .inr (.inr h1)
  refine ⟨h.size, h.defers, ?_, ⟨?_, ?_, ?_, ?_, hm.aa, ?_, ?_, ?_, hm.i0, ?_, ?_, hm.os, hm.tape, hm.output⟩, h.lim, ⟨fun k hk => by have := h.lim; rw [← h.out.bl k hk]; exact upd_ne _ _ (by omega), h.out.al⟩⟩
  · intro k; exact VRel.move hmove _ _ (h.tm k)
  · intro k vs hk
    rcases hbs k vs hk with ⟨e, e1⟩ | ⟨e, vs0, e1, e2⟩
    · subst e; subst e1
      refine ⟨c.cells, ty, (0, 0), ?_, fun o _ hh => by omega, VRelL.move hmove _ _ hcell⟩
      show (w.alloc _).heap[upd L.bl k w.heap.size k]? = _
      rw [upd_same]; exact push_new w _
    · obtain ⟨cs, ty', fr, g1, g2, g3⟩ := hm.box k vs0 e1
      refine ⟨cs, ty', fr, ?_, g2, ?_⟩
      · show (w.alloc _).heap[upd L.bl b w.heap.size k]? = _
        rw [upd_ne _ _ e, push_old w _ (old k vs0 e1)]; exact g1
      · subst e2; exact VRelL.move hmove _ _ g3
  · intro a p r hr
    have h1 := hm.row a p r hr
    unfold RowOK at h1 ⊢
    show (match L.al a p with | none => _ | some s => _)
    cases hal : L.al a p with
    | none => rw [hal] at h1; exact h1
    | some s =>
      rw [hal] at h1
      obtain ⟨cs, ty', fr, g1, g2⟩ := h1
      refine ⟨cs, ty', fr, ?_, g2⟩
      rw [push_old w _ (lt_of_blk g1)]; exact g1
  · intro k k' vs vs' h1 h2 he
    change upd L.bl b w.heap.size k = upd L.bl b w.heap.size k' at he
    rcases hbs k vs h1 with ⟨e, _⟩ | ⟨e, vs0, e1, _⟩ <;> rcases hbs k' vs' h2 with ⟨f, _⟩ | ⟨f, vs1, f1, _⟩
    · rw [e, f]
    · rw [e, upd_same, upd_ne _ _ f] at he
      have := old k' vs1 f1; omega
    · rw [f, upd_same, upd_ne _ _ e] at he
      have := old k vs0 e1; omega
    · rw [upd_ne _ _ e, upd_ne _ _ f] at he
      exact hm.bb k k' _ _ e1 f1 he
  · intro k vs a p r s h1 h2 h3 he
    change upd L.bl b w.heap.size k = s.b at he
    rcases hbs k vs h1 with ⟨e, _⟩ | ⟨e, vs0, e1, _⟩
    · rw [e, upd_same] at he
      have := olda a p r s h2 h3; omega
    · rw [upd_ne _ _ e] at he
      exact hm.ba k vs0 a p r s e1 h2 h3 he
  · intro k hk ho
    have := hm.ilt k hk
    rcases howns k ho with e | e
    · omega
    · exact hm.iown k hk e
  · intro k hk
    have := hm.ilt k hk
    simp only [World.size_alloc]; omega
  · intro k ho
    rcases howns k ho with e | e
    · right; rw [e]; exact hm.size
    · exact hm.own0 k e
  · intro k hk hO
    have hs := hm.size
    rw [push_old w _ (by omega)]
    exact hm.frame k hk hO
  · simp only [World.size_alloc]; have := hm.size; omega
theorem ok_box (hd : ∀ k, o.dst = some k → k < N) (h : Rel G N ac w L st) {t : TypeId} {x : Operand} {y : Opd} (ho : o.op = .box t x) (hc : chkOpd x y = true)
    {H : Handler} (hp : awpOp H o.dst (.box y) st K) : o.wp P ac w (AfterT G N K w (fun _ => False)) Q := by
  simp only [awpOp] at hp
  split at hp
  · rename_i b hb
    have h1 := h.newBox b (hd b hb) (h.ev hc) hp.1 t
    refine wp_value (v := .pointer (some ⟨w.heap.size, 0, none⟩)) (w' := w.alloc (.cells (ac.eval x).cells t)) ?_ ⟨⟨_, _, hp.2, h1.put hd ?_⟩, fun b hb _ => push_old w _ hb⟩
    · simp only [execOp, ho]
      exact run_v _ (by simp [Instr.box, newVar, newRow])
    · simp only [VRel, envOf, upd_same]
  · exact hp.elim
/-- What a new variable of a type holds. -/
def chkZero (P : Program) (t : TypeId) (z : V) : Bool :=
  match P.info? t with
  | some i => match i.zero with
    | some zv => chkConst zv z
    | none => false
  | none => false
theorem ok_alloc (hd : ∀ k, o.dst = some k → k < N) (h : Rel G N ac w L st) {t : TypeId} {z : V} (ho : o.op = .alloc t) (hz : chkZero P t z = true)
    {H : Handler} (hp : awpOp H o.dst (.box (.v z)) st K) : o.wp P ac w (AfterT G N K w (fun _ => False)) Q := by
  unfold chkZero at hz
  split at hz
  · rename_i i hi
    split at hz
    · rename_i zv hzv
      simp only [awpOp, St.ev] at hp
      split at hp
      · rename_i b hb
        have h1 := h.newBox b (hd b hb) (chkConst_ok (E := envOf w L st) z zv hz) hp.1 t
        refine wp_value (v := .pointer (some ⟨w.heap.size, 0, none⟩)) (w' := w.alloc (.cells zv.cells t)) ?_ ⟨⟨_, _, hp.2, h1.put hd ?_⟩, fun b hb _ => push_old w _ hb⟩
        · simp only [execOp, ho]
          exact run_v _ (by simp [Instr.alloc, zeroValue, run_typeInfo hi, hzv, newVar, newRow])
        · simp only [VRel, envOf, upd_same]
      · exact hp.elim
    · cases hz
  · cases hz

theorem VRelL.splice {E : Env} {cs ds : List Value} {vs us : List V} (h : VRelL E cs vs) (h' : VRelL E ds us) (off : Nat) : VRelL E (cs.take off ++ ds ++ cs.drop (off + ds.length)) (splice vs off us) := by
  unfold Vm.splice
  rw [h'.length]
  exact ((h.take off).append h').append (h.drop _)
/-- A store into a box. -/
theorem Rel.setBox (h : Rel G N ac w L st) {b : Nat} {vs us : List V} (hb : st.bs b = some vs) {cs : Array Value} {ty : TypeId} {fr : Nat × Nat} (hh : w.heap[L.bl b]? = some (.cells cs ty fr)) (hu : Unfrozen cs.size fr)
    (hr : VRelL (envOf w L st) cs.toList vs) {ds : List Value} (hd : VRelL (envOf w L st) ds us) {off : Nat} (hle : off + us.length ≤ vs.length) :
    Rel G N ac (setBlk w (L.bl b) (.cells (setAll cs off ds) ty fr)) L (st.setB b (some (splice vs off us))) := by
  have hm := h.mem
  have hlt := lt_of_blk hh
  have hown : Owns L st (L.bl b) := .inl ⟨b, vs, hb, rfl⟩
  have hlen := hr.length
  have hlen' := hd.length
  simp only [Array.length_toList] at hlen
  have hI : ∀ k, L.I k → (setBlk w (L.bl b) (.cells (setAll cs off ds) ty fr)).heap[k]? = w.heap[k]? := by
    intro k hk
    rw [setBlk_get w _ _ hlt, if_neg]
    intro e; exact hm.iown k hk (e ▸ hown)
  have hmove : Move (fun _ => false) (envOf w L st) (envOf (setBlk w (L.bl b) (.cells (setAll cs off ds) ty fr)) L (st.setB b (some (splice vs off us)))) :=
    ⟨⟨hI, fun _ hk => hk⟩, fun _ _ _ => rfl, fun _ _ _ _ _ len' hl => ⟨len', hl, Nat.le_refl _, rfl⟩, fun _ _ _ _ _ len' hl => ⟨len', hl, Nat.le_refl _, rfl⟩⟩
  have hbs : ∀ k xs, (st.setB b (some (splice vs off us))).bs k = some xs → (k = b ∧ xs = splice vs off us) ∨ (k ≠ b ∧ st.bs k = some xs) := by
    intro k xs hk
    by_cases hkb : k = b
    · subst hkb; simp only [St.setB, upd_same, Option.some.injEq] at hk; exact .inl ⟨rfl, hk.symm⟩
    · simp only [St.setB, upd_ne _ _ hkb] at hk; exact .inr ⟨hkb, hk⟩
  have hex : ∀ k xs, (st.setB b (some (splice vs off us))).bs k = some xs → ∃ ys, st.bs k = some ys := by
    intro k xs hk
    rcases hbs k xs hk with ⟨e, _⟩ | ⟨_, e⟩
    · exact ⟨vs, e ▸ hb⟩
    · exact ⟨xs, e⟩
  have howns : ∀ k, Owns L (st.setB b (some (splice vs off us))) k → Owns L st k := by
    rintro k (⟨j, xs, h1, h2⟩ | h1)
    · obtain ⟨ys, hy⟩ := hex j xs h1; exact .inl ⟨j, ys, hy, h2⟩
    · exact .inr h1
  refine ⟨h.size, h.defers, fun k => VRel.keep hmove (h.tm k), ⟨?_, ?_, ?_, ?_, hm.aa, ?_, ?_, ?_, hm.i0, ?_, ?_, hm.os, hm.tape, hm.output⟩, h.lim, ⟨h.out.bl, h.out.al⟩⟩
  · intro k xs hk
    rcases hbs k xs hk with ⟨e, e1⟩ | ⟨e, e1⟩
    · subst e; subst e1
      refine ⟨setAll cs off ds, ty, fr, by rw [setBlk_get w _ _ hlt, if_pos rfl], by rw [setAll_size]; exact hu, ?_⟩
      rw [setAll_toList ds cs off (by omega)]
      exact VRelL.keep hmove (hr.splice hd off)
    · obtain ⟨cs', ty', fr', g1, g2, g3⟩ := hm.box k xs e1
      refine ⟨cs', ty', fr', ?_, g2, VRelL.keep hmove g3⟩
      rw [setBlk_get w _ _ hlt, if_neg]
      · exact g1
      · intro e2; exact e (hm.bb k b xs vs e1 hb e2)
  · intro a p r hr'
    have h1 := hm.row a p r hr'
    unfold RowOK at h1 ⊢
    cases hal : L.al a p with
    | none => rw [hal] at h1; exact h1
    | some s =>
      rw [hal] at h1
      obtain ⟨cs', ty', fr', g1, g2⟩ := h1
      refine ⟨cs', ty', fr', ?_, g2⟩
      rw [setBlk_get w _ _ hlt, if_neg]
      · exact g1
      · intro e; exact hm.ba b vs a p r s hb hr' hal e.symm
  · intro k k' xs xs' h1 h2 he
    obtain ⟨ys, hy⟩ := hex k xs h1
    obtain ⟨ys', hy'⟩ := hex k' xs' h2
    exact hm.bb k k' _ _ hy hy' he
  · intro k xs a p r s h1 h2 h3 he
    obtain ⟨ys, hy⟩ := hex k xs h1
    exact hm.ba k ys a p r s hy h2 h3 he
  · intro k hk ho; exact hm.iown k hk (howns k ho)
  · intro k hk; simp only [setBlk, Array.size_setIfInBounds]; exact hm.ilt k hk
  · intro k ho; exact hm.own0 k (howns k ho)
  · intro k hk hO
    rw [setBlk_get w _ _ hlt, if_neg]
    · exact hm.frame k hk hO
    · intro e
      rcases hm.own0 _ hown with e1 | e1
      · exact hO (e ▸ e1)
      · omega
  · simp only [setBlk, Array.size_setIfInBounds]; exact hm.size
theorem ok_store_box (hdn : o.dst = none) (h : Rel G N ac w L st) {t : TypeId} {i : TypeInfo} {x v : Operand} {y u : Opd} (ho : o.op = .store t x v) (hx : chkOpd x y = true) (hv : chkOpd v u = true)
    (ht : P.info? t = some i) {b off : Nat} (hy : st.ev y = .bptr b off)
    {H : Handler} (hp : awpOp H o.dst (.store i.size y u) st K) : o.wp P ac w (AfterT G N K w (fun b' => b' = L.bl b)) Q := by
  simp only [awpOp, hy] at hp
  split at hp
  · rename_i cs hb
    obtain ⟨hsz, h1, h2, h3⟩ := hp
    obtain ⟨csA, ty, fr, g1, g2, g3⟩ := h.mem.box b cs hb
    obtain ⟨f1, f2⟩ := cells_rel (h.ev hv) h1
    have hlen := g3.length
    have hlen' := f1.length
    simp only [Array.length_toList] at hlen hlen'
    have hx' := h.ev hx
    rw [hy] at hx'
    simp only [VRel, envOf] at hx'
    have := h.setBox hb g1 g2 g3 f1 h2
    refine wp_skipv (w' := setBlk w (L.bl b) (.cells (setAll csA off (ac.eval v).cells.toList) ty fr)) ?_ ⟨⟨L, _, h3, ?_⟩, fun b' hb' hn => by rw [setBlk_get w _ _ (lt_of_blk g1), if_neg hn]⟩
    · have hst : (storeCells ⟨L.bl b, off, none⟩ (ac.eval v).cells.toList 0).run P w = .ok () (setBlk w (L.bl b) (.cells (setAll csA (off + 0) (ac.eval v).cells.toList) ty fr)) :=
        run_storeCells _ w off 0 csA g1 g2 f2 (by simp only [Array.length_toList]; omega)
      simp only [execOp, ho, hx']
      have hs : (Instr.storeAt t (.pointer (some ⟨L.bl b, off, none⟩)) (ac.eval v)).run P w = .ok () (setBlk w (L.bl b) (.cells (setAll csA off (ac.eval v).cells.toList) ty fr)) := by
        simp only [Instr.storeAt, Sem.run_bind, Instr.sureAddr, Sem.run_pure, Result.andThen_ok, storeVar, run_sizeOf ht]
        rw [if_neg (by omega)]
        simpa using hst
      simp only [Sem.run_bind, hs, Result.andThen_ok, Sem.run_pure]
    · rw [hdn]; exact this
  · exact hp.elim
end
end Go.Vm
end
section
/- A new layout of the owned arrays out of an old one: what must be shown, once. -/
namespace Go.Vm
structure RelayOK (G : Ghost) (w w' : World) (L L' : Lay) (st st' : St) (q : V → Bool) (ρ : Nat → Path → Option (Nat × Path)) (F : Nat → Path → Prop) (W : Nat → Prop) : Prop where
  hI : L'.I = L.I
  hbl : L'.bl = L.bl
  hbs : ∀ b vs', st'.bs b = some vs' → ∃ vs, st.bs b = some vs ∧ vs' = V.killL q vs
  ref : ∀ a p lo n, q (.ref a p lo n) = false → ∀ len', st'.lens a p = some len' → ∃ len, st.lens a p = some len ∧ len ≤ len' ∧ L'.al a p = L.al a p
  aptr : ∀ a p i j, q (.aptr a p i j) = false → ∀ len', st'.lens a p = some len' → ∃ len, st.lens a p = some len ∧ len ≤ len' ∧ L'.al a p = L.al a p
  hblk : ∀ b, b < w.heap.size → ¬ W b → w'.heap[b]? = w.heap[b]?
  hW : ∀ b, W b → OwnsA L st b
  hsz : w.heap.size ≤ w'.heap.size
  hrow : ∀ a p r, st'.rowAt a p = some r → RowOK w' L'.al a p r
  hseg : ∀ a p r s, st'.rowAt a p = some r → L'.al a p = some s → (F a p ∧ w.heap.size ≤ s.b) ∨
    (¬ F a p ∧ ∃ a0 p0 r0 s0, ρ a p = some (a0, p0) ∧ st.rowAt a0 p0 = some r0 ∧ L.al a0 p0 = some s0 ∧ s0.b = s.b)
  hinj : ∀ a p r a' p' r', st'.rowAt a p = some r → st'.rowAt a' p' = some r' → ¬ F a p → ¬ F a' p' → ∀ x, ρ a p = some x → ρ a' p' = some x → a = a' ∧ p = p'
  hF : ∀ a p r a' p' r', st'.rowAt a p = some r → st'.rowAt a' p' = some r' → F a p → F a' p' → a = a' ∧ p = p'
  os : w'.os = w.os
  tape : w'.tape = w.tape
  output : w'.output = w.output
section
variable {G : Ghost} {N : Nat} {ac : Act} {w w' : World} {L L' : Lay} {st st' : St} {q : V → Bool} {ρ : Nat → Path → Option (Nat × Path)} {F : Nat → Path → Prop} {W : Nat → Prop}
theorem RelayOK.same (k : RelayOK G w w' L L' st st' q ρ F W) (h : Mem G w L st) : ∀ b, L.I b → w'.heap[b]? = w.heap[b]? :=
  fun b hb => k.hblk b (h.ilt b hb) fun hw => h.iown b hb (.inr (k.hW b hw))
theorem RelayOK.move (k : RelayOK G w w' L L' st st' q ρ F W) (h : Mem G w L st) : Move q (envOf w L st) (envOf w' L' st') :=
  ⟨⟨k.same h, fun b hb => by show L'.I b; rw [k.hI]; exact hb⟩, fun b _ _ => by show L'.bl b = _; rw [k.hbl]; rfl, k.ref, k.aptr⟩
theorem RelayOK.mem (k : RelayOK G w w' L L' st st' q ρ F W) (h : Mem G w L st) : Mem G w' L' st' := by
  have hmove := k.move h
  have howns : ∀ b, Owns L' st' b → Owns L st b ∨ w.heap.size ≤ b := by
    rintro b (⟨j, vs, h1, h2⟩ | ⟨a, p, r, s, h1, h2, h3⟩)
    · obtain ⟨vs0, e, _⟩ := k.hbs j vs h1
      left; left; exact ⟨j, vs0, e, by rw [← h2, k.hbl]⟩
    · rcases k.hseg a p r s h1 h2 with ⟨_, e⟩ | ⟨_, a0, p0, r0, s0, _, e1, e2, e3⟩
      · right; omega
      · left; right; exact ⟨_, _, r0, s0, e1, e2, by rw [e3, h3]⟩
  have boxlt : ∀ b vs, st.bs b = some vs → L.bl b < w.heap.size := fun b vs hb => h.owns_lt (.inl ⟨b, vs, hb, rfl⟩)
  refine ⟨?_, k.hrow, ?_, ?_, ?_, ?_, ?_, ?_, ?_, ?_, ?_, k.os.trans h.os, k.tape.trans h.tape, k.output.trans h.output⟩
  · intro b vs' hb
    obtain ⟨vs, e, e'⟩ := k.hbs b vs' hb
    obtain ⟨cs, ty, fr, g1, g2, g3⟩ := h.box b vs e
    refine ⟨cs, ty, fr, ?_, g2, by subst e'; exact VRelL.move hmove _ _ g3⟩
    rw [k.hbl, k.hblk _ (boxlt b vs e)]
    · exact g1
    · intro hw
      obtain ⟨a, p, r, s, e1, e2, e3⟩ := k.hW _ hw
      exact h.ba b vs a p r s e e1 e2 e3.symm
  · intro b b' vs vs' h1 h2 he
    obtain ⟨_, e, _⟩ := k.hbs b vs h1
    obtain ⟨_, e', _⟩ := k.hbs b' vs' h2
    rw [k.hbl] at he
    exact h.bb b b' _ _ e e' he
  · intro b vs a p r s h1 h2 h3 he
    obtain ⟨vs0, e, _⟩ := k.hbs b vs h1
    rw [k.hbl] at he
    rcases k.hseg a p r s h2 h3 with ⟨_, e1⟩ | ⟨_, a0, p0, r0, s0, _, e1, e2, e3⟩
    · have := boxlt b vs0 e; omega
    · exact h.ba b vs0 _ _ r0 s0 e e1 e2 (by rw [he, e3])
  · intro a p r s a' p' r' s' h1 h2 h3 h4 he
    rcases k.hseg a p r s h1 h2 with ⟨e0, e1⟩ | ⟨e0, a0, p0, r0, s0, hr0, e1, e2, e3⟩ <;> rcases k.hseg a' p' r' s' h3 h4 with ⟨f0, f1⟩ | ⟨f0, a1, p1, r1, s1, hr1, f1, f2, f3⟩
    · exact k.hF a p r a' p' r' h1 h3 e0 f0
    · have := h.owns_lt (.inr ⟨_, _, r1, s1, f1, f2, rfl⟩); omega
    · have := h.owns_lt (.inr ⟨_, _, r0, s0, e1, e2, rfl⟩); omega
    · have := h.aa _ _ r0 s0 _ _ r1 s1 e1 e2 f1 f2 (by rw [e3, f3, he])
      obtain ⟨rfl, rfl⟩ := this
      exact k.hinj a p r a' p' r' h1 h3 e0 f0 _ hr0 hr1
  · intro b hb ho
    rw [k.hI] at hb
    have := h.ilt b hb
    rcases howns b ho with e | e
    · exact h.iown b hb e
    · omega
  · intro b hb; rw [k.hI] at hb; have := h.ilt b hb; have := k.hsz; omega
  · intro b ho
    rcases howns b ho with e | e
    · exact h.own0 b e
    · right; have := h.size; omega
  · intro b hb; rw [k.hI] at hb; exact h.i0 b hb
  · intro b hb hO
    have hs := h.size
    rw [k.hblk b (by omega)]
    · exact h.frame b hb hO
    · intro hw
      rcases h.own0 b (.inr (k.hW b hw)) with e | e
      · exact hO e
      · omega
  · have := h.size; have := k.hsz; omega
theorem RelayOK.rel (k : RelayOK G w w' L L' st st' q ρ F W) (h : Rel G N ac w L st) (htm : ∀ j, st'.tm j = (st.tm j).kill q)
    (ho : ∀ k r, outer ≤ k → st'.as k = some r → L'.al k [] = L.al k [] ∧ ∃ r0, st.as k = some r0) : Rel G N ac w' L' st' :=
  ⟨h.size, h.defers, fun j => by rw [htm j]; exact VRel.move (k.move h.mem) _ _ (h.tm j), k.mem h.mem, h.lim,
    ⟨fun j hj => by rw [k.hbl]; exact h.out.bl j hj, fun j r hj hr => by obtain ⟨e, r0, e0⟩ := ho j r hj hr; rw [e]; exact h.out.al j r0 hj e0⟩⟩
end
end Go.Vm
end
section
/- Rows within rows: what a change at a path does to the others. -/
namespace Go.Vm
def LikeD : D → D → Prop
  | _, .gone => True
  | .sl r, .sl r' => r.length = r'.length
  | x, y => x = y
theorem LikeD.refl (x : D) : LikeD x x := by cases x <;> simp [LikeD]
def LikeRow (a b : List D) : Prop := a.length = b.length ∧ ∀ (j : Nat) (x y : D), a[j]? = some x → b[j]? = some y → LikeD x y
theorem LikeRow.refl (a : List D) : LikeRow a a := ⟨rfl, fun j x y h1 h2 => by rw [h1] at h2; cases h2; exact LikeD.refl x⟩
def Like (r r' : Rows) : Prop := r.length = r'.length ∧ ∀ (i : Nat) (a b : List D), r[i]? = some a → r'[i]? = some b → LikeRow a b
theorem Like.refl (r : Rows) : Like r r := ⟨rfl, fun i a b h1 h2 => by rw [h1] at h2; cases h2; exact LikeRow.refl a⟩
theorem setRow_length : ∀ (p : Path) (R old new : Rows), getRow p R = some old → new.length = old.length → (setRow p R new).length = R.length
  | [], R, old, new, h, hl => by simp only [getRow, Option.some.injEq] at h; subst h; exact hl
  | (i, j) :: p, R, old, new, h, hl => by
    simp only [setRow]
    cases h1 : R[i]? with
    | none => rfl
    | some cs =>
      simp only []
      cases h2 : cs[j]? with
      | none => rfl
      | some d => cases d <;> simp
theorem Like.set {R : Rows} {i j : Nat} {cs : List D} (h1 : R[i]? = some cs) {r0 r1 : Rows} (h2 : cs[j]? = some (.sl r0)) (hl : r1.length = r0.length) : Like R (R.set i (cs.set j (.sl r1))) := by
  refine ⟨by simp, fun i' a b ha hb => ?_⟩
  by_cases hi : i' = i
  · subst hi
    have hlt : i' < R.length := (List.getElem?_eq_some_iff.mp h1).1
    rw [List.getElem?_set_self hlt] at hb
    cases hb
    rw [h1] at ha; cases ha
    refine ⟨by simp, fun j' x y hx hy => ?_⟩
    by_cases hj : j' = j
    · subst hj
      have hlt' : j' < cs.length := (List.getElem?_eq_some_iff.mp h2).1
      rw [List.getElem?_set_self hlt'] at hy
      cases hy
      rw [h2] at hx; cases hx
      simp [LikeD, hl]
    · rw [List.getElem?_set_ne (Ne.symm hj), hx] at hy; cases hy; exact LikeD.refl x
  · rw [List.getElem?_set_ne (Ne.symm hi), ha] at hb; cases hb; exact LikeRow.refl a
/-- A row behind a change at the path p: below p it is of the new row; else it is as it was, but for what nested rows hold. -/
theorem getRow_setRow : ∀ (p : Path) (R old new : Rows), getRow p R = some old → new.length = old.length → ∀ (q : Path) (r' : Rows), getRow q (setRow p R new) = some r' →
    (∃ q', q = p ++ q' ∧ getRow q' new = some r') ∨ ((¬ ∃ q', q = p ++ q') ∧ ∃ r, getRow q R = some r ∧ Like r r')
  | [], R, old, new, h, hl, q, r', hq => by
    left; exact ⟨q, rfl, hq⟩
  | (i, j) :: p, R, old, new, h, hl, q, r', hq => by
    simp only [getRow] at h
    cases h1 : R[i]? with
    | none => simp [h1] at h
    | some cs =>
      simp only [h1] at h
      cases h2 : cs[j]? with
      | none => simp [h2] at h
      | some d =>
        cases d with
        | sl r0 =>
          simp only [h2] at h
          simp only [setRow, h1, h2] at hq
          have hlen := setRow_length p r0 old new h hl
          cases q with
          | nil =>
            simp only [getRow, Option.some.injEq] at hq
            subst hq
            right
            exact ⟨by rintro ⟨q', e⟩; simp at e, R, rfl, Like.set h1 h2 hlen⟩
          | cons x q =>
            obtain ⟨i', j'⟩ := x
            simp only [getRow] at hq
            by_cases hi : i' = i
            · subst hi
              have hlt : i' < R.length := (List.getElem?_eq_some_iff.mp h1).1
              rw [List.getElem?_set_self hlt] at hq
              simp only [] at hq
              by_cases hj : j' = j
              · subst hj
                have hlt' : j' < cs.length := (List.getElem?_eq_some_iff.mp h2).1
                rw [List.getElem?_set_self hlt'] at hq
                simp only [] at hq
                rcases getRow_setRow p r0 old new h hl q r' hq with ⟨q', e1, e2⟩ | ⟨e1, r, e2, e3⟩
                · left; exact ⟨q', by rw [e1]; rfl, e2⟩
                · right
                  refine ⟨?_, r, by simp only [getRow, h1, h2]; exact e2, e3⟩
                  rintro ⟨q', e⟩
                  simp only [List.cons_append, List.cons.injEq, true_and] at e
                  exact e1 ⟨q', e⟩
              · rw [List.getElem?_set_ne (Ne.symm hj)] at hq
                right
                refine ⟨?_, r', by simp only [getRow, h1]; exact hq, Like.refl _⟩
                rintro ⟨q', e⟩
                simp only [List.cons_append, List.cons.injEq, Prod.mk.injEq] at e
                exact hj e.1.2
            · rw [List.getElem?_set_ne (Ne.symm hi)] at hq
              right
              refine ⟨?_, r', by simp only [getRow]; exact hq, Like.refl _⟩
              rintro ⟨q', e⟩
              simp only [List.cons_append, List.cons.injEq, Prod.mk.injEq] at e
              exact hi e.1.1
        | _ => simp [h2] at h
/-- The path behind a path. -/
def strip : Path → Path → Option Path
  | [], q => some q
  | x :: p, y :: q => if x = y then strip p q else none
  | _ :: _, [] => none
theorem strip_append (p q : Path) : strip p (p ++ q) = some q := by
  induction p with
  | nil => rfl
  | cons x p ih => simp [strip, ih]
theorem strip_some : ∀ (p q r : Path), strip p q = some r → q = p ++ r
  | [], q, r, h => by simp only [strip, Option.some.injEq] at h; simp [h]
  | x :: p, [], r, h => by simp [strip] at h
  | x :: p, y :: q, r, h => by
    simp only [strip] at h
    split at h
    · rename_i e; subst e; rw [strip_some p q r h]; rfl
    · cases h
mutual
theorem V.kill_kill (q1 q2 : V → Bool) : ∀ v : V, (v.kill q1).kill q2 = v.kill (fun v => q1 v || q2 v)
  | .agg vs => by simp only [V.kill, V.killL_killL q1 q2 vs]
  | .tup vs => by simp only [V.kill, V.killL_killL q1 q2 vs]
  | .clos f vs => by simp only [V.kill, V.killL_killL q1 q2 vs]
  | .bot => by simp only [V.kill]; split <;> split <;> simp [V.kill]
  | .d x => by simp only [V.kill]; by_cases h : q1 (.d x) = true <;> simp [h, V.kill]
  | .nilsl => by simp only [V.kill]; by_cases h : q1 .nilsl = true <;> simp [h, V.kill]
  | .nilptr => by simp only [V.kill]; by_cases h : q1 .nilptr = true <;> simp [h, V.kill]
  | .ref a p lo n => by simp only [V.kill]; by_cases h : q1 (.ref a p lo n) = true <;> simp [h, V.kill]
  | .aptr a p i j => by simp only [V.kill]; by_cases h : q1 (.aptr a p i j) = true <;> simp [h, V.kill]
  | .bptr b off => by simp only [V.kill]; by_cases h : q1 (.bptr b off) = true <;> simp [h, V.kill]
  | .iptr cs => by simp only [V.kill]; by_cases h : q1 (.iptr cs) = true <;> simp [h, V.kill]
theorem V.killL_killL (q1 q2 : V → Bool) : ∀ vs : List V, V.killL q2 (V.killL q1 vs) = V.killL (fun v => q1 v || q2 v) vs
  | [] => rfl
  | v :: vs => by simp only [V.killL, V.kill_kill q1 q2 v, V.killL_killL q1 q2 vs]
end
end Go.Vm
end
section
/- One row of an owned array is changed, with what lies below it: the law behind store, append and making. -/
namespace Go.Vm
def changeAl (L : Lay) (a : Nat) (p : Path) (sg : Option Seg) (σ : Nat → Nat → Option (Nat × Path)) : Nat → Path → Option Seg := fun a1 p1 =>
  if a1 = a then match strip p p1 with
    | some [] => sg
    | some ((i, j) :: q) => (σ i j).bind fun x => L.al x.1 (x.2 ++ q)
    | none => L.al a1 p1
  else L.al a1 p1
def changeRho (a : Nat) (p : Path) (σ : Nat → Nat → Option (Nat × Path)) : Nat → Path → Option (Nat × Path) := fun a1 p1 =>
  if a1 = a then match strip p p1 with
    | some ((i, j) :: q) => (σ i j).map fun x => (x.1, x.2 ++ q)
    | _ => some (a1, p1)
  else some (a1, p1)
structure Source (st : St) (cons : List Nat) (a : Nat) (p : Path) (new : Rows) (σ : Nat → Nat → Option (Nat × Path)) : Prop where
  s1 : ∀ i row j r, new[i]? = some row → row[j]? = some (.sl r) → (∃ a0 p0, σ i j = some (a0, p0) ∧ st.rowAt a0 p0 = some r) ∨ (σ i j = none ∧ r = [])
  s2 : ∀ i j i' j' a0 p0 p0', σ i j = some (a0, p0) → σ i' j' = some (a0, p0') → p0.length = p0'.length ∧ (p0 = p0' → i = i' ∧ j = j')
  s3 : ∀ i j a0 p0, σ i j = some (a0, p0) → a0 ∈ cons ∨ (a0 = a ∧ ∃ x, p0 = p ++ [x])
  s4 : a ∉ cons
theorem rowAt_append {st : St} {a : Nat} {p q : Path} {r : Rows} (h : st.rowAt a p = some r) : st.rowAt a (p ++ q) = getRow q r := by
  unfold St.rowAt at h ⊢
  cases ha : st.as a with
  | none => simp [ha] at h
  | some R => simp only [ha, Option.bind_some] at h ⊢; rw [getRow_append, h]; rfl
theorem CellOK.al {al al' : Nat → Path → Option Seg} {a a' : Nat} {p p' : Path} {i j i' j' : Nat} {c : Value} {x : D} (h : CellOK al a p i j c x)
    (e : al' a' (p' ++ [(i', j')]) = al a (p ++ [(i, j)])) : CellOK al' a' p' i' j' c x := by
  cases x with
  | sl r =>
    simp only [CellOK] at h ⊢
    obtain ⟨ad, cap, h1, h2, h0, h3⟩ := h
    exact ⟨ad, cap, h1, h2, h0, by rw [e]; exact h3⟩
  | _ => exact h
theorem CellOK.one {al : Nat → Path → Option Seg} {a : Nat} {p : Path} {i j : Nat} {c : Value} {x : D} (h : CellOK al a p i j c x) : c.oneCell' = true := by
  cases x with
  | gone => exact h
  | sl r => obtain ⟨ad, cap, e, _⟩ := h; subst e; rfl
  | _ => simp only [CellOK] at h; subst h; rfl
theorem CellOK.like {al : Nat → Path → Option Seg} {a : Nat} {p : Path} {i j : Nat} {c : Value} {x y : D} (h : CellOK al a p i j c x) (e : LikeD x y) : CellOK al a p i j c y := by
  cases x <;> cases y <;> simp only [LikeD] at e <;> first
    | exact h.one
    | (subst e; exact h)
    | (cases e; done)
    | (cases e; exact h)
    | (simp only [CellOK] at h ⊢; rw [← e]; exact h)
/-- A row that lies elsewhere now, or holds rows that are as long as they were. -/
theorem RowOK.moved {w w' : World} {al al' : Nat → Path → Option Seg} {a a' : Nat} {p p' : Path} {r r' : Rows} (h : RowOK w al a p r) (hl : Like r r') (e : al' a' p' = al a p)
    (en : ∀ i row j x, r[i]? = some row → row[j]? = some x → al' a' (p' ++ [(i, j)]) = al a (p ++ [(i, j)])) (hw : ∀ s, al a p = some s → w'.heap[s.b]? = w.heap[s.b]?) : RowOK w' al' a' p' r' := by
  unfold RowOK at h ⊢
  rw [e]
  cases hs : al a p with
  | none =>
    rw [hs] at h
    simp only [] at h ⊢
    subst h
    exact List.length_eq_zero_iff.mp hl.1.symm
  | some s =>
    rw [hs] at h
    obtain ⟨cs, ty, fr, h1, h2, h3, h4⟩ := h
    refine ⟨cs, ty, fr, by rw [hw s hs]; exact h1, h2, h3, ?_⟩
    intro i row' hi
    have hlt : i < r.length := by rw [hl.1]; exact (List.getElem?_eq_some_iff.mp hi).1
    have hi0 : r[i]? = some r[i] := by simp [hlt]
    have hlk := hl.2 i _ _ hi0 hi
    obtain ⟨g1, g2⟩ := h4 i _ hi0
    refine ⟨by rw [← hlk.1]; exact g1, fun j x' hj => ?_⟩
    have hlt' : j < r[i].length := by rw [hlk.1]; exact (List.getElem?_eq_some_iff.mp hj).1
    have hj0 : r[i][j]? = some r[i][j] := by simp [hlt']
    obtain ⟨c, k1, k2⟩ := g2 j _ hj0
    exact ⟨c, k1, (k2.like (hlk.2 j _ _ hj0 hj)).al (en i _ j _ hi0 hj0)⟩
section
variable {G : Ghost} {w w' : World} {L : Lay} {st : St} {q : V → Bool} {cons : List Nat} {a : Nat} {p : Path} {new : Rows} {σ : Nat → Nat → Option (Nat × Path)} {sg : Option Seg}
theorem changeSt_ne {c : Nat} (hne : c ≠ a) : (changeSt st q cons a p new).as c = bif cons.contains c then none else st.as c := by
  simp only [changeSt]; exact upd_ne _ _ hne
/-- Every row behind the change, with where it comes from. -/
theorem change_cases (hs : Source st cons a p new σ) (hold : p = [] ∨ ∃ old, st.rowAt a p = some old ∧ new.length = old.length) {a1 : Nat} {p1 : Path} {r' : Rows}
    (h : (changeSt st q cons a p new).rowAt a1 p1 = some r') :
    (a1 ≠ a ∧ a1 ∉ cons ∧ st.rowAt a1 p1 = some r') ∨
    (a1 = a ∧ strip p p1 = none ∧ ∃ r, st.rowAt a p1 = some r ∧ Like r r') ∨
    (a1 = a ∧ p1 = p ∧ r' = new) ∨
    (a1 = a ∧ ∃ i j q', p1 = p ++ (i, j) :: q' ∧ (∃ row r0, new[i]? = some row ∧ row[j]? = some (.sl r0)) ∧ ((∃ a0 p0, σ i j = some (a0, p0) ∧ st.rowAt a0 (p0 ++ q') = some r') ∨ (σ i j = none ∧ q' = [] ∧ r' = []))) := by
  by_cases ha : a1 = a
  · right
    subst ha
    have below : ∀ q', getRow q' new = some r' → p1 = p ++ q' → (p1 = p ∧ r' = new) ∨ (∃ i j q'', p1 = p ++ (i, j) :: q'' ∧ (∃ row r0, new[i]? = some row ∧ row[j]? = some (.sl r0)) ∧ ((∃ a0 p0, σ i j = some (a0, p0) ∧ st.rowAt a0 (p0 ++ q'') = some r') ∨ (σ i j = none ∧ q'' = [] ∧ r' = []))) := by
      intro q' hq' e
      cases q' with
      | nil =>
        simp only [getRow, Option.some.injEq] at hq'
        left; exact ⟨by simpa using e, hq'.symm⟩
      | cons x q'' =>
        obtain ⟨i, j⟩ := x
        right
        simp only [getRow] at hq'
        cases h1 : new[i]? with
        | none => simp [h1] at hq'
        | some row =>
          simp only [h1] at hq'
          cases h2 : row[j]? with
          | none => simp [h2] at hq'
          | some d =>
            cases d with
            | sl r0 =>
              simp only [h2] at hq'
              refine ⟨i, j, q'', e, ⟨row, r0, h1, h2⟩, ?_⟩
              rcases hs.s1 i row j r0 h1 h2 with ⟨a0, p0, e1, e2⟩ | ⟨e1, e2⟩
              · left; exact ⟨a0, p0, e1, by rw [rowAt_append e2]; exact hq'⟩
              · subst e2
                right
                cases q'' with
                | nil => simp only [getRow, Option.some.injEq] at hq'; exact ⟨e1, rfl, hq'.symm⟩
                | cons y _ => simp [getRow] at hq'
            | _ => simp [h2] at hq'
    unfold St.rowAt at h
    cases p with
    | nil =>
      simp only [changeSt, upd_same, Option.bind_some] at h
      rcases below p1 h rfl with e | e
      · right; left; exact ⟨rfl, e.1, e.2⟩
      · right; right; exact ⟨rfl, e⟩
    | cons y p =>
      rcases hold with hold | ⟨old, ho1, ho2⟩
      · cases hold
      · unfold St.rowAt at ho1
        cases hR : st.as a1 with
        | none => rw [hR] at ho1; simp at ho1
        | some R =>
          rw [hR] at ho1
          simp only [Option.bind_some] at ho1
          simp only [changeSt, upd_same, hR, Option.map_some, Option.bind_some] at h
          rcases getRow_setRow (y :: p) R old new ho1 ho2 p1 r' h with ⟨q', e1, e2⟩ | ⟨e1, r, e2, e3⟩
          · rcases below q' e2 e1 with e | e
            · right; left; exact ⟨rfl, e.1, e.2⟩
            · right; right; exact ⟨rfl, e⟩
          · left
            refine ⟨rfl, ?_, r, by unfold St.rowAt; rw [hR]; exact e2, e3⟩
            cases hst : strip (y :: p) p1 with
            | none => rfl
            | some t => exact absurd ⟨t, strip_some _ _ _ hst⟩ e1
  · left
    unfold St.rowAt at h
    rw [changeSt_ne ha] at h
    cases hc : cons.contains a1 with
    | true => rw [hc] at h; simp at h
    | false =>
      rw [hc] at h
      simp only [cond_false] at h
      refine ⟨ha, ?_, h⟩
      intro hm
      have := List.contains_iff_mem.mpr hm
      rw [hc] at this; cases this
theorem strip_nil_of (p : Path) : strip p p = some [] := by have := strip_append p []; rwa [List.append_nil] at this
theorem changeAl_ne {a1 : Nat} {p1 : Path} (hne : a1 ≠ a) : changeAl L a p sg σ a1 p1 = L.al a1 p1 := by simp [changeAl, hne]
theorem changeAl_none {p1 : Path} (h : strip p p1 = none) : changeAl L a p sg σ a p1 = L.al a p1 := by simp [changeAl, h]
theorem changeAl_self : changeAl L a p sg σ a p = sg := by simp [changeAl, strip_nil_of]
theorem changeAl_below (i j : Nat) (q' : Path) : changeAl L a p sg σ a (p ++ (i, j) :: q') = (σ i j).bind fun x => L.al x.1 (x.2 ++ q') := by simp [changeAl, strip_append]
theorem changeRho_below (i j : Nat) (q' : Path) : changeRho a p σ a (p ++ (i, j) :: q') = (σ i j).map fun x => (x.1, x.2 ++ q') := by simp [changeRho, strip_append]
theorem changeRho_ne {a1 : Nat} {p1 : Path} (hne : a1 ≠ a) : changeRho a p σ a1 p1 = some (a1, p1) := by simp [changeRho, hne]
theorem changeRho_none {p1 : Path} (h : strip p p1 = none) : changeRho a p σ a p1 = some (a, p1) := by simp [changeRho, h]
theorem changeRho_self : changeRho a p σ a p = some (a, p) := by simp [changeRho, strip_nil_of]

theorem change_out {L : Lay} {st : St} {q : V → Bool} {cons : List Nat} {a : Nat} {p : Path} {new : Rows} {σ : Nat → Nat → Option (Nat × Path)} {sg : Option Seg}
    (hout : outer ≤ a → (∃ r0, st.as a = some r0) ∧ (p = [] → sg = L.al a [])) :
    ∀ k r, outer ≤ k → (changeSt st q cons a p new).as k = some r → ({ L with al := changeAl L a p sg σ } : Lay).al k [] = L.al k [] ∧ ∃ r0, st.as k = some r0 := by
  intro k r hk hr
  by_cases hka : k = a
  · subst hka
    obtain ⟨h1, h2⟩ := hout hk
    refine ⟨?_, h1⟩
    show changeAl L k p sg σ k [] = _
    cases p with
    | nil => rw [changeAl_self]; exact h2 rfl
    | cons x p => exact changeAl_none (by cases x; rfl)
  · refine ⟨changeAl_ne hka, ?_⟩
    rw [changeSt_ne hka] at hr
    cases hc : cons.contains k with
    | true => rw [hc] at hr; cases hr
    | false => rw [hc] at hr; exact ⟨r, hr⟩
theorem change_ok (h : Mem G w L st) (hs : Source st cons a p new σ) (fresh : Prop) (hfp : fresh → p = [])
    (hold : p = [] ∨ ∃ old, st.rowAt a p = some old ∧ new.length = old.length)
    (hsg : (fresh ∧ ∀ s, sg = some s → w.heap.size ≤ s.b) ∨ (¬ fresh ∧ sg = L.al a p ∧ ∃ old, st.rowAt a p = some old))
    (hq1 : ∀ v, q v = false → ((∃ lo n, v = .ref a p lo n) ∨ ∃ i j, v = .aptr a p i j) → ∃ old, st.rowAt a p = some old ∧ old.length ≤ new.length ∧ sg = L.al a p)
    (hq2 : ∀ v i j q' row r0, q v = false → ((∃ lo n, v = .ref a (p ++ (i, j) :: q') lo n) ∨ ∃ i' j', v = .aptr a (p ++ (i, j) :: q') i' j') → new[i]? = some row → row[j]? = some (.sl r0) → σ i j = some (a, p ++ [(i, j)]))
    (hrow : RowOK w' (changeAl L a p sg σ) a p new)
    (hblk : ∀ b, b < w.heap.size → ¬ (¬ fresh ∧ ∃ s, L.al a p = some s ∧ b = s.b) → w'.heap[b]? = w.heap[b]?)
    (hsz : w.heap.size ≤ w'.heap.size) (os : w'.os = w.os) (tape : w'.tape = w.tape) (output : w'.output = w.output) :
    RelayOK G w w' L { L with al := changeAl L a p sg σ } st (changeSt st q cons a p new) q (changeRho a p σ) (fun a1 p1 => a1 = a ∧ p1 = p ∧ fresh) (fun b => ¬ fresh ∧ ∃ s, L.al a p = some s ∧ b = s.b) := by
  have notW : ∀ a0 p0 r0 s0, st.rowAt a0 p0 = some r0 → L.al a0 p0 = some s0 → ¬ (a0 = a ∧ p0 = p) → ¬ (¬ fresh ∧ ∃ s, L.al a p = some s ∧ s0.b = s.b) := by
    rintro a0 p0 r0 s0 h1 h2 h3 ⟨hf, s, h4, h5⟩
    rcases hsg with ⟨hf', _⟩ | ⟨_, _, old, ho⟩
    · exact hf hf'
    · exact h3 (h.aa _ _ _ _ _ _ _ _ h1 h2 ho h4 h5)
  have keep : ∀ a0 p0 r0, st.rowAt a0 p0 = some r0 → ¬ (a0 = a ∧ p0 = p) → ∀ s, L.al a0 p0 = some s → w'.heap[s.b]? = w.heap[s.b]? :=
    fun a0 p0 r0 h1 h2 s h3 => hblk _ (h.owns_lt (.inr ⟨_, _, _, _, h1, h3, rfl⟩)) (notW a0 p0 r0 s h1 h3 h2)
  have srcne : ∀ i j a0 p0 q', σ i j = some (a0, p0) → ¬ (a0 = a ∧ p0 ++ q' = p) := by
    rintro i j a0 p0 q' e ⟨e1, e2⟩
    rcases hs.s3 i j a0 p0 e with e3 | ⟨_, x, e3⟩
    · subst e1; exact hs.s4 e3
    · rw [e3] at e2
      have := congrArg List.length e2
      simp at this
  have lensame : ∀ v a1 p1 len', q v = false → ((∃ lo n, v = .ref a1 p1 lo n) ∨ ∃ i j, v = .aptr a1 p1 i j) → (changeSt st q cons a p new).lens a1 p1 = some len' →
      ∃ len, st.lens a1 p1 = some len ∧ len ≤ len' ∧ changeAl L a p sg σ a1 p1 = L.al a1 p1 := by
    intro v a1 p1 len' hv hva hl
    unfold St.lens at hl
    cases hr : (changeSt st q cons a p new).rowAt a1 p1 with
    | none => rw [hr] at hl; cases hl
    | some r' =>
      rw [hr] at hl
      simp only [Option.map_some, Option.some.injEq] at hl
      subst hl
      rcases change_cases hs hold hr with ⟨e1, e2, e3⟩ | ⟨e1, e2, r, e3, e4⟩ | ⟨e1, e2, e3⟩ | ⟨e1, i, j, q', e2, ⟨row, r0, e3, e4⟩, e5⟩
      · exact ⟨r'.length, by unfold St.lens; rw [e3]; rfl, Nat.le_refl _, changeAl_ne e1⟩
      · subst e1
        exact ⟨r.length, by unfold St.lens; rw [e3]; rfl, by rw [e4.1]; exact Nat.le_refl _, changeAl_none e2⟩
      · subst e1; subst e2; subst e3
        obtain ⟨old, o1, o2, o3⟩ := hq1 v hv hva
        exact ⟨old.length, by unfold St.lens; rw [o1]; rfl, o2, by rw [changeAl_self]; exact o3⟩
      · subst e1; subst e2
        have hσ := hq2 v i j q' row r0 hv hva e3 e4
        rcases e5 with ⟨a0, p0, f1, f2⟩ | ⟨f1, _⟩
        · rw [hσ] at f1
          cases f1
          rw [List.append_assoc] at f2
          refine ⟨r'.length, by unfold St.lens; rw [show p ++ (i, j) :: q' = p ++ ([(i, j)] ++ q') from rfl, f2]; rfl, Nat.le_refl _, ?_⟩
          rw [changeAl_below, hσ]; simp
        · rw [hσ] at f1; cases f1
  refine ⟨rfl, rfl, ?_, fun a1 p1 lo n hv len' hl => lensame _ a1 p1 len' hv (.inl ⟨lo, n, rfl⟩) hl, fun a1 p1 i j hv len' hl => lensame _ a1 p1 len' hv (.inr ⟨i, j, rfl⟩) hl, hblk, ?_, hsz, ?_, ?_, ?_, ?_, os, tape, output⟩
  · intro b vs' hb
    simp only [changeSt] at hb
    cases hs' : st.bs b with
    | none => rw [hs'] at hb; cases hb
    | some vs => rw [hs'] at hb; simp only [Option.map_some, Option.some.injEq] at hb; exact ⟨vs, rfl, hb.symm⟩
  · rintro b ⟨hf, s, h1, h2⟩
    rcases hsg with ⟨hf', _⟩ | ⟨_, _, old, ho⟩
    · exact absurd hf' hf
    · exact ⟨a, p, old, s, ho, h1, h2.symm⟩
  · intro a1 p1 r' hr
    rcases change_cases hs hold hr with ⟨e1, e2, e3⟩ | ⟨e1, e2, r, e3, e4⟩ | ⟨e1, e2, e3⟩ | ⟨e1, i, j, q', e2, _, e5⟩
    · exact (h.row a1 p1 r' e3).moved (Like.refl _) (changeAl_ne e1) (fun _ _ _ _ _ _ => changeAl_ne e1) (keep a1 p1 r' e3 (fun hh => e1 hh.1))
    · subst e1
      have hne : ¬ (a1 = a1 ∧ p1 = p) := by rintro ⟨_, e⟩; subst e; rw [strip_nil_of] at e2; cases e2
      refine (h.row a1 p1 r e3).moved e4 (changeAl_none e2) (fun i row j x _ _ => ?_) (keep a1 p1 r e3 hne)
      cases hst : strip p (p1 ++ [(i, j)]) with
      | none => exact changeAl_none hst
      | some t =>
        have hp := strip_some _ _ _ hst
        cases t with
        | nil =>
          -- the very row that was changed: its header is its parent's
          rw [hp, List.append_nil]
          show changeAl L a1 p sg σ a1 p = _
          rw [changeAl_self]
          rcases hsg with ⟨hf, hb⟩ | ⟨_, hb, _⟩
          · rw [hfp hf] at e2; simp [strip] at e2
          · exact hb
        | cons y t =>
          exfalso
          -- then p would be at or above p1
          have hl := congrArg List.length hp
          have : strip p p1 ≠ none := by
            have hpre : p <+: p1 := by
              have h1 : p <+: p1 ++ [(i, j)] := ⟨y :: t, hp.symm⟩
              simp only [List.length_append, List.length_cons, List.length_nil] at hl
              exact List.prefix_of_prefix_length_le h1 (List.prefix_append p1 [(i, j)]) (by omega)
            obtain ⟨u, hu⟩ := hpre
            rw [← hu, strip_append]; simp
          exact this e2
    · subst e1; subst e2; subst e3; exact hrow
    · subst e1; subst e2
      rcases e5 with ⟨a0, p0, f1, f2⟩ | ⟨f1, f2, f3⟩
      · refine (h.row a0 (p0 ++ q') r' f2).moved (Like.refl _) (by show changeAl L a1 p sg σ a1 _ = _; rw [changeAl_below, f1]; rfl) (fun i' row j' x _ _ => ?_) (keep a0 (p0 ++ q') r' f2 (srcne i j a0 p0 q' f1))
        show changeAl L a1 p sg σ a1 _ = _
        rw [List.append_assoc, List.cons_append, changeAl_below, f1]
        simp
      · subst f2; subst f3
        have hnone : changeAl L a1 p sg σ a1 (p ++ (i, j) :: []) = none := by rw [changeAl_below, f1]; rfl
        show (match changeAl L a1 p sg σ a1 (p ++ (i, j) :: []) with | none => _ | some s => _)
        rw [hnone]
  · intro a1 p1 r' s hr hal
    change changeAl L a p sg σ a1 p1 = some s at hal
    rcases change_cases hs hold hr with ⟨e1, e2, e3⟩ | ⟨e1, e2, r, e3, e4⟩ | ⟨e1, e2, e3⟩ | ⟨e1, i, j, q', e2, _, e5⟩
    · right
      rw [show changeAl L a p sg σ a1 p1 = _ from changeAl_ne e1] at hal
      exact ⟨fun hh => e1 hh.1, a1, p1, r', s, changeRho_ne e1, e3, hal, rfl⟩
    · right
      subst e1
      rw [show changeAl L a1 p sg σ a1 p1 = _ from changeAl_none e2] at hal
      refine ⟨?_, a1, p1, r, s, changeRho_none e2, e3, hal, rfl⟩
      rintro ⟨_, e, _⟩; subst e; rw [strip_nil_of] at e2; cases e2
    · subst e1; subst e2
      rw [show changeAl L a1 p1 sg σ a1 p1 = _ from changeAl_self] at hal
      rcases hsg with ⟨hf, hb⟩ | ⟨hf, hb, old, ho⟩
      · left; exact ⟨⟨rfl, rfl, hf⟩, hb s hal⟩
      · right; exact ⟨fun hh => hf hh.2.2, a1, p1, old, s, changeRho_self, ho, by rw [← hb]; exact hal, rfl⟩
    · subst e1; subst e2
      right
      rw [show changeAl L a1 p sg σ a1 (p ++ (i, j) :: q') = _ from changeAl_below i j q'] at hal
      rcases e5 with ⟨a0, p0, f1, f2⟩ | ⟨f1, _⟩
      · rw [f1] at hal
        refine ⟨?_, a0, p0 ++ q', r', s, by rw [changeRho_below, f1]; rfl, f2, hal, rfl⟩
        rintro ⟨_, e, _⟩
        have := congrArg List.length e
        simp at this
      · rw [f1] at hal; cases hal
  · intro a1 p1 r1 a2 p2 r2 hr1 hr2 hf1 hf2 x hx1 hx2
    have key : ∀ a1 p1 r1, (changeSt st q cons a p new).rowAt a1 p1 = some r1 → ∀ x, changeRho a p σ a1 p1 = some x →
        (x = (a1, p1) ∧ a1 ∉ cons ∧ (a1 = a → ∀ y q', p1 ≠ p ++ y :: q')) ∨ (a1 = a ∧ ∃ i j q' a0 p0, p1 = p ++ (i, j) :: q' ∧ σ i j = some (a0, p0) ∧ x = (a0, p0 ++ q')) := by
      intro a1 p1 r1 hr x hx
      rcases change_cases hs hold hr with ⟨e1, e2, e3⟩ | ⟨e1, e2, r, e3, e4⟩ | ⟨e1, e2, e3⟩ | ⟨e1, i, j, q', e2, _, e5⟩
      · rw [changeRho_ne e1] at hx; cases hx
        exact .inl ⟨rfl, e2, fun hh => absurd hh e1⟩
      · subst e1
        rw [changeRho_none e2] at hx; cases hx
        refine .inl ⟨rfl, hs.s4, fun _ y q' e => ?_⟩
        rw [e, strip_append] at e2; cases e2
      · subst e1; subst e2
        rw [changeRho_self] at hx; cases hx
        refine .inl ⟨rfl, hs.s4, fun _ y q' e => ?_⟩
        have := congrArg List.length e
        simp at this
      · subst e1; subst e2
        rw [changeRho_below] at hx
        rcases e5 with ⟨a0, p0, f1, f2⟩ | ⟨f1, _⟩
        · rw [f1] at hx; cases hx
          exact .inr ⟨rfl, i, j, q', a0, p0, rfl, f1, rfl⟩
        · rw [f1] at hx; cases hx
    rcases key a1 p1 r1 hr1 x hx1 with ⟨e1, e2, e3⟩ | ⟨e1, i, j, q1, a0, p0, e2, e3, e4⟩ <;> rcases key a2 p2 r2 hr2 x hx2 with ⟨f1, f2, f3⟩ | ⟨f1, i', j', q2, b0, t0, f2, f3, f4⟩
    · rw [e1] at f1; cases f1; exact ⟨rfl, rfl⟩
    · exfalso
      rw [e1] at f4; cases f4
      rcases hs.s3 i' j' _ _ f3 with g | ⟨g, y, g'⟩
      · exact e2 g
      · exact e3 g y q2 (by rw [g']; simp)
    · exfalso
      rw [f1] at e4; cases e4
      rcases hs.s3 i j _ _ e3 with g | ⟨g, y, g'⟩
      · exact f2 g
      · exact f3 g y q1 (by rw [g']; simp)
    · subst e1; subst f1
      rw [e4] at f4
      simp only [Prod.mk.injEq] at f4
      obtain ⟨g1, g2⟩ := f4
      subst g1
      obtain ⟨l1, l2⟩ := hs.s2 i j i' j' a0 p0 t0 e3 f3
      obtain ⟨g3, g4⟩ := List.append_inj g2 l1
      obtain ⟨l3, l4⟩ := l2 g3
      subst l3; subst l4; subst g4
      exact ⟨rfl, by rw [e2, f2]⟩
  · rintro a1 p1 r1 a2 p2 r2 _ _ ⟨e1, e2, _⟩ ⟨f1, f2, _⟩
    exact ⟨by rw [e1, f1], by rw [e2, f2]⟩
end
end Go.Vm
end
section
/- A row is taken out of an array (or an array takes another name). -/
namespace Go.Vm
/-- A row behind a row that was taken out at p. -/
theorem getRow_gone : ∀ (p : Path) (R : Rows), p ≠ [] → ∀ (q : Path) (r' : Rows), getRow q (goneRow p R) = some r' → (¬ ∃ q', q = p ++ q') ∧ ∃ r, getRow q R = some r ∧ Like r r'
  | [], _, h, _, _, _ => absurd rfl h
  | (i, j) :: [], R, _, q, r', hq => by
    cases h1 : R[i]? with
    | none =>
      simp only [goneRow, h1] at hq
      refine ⟨?_, r', hq, Like.refl _⟩
      rintro ⟨q', e⟩
      subst e
      simp [getRow, h1] at hq
    | some cs =>
      simp only [goneRow, h1] at hq
      have hlt := (List.getElem?_eq_some_iff.mp h1).1
      have hlike : Like R (R.set i (cs.set j .gone)) := by
        refine ⟨by simp, fun i' a b ha hb => ?_⟩
        by_cases hi : i' = i
        · subst hi
          rw [List.getElem?_set_self hlt] at hb
          cases hb
          rw [h1] at ha; cases ha
          refine ⟨by simp, fun j' x y hx hy => ?_⟩
          by_cases hj : j' = j
          · subst hj
            rw [List.getElem?_set_self (List.getElem?_eq_some_iff.mp hx).1] at hy
            cases hy; cases x <;> simp [LikeD]
          · rw [List.getElem?_set_ne (Ne.symm hj), hx] at hy; cases hy; exact LikeD.refl x
        · rw [List.getElem?_set_ne (Ne.symm hi), ha] at hb; cases hb; exact LikeRow.refl a
      cases q with
      | nil =>
        simp only [getRow, Option.some.injEq] at hq
        subst hq
        exact ⟨by rintro ⟨q', e⟩; simp at e, R, rfl, hlike⟩
      | cons x q =>
        obtain ⟨i', j'⟩ := x
        simp only [getRow] at hq
        by_cases hi : i' = i
        · subst hi
          rw [List.getElem?_set_self hlt] at hq
          simp only [] at hq
          by_cases hj : j' = j
          · subst hj
            by_cases hlt' : j' < cs.length
            · rw [List.getElem?_set_self hlt'] at hq; simp at hq
            · rw [List.getElem?_eq_none (by simpa using Nat.le_of_not_lt hlt')] at hq; simp at hq
          · rw [List.getElem?_set_ne (Ne.symm hj)] at hq
            refine ⟨?_, r', by simp only [getRow, h1]; exact hq, Like.refl _⟩
            rintro ⟨q', e⟩
            simp only [List.cons_append, List.nil_append, List.cons.injEq, Prod.mk.injEq] at e
            exact hj e.1.2
        · rw [List.getElem?_set_ne (Ne.symm hi)] at hq
          refine ⟨?_, r', by simp only [getRow]; exact hq, Like.refl _⟩
          rintro ⟨q', e⟩
          simp only [List.cons_append, List.nil_append, List.cons.injEq, Prod.mk.injEq] at e
          exact hi e.1.1
  | (i, j) :: y :: p, R, _, q, r', hq => by
    have hg : goneRow ((i, j) :: y :: p) R = match R[i]? with
      | some cs => match cs[j]? with
        | some (.sl r') => R.set i (cs.set j (.sl (goneRow (y :: p) r')))
        | _ => R
      | none => R := by
      simp only [goneRow] <;> rfl
    have same : goneRow ((i, j) :: y :: p) R = R → (∀ cs r0, R[i]? = some cs → cs[j]? ≠ some (.sl r0)) → (¬ ∃ q', q = (i, j) :: y :: p ++ q') ∧ ∃ r, getRow q R = some r ∧ Like r r' := by
      intro e hn
      rw [e] at hq
      refine ⟨?_, r', hq, Like.refl _⟩
      rintro ⟨q', e'⟩
      rw [e'] at hq
      simp only [List.cons_append, getRow] at hq
      cases h1 : R[i]? with
      | none => simp [h1] at hq
      | some cs =>
        simp only [h1] at hq
        cases h2 : cs[j]? with
        | none => simp [h2] at hq
        | some d =>
          cases d with
          | sl r0 => exact hn cs r0 h1 h2
          | _ => simp [h2] at hq
    cases h1 : R[i]? with
    | none => exact same (by rw [hg, h1]) (fun cs r0 e => by rw [h1] at e; cases e)
    | some cs =>
      cases h2 : cs[j]? with
      | none => exact same (by rw [hg, h1]; simp only [h2]) (fun cs' r0 e e' => by rw [h1] at e; cases e; rw [h2] at e'; cases e')
      | some d =>
        cases d with
        | sl r0 =>
          have hlenG : ∀ (p : Path) (r : Rows), (goneRow p r).length = r.length := by
            intro p
            induction p with
            | nil => intro r; rfl
            | cons z p ih =>
              intro r
              obtain ⟨zi, zj⟩ := z
              cases p with
              | nil => simp only [goneRow]; split <;> simp
              | cons u p =>
                simp only [goneRow]
                split
                · split <;> simp
                · rfl
          simp only [hg, h1, h2] at hq
          cases q with
          | nil =>
            simp only [getRow, Option.some.injEq] at hq
            subst hq
            exact ⟨by rintro ⟨q', e⟩; simp at e, R, rfl, Like.set h1 h2 (hlenG _ _)⟩
          | cons x q =>
            obtain ⟨i', j'⟩ := x
            simp only [getRow] at hq
            by_cases hi : i' = i
            · subst hi
              rw [List.getElem?_set_self (List.getElem?_eq_some_iff.mp h1).1] at hq
              simp only [] at hq
              by_cases hj : j' = j
              · subst hj
                rw [List.getElem?_set_self (List.getElem?_eq_some_iff.mp h2).1] at hq
                simp only [] at hq
                obtain ⟨e1, r, e2, e3⟩ := getRow_gone (y :: p) r0 (by simp) q r' hq
                refine ⟨?_, r, by simp only [getRow, h1, h2]; exact e2, e3⟩
                rintro ⟨q', e⟩
                simp only [List.cons_append, List.cons.injEq, true_and] at e
                exact e1 ⟨q', e⟩
              · rw [List.getElem?_set_ne (Ne.symm hj)] at hq
                refine ⟨?_, r', by simp only [getRow, h1]; exact hq, Like.refl _⟩
                rintro ⟨q', e⟩
                simp only [List.cons_append, List.cons.injEq, Prod.mk.injEq] at e
                exact hj e.1.2
            · rw [List.getElem?_set_ne (Ne.symm hi)] at hq
              refine ⟨?_, r', by simp only [getRow]; exact hq, Like.refl _⟩
              rintro ⟨q', e⟩
              simp only [List.cons_append, List.cons.injEq, Prod.mk.injEq] at e
              exact hi e.1.1
        | _ => exact same (by rw [hg, h1]; simp only [h2]) (fun cs' r0 e e' => by rw [h1] at e; cases e; rw [h2] at e'; cases e')
theorem jpre_self (p q : Path) : jpre p (p ++ q) = true := by
  induction p with
  | nil => rfl
  | cons x p ih => obtain ⟨i, j⟩ := x; simp [jpre, ih]
section
variable {G : Ghost} {w : World} {L : Lay} {st : St} {a : Nat} {p : Path} {nm : Nat}
theorem take_ok (h : Mem G w L st) (hne : nm ≠ a) {rows : Rows} (hr : st.rowAt a p = some rows) :
    RelayOK G w w L { L with al := fun a1 p1 => if a1 = nm then L.al a (p ++ p1) else L.al a1 p1 } st (takeSt st (takeQ a p nm) a p nm) (takeQ a p nm)
      (fun a1 p1 => if a1 = nm then some (a, p ++ p1) else some (a1, p1)) (fun _ _ => False) (fun _ => False) := by
  have cases3 : ∀ a1 p1 r', (takeSt st (takeQ a p nm) a p nm).rowAt a1 p1 = some r' →
      (a1 = nm ∧ st.rowAt a (p ++ p1) = some r') ∨ (a1 ≠ nm ∧ a1 ≠ a ∧ st.rowAt a1 p1 = some r') ∨ (a1 ≠ nm ∧ a1 = a ∧ (¬ ∃ q', p1 = p ++ q') ∧ ∃ r, st.rowAt a p1 = some r ∧ Like r r') := by
    intro a1 p1 r' hh
    unfold St.rowAt at hh
    by_cases e : a1 = nm
    · subst e
      simp only [takeSt, upd_same, hr, Option.bind_some] at hh
      left; exact ⟨rfl, by rw [rowAt_append hr]; exact hh⟩
    · right
      simp only [takeSt] at hh
      rw [upd_ne _ _ e] at hh
      by_cases e' : a1 = a
      · right
        subst e'
        rw [upd_same] at hh
        cases p with
        | nil => simp at hh
        | cons y p =>
          cases hR : st.as a1 with
          | none => rw [hR] at hh; simp at hh
          | some R =>
            rw [hR] at hh
            simp only [Option.map_some, Option.bind_some] at hh
            obtain ⟨e1, r, e2, e3⟩ := getRow_gone (y :: p) R (by simp) p1 r' hh
            exact ⟨e, rfl, e1, r, by unfold St.rowAt; rw [hR]; exact e2, e3⟩
      · left
        rw [upd_ne _ _ e'] at hh
        exact ⟨e, e', hh⟩
  have lensame : ∀ v a1 p1 len', takeQ a p nm v = false → ((∃ lo n, v = .ref a1 p1 lo n) ∨ ∃ i j, v = .aptr a1 p1 i j) → (takeSt st (takeQ a p nm) a p nm).lens a1 p1 = some len' →
      ∃ len, st.lens a1 p1 = some len ∧ len ≤ len' ∧ (if a1 = nm then L.al a (p ++ p1) else L.al a1 p1) = L.al a1 p1 := by
    intro v a1 p1 len' hv hva hl
    simp only [takeQ, Bool.or_eq_false_iff] at hv
    have hnm : a1 ≠ nm := by
      intro e; subst e
      rcases hva with ⟨lo, n, e⟩ | ⟨i, j, e⟩ <;> subst e <;> simp [V.isA] at hv
    unfold St.lens at hl
    cases hr' : (takeSt st (takeQ a p nm) a p nm).rowAt a1 p1 with
    | none => rw [hr'] at hl; cases hl
    | some r' =>
      rw [hr'] at hl
      simp only [Option.map_some, Option.some.injEq] at hl
      subst hl
      rcases cases3 a1 p1 r' hr' with ⟨e, _⟩ | ⟨_, e, e1⟩ | ⟨_, e, e1, r, e2, e3⟩
      · exact absurd e hnm
      · exact ⟨r'.length, by unfold St.lens; rw [e1]; rfl, Nat.le_refl _, if_neg hnm⟩
      · subst e
        exact ⟨r.length, by unfold St.lens; rw [e2]; rfl, by rw [e3.1]; exact Nat.le_refl _, if_neg hnm⟩
  refine ⟨rfl, rfl, ?_, fun a1 p1 lo n hv len' hl => lensame _ a1 p1 len' hv (.inl ⟨lo, n, rfl⟩) hl, fun a1 p1 i j hv len' hl => lensame _ a1 p1 len' hv (.inr ⟨i, j, rfl⟩) hl, fun _ _ _ => rfl, fun _ hw => hw.elim, Nat.le_refl _, ?_, ?_, ?_, ?_, rfl, rfl, rfl⟩
  · intro b vs' hb
    simp only [takeSt] at hb
    cases hs' : st.bs b with
    | none => rw [hs'] at hb; cases hb
    | some vs => rw [hs'] at hb; simp only [Option.map_some, Option.some.injEq] at hb; exact ⟨vs, rfl, hb.symm⟩
  · intro a1 p1 r' hr'
    rcases cases3 a1 p1 r' hr' with ⟨e, e1⟩ | ⟨e, e', e1⟩ | ⟨e, e', e1, r, e2, e3⟩
    · subst e
      exact (h.row _ _ _ e1).moved (Like.refl _) (if_pos rfl) (fun i row j x _ _ => by show (if a1 = a1 then _ else _) = _; rw [if_pos rfl, List.append_assoc]) (fun _ _ => rfl)
    · exact (h.row _ _ _ e1).moved (Like.refl _) (if_neg e) (fun i row j x _ _ => if_neg e) (fun _ _ => rfl)
    · subst e'
      exact (h.row _ _ _ e2).moved e3 (if_neg e) (fun i row j x _ _ => if_neg e) (fun _ _ => rfl)
  · intro a1 p1 r' s hr' hal
    right
    change (if a1 = nm then L.al a (p ++ p1) else L.al a1 p1) = some s at hal
    refine ⟨fun hh => hh, ?_⟩
    rcases cases3 a1 p1 r' hr' with ⟨e, e1⟩ | ⟨e, e', e1⟩ | ⟨e, e', e1, r, e2, e3⟩
    · rw [if_pos e] at hal
      exact ⟨a, p ++ p1, r', s, if_pos e, e1, hal, rfl⟩
    · rw [if_neg e] at hal
      exact ⟨a1, p1, r', s, if_neg e, e1, hal, rfl⟩
    · rw [if_neg e] at hal
      subst e'
      exact ⟨a1, p1, r, s, if_neg e, e2, hal, rfl⟩
  · intro a1 p1 r1 a2 p2 r2 hr1 hr2 _ _ x hx1 hx2
    rcases cases3 a1 p1 r1 hr1 with ⟨e, e1⟩ | ⟨e, e', e1⟩ | ⟨e, e', e1, r, e2, e3⟩ <;> rcases cases3 a2 p2 r2 hr2 with ⟨f, f1⟩ | ⟨f, f', f1⟩ | ⟨f, f', f1, r', f2, f3⟩
    all_goals first | rw [if_pos e] at hx1 | rw [if_neg e] at hx1
    all_goals first | rw [if_pos f] at hx2 | rw [if_neg f] at hx2
    all_goals (rw [← hx2] at hx1; simp only [Option.some.injEq, Prod.mk.injEq] at hx1)
    · exact ⟨by rw [e, f], List.append_cancel_left hx1.2⟩
    · exact absurd hx1.1.symm f'
    · exact absurd ⟨p1, hx1.2.symm⟩ f1
    · exact absurd hx1.1 e'
    · exact hx1
    · exact hx1
    · exact absurd ⟨p2, hx1.2⟩ e1
    · exact hx1
    · exact hx1
  · intro a1 p1 r1 a2 p2 r2 _ _ hh; exact hh.elim
theorem take_out {L : Lay} {st : St} {q : V → Bool} {a nm : Nat} {p : Path} (hnm : nm < outer) :
    ∀ k r, outer ≤ k → (takeSt st q a p nm).as k = some r → (if k = nm then L.al a (p ++ []) else L.al k []) = L.al k [] ∧ ∃ r0, st.as k = some r0 := by
  intro k r hk hr
  have hne : k ≠ nm := by omega
  refine ⟨if_neg hne, ?_⟩
  simp only [takeSt] at hr
  rw [upd_ne _ _ hne] at hr
  by_cases hka : k = a
  · subst hka
    rw [upd_same] at hr
    cases p with
    | nil => cases hr
    | cons x p =>
      cases hs : st.as k with
      | none => rw [hs] at hr; cases hr
      | some r0 => exact ⟨r0, rfl⟩
  · rw [upd_ne _ _ hka] at hr; exact ⟨r, hr⟩
end
end Go.Vm
end
section
/- What a value leaves in an owned cell, and where the rows behind it come from. -/
namespace Go.Vm
def DOf (st : St) : V → D → Prop
  | .d x, y => x.flat = true ∧ y = x
  | .nilsl, y => y = .sl []
  | .ref a [] 0 n, y => ∃ rows, st.as a = some rows ∧ rows.length = n ∧ y = .sl rows
  | _, _ => False
def DsOf (st : St) (vs : List V) (ds : List D) : Prop := vs.length = ds.length ∧ ∀ (j : Nat) (v : V) (d : D), vs[j]? = some v → ds[j]? = some d → DOf st v d
theorem DsOf.nil (st : St) : DsOf st [] [] := ⟨rfl, fun j v d h => by simp at h⟩
theorem DsOf.cons {st : St} {v : V} {d : D} {vs : List V} {ds : List D} (h : DOf st v d) (hs : DsOf st vs ds) : DsOf st (v :: vs) (d :: ds) := by
  refine ⟨by simp [hs.1], fun j v' d' h1 h2 => ?_⟩
  cases j with
  | zero => simp at h1 h2; subst h1; subst h2; exact h
  | succ j => simp at h1 h2; exact hs.2 j v' d' h1 h2
theorem awpD_spec {st : St} {v : V} {K : D → List Nat → Prop} (h : awpD st v K) : ∃ d, DOf st v d ∧ K d ((srcOf v).toList) := by
  unfold awpD at h
  split at h
  · rename_i x; exact ⟨x, ⟨h.1, rfl⟩, h.2⟩
  · exact ⟨.sl [], rfl, h⟩
  · rename_i a n
    split at h
    · rename_i rows hr
      exact ⟨.sl rows, ⟨rows, hr, h.1, rfl⟩, h.2⟩
    · exact h.elim
  · exact h.elim
theorem awpDs_spec {st : St} : ∀ (vs : List V) {K : List D → List Nat → Prop}, awpDs st vs K → ∃ ds, DsOf st vs ds ∧ K ds (vs.filterMap srcOf)
  | [], K, h => ⟨[], DsOf.nil st, h⟩
  | v :: vs, K, h => by
    obtain ⟨d, h1, h2⟩ := awpD_spec (K := fun d c => awpDs st vs fun ds cs => K (d :: ds) (c ++ cs)) h
    obtain ⟨ds, h3, h4⟩ := awpDs_spec vs h2
    refine ⟨d :: ds, h3.cons h1, ?_⟩
    rw [List.filterMap_cons]
    cases hs : srcOf v with
    | none => rw [hs] at h4; simpa using h4
    | some a => rw [hs] at h4; simpa using h4
def RowsOf (st : St) (esz : Nat) (vals : List V) (rows : Rows) : Prop := vals.length = rows.length ∧ ∀ (i : Nat) (v : V) (row : List D), vals[i]? = some v → rows[i]? = some row → row.length = esz ∧ DsOf st v.cells row
theorem awpRows_spec {st : St} {esz : Nat} : ∀ (vals : List V) {K : List (List D) → List Nat → Prop}, awpRows st esz vals K → ∃ rows, RowsOf st esz vals rows ∧ K rows ((vals.flatMap V.cells).filterMap srcOf)
  | [], K, h => ⟨[], ⟨rfl, fun i v row h1 => by simp at h1⟩, h⟩
  | v :: vals, K, h => by
    obtain ⟨ds, h1, h2, h3⟩ := awpDs_spec v.cells (K := fun ds c => ds.length = esz ∧ awpRows st esz vals fun rs cs => K (ds :: rs) (c ++ cs)) h
    obtain ⟨rows, h4, h5⟩ := awpRows_spec vals h3
    refine ⟨ds :: rows, ⟨by simp [h4.1], fun i u row e1 e2 => ?_⟩, ?_⟩
    · cases i with
      | zero => simp at e1 e2; subst e1; subst e2; exact ⟨h2, h1⟩
      | succ i => simp at e1 e2; exact h4.2 i u row e1 e2
    · rw [List.flatMap_cons, List.filterMap_append]; exact h5
theorem nodup_filterMap {α β : Type} {f : α → Option β} : ∀ {l : List α}, (l.filterMap f).Nodup → ∀ {i j : Nat} {x y : α} {b : β}, l[i]? = some x → l[j]? = some y → f x = some b → f y = some b → i = j
  | [], _, i, j, x, y, b, h1, _, _, _ => by simp at h1
  | z :: l, hn, i, j, x, y, b, h1, h2, h3, h4 => by
    have mem : ∀ (k : Nat) (u : α), l[k]? = some u → f u = some b → b ∈ l.filterMap f := fun k u hk hu => List.mem_filterMap.mpr ⟨u, List.mem_of_getElem? hk, hu⟩
    have tail : (l.filterMap f).Nodup := by
      rw [List.filterMap_cons] at hn
      split at hn
      · exact hn
      · exact (List.nodup_cons.mp hn).2
    cases i with
    | zero =>
      cases j with
      | zero => rfl
      | succ j =>
        simp at h1 h2; subst h1
        rw [List.filterMap_cons, h3] at hn
        exact absurd (mem j y h2 h4) (List.nodup_cons.mp hn).1
    | succ i =>
      cases j with
      | zero =>
        simp at h1 h2; subst h2
        rw [List.filterMap_cons, h4] at hn
        exact absurd (mem i x h1 h3) (List.nodup_cons.mp hn).1
      | succ j =>
        simp at h1 h2
        rw [nodup_filterMap tail h1 h2 h3 h4]
theorem DOf.src {st : St} {v : V} {r : Rows} (h : DOf st v (.sl r)) : (∃ a, srcOf v = some a ∧ st.as a = some r) ∨ (srcOf v = none ∧ r = []) := by
  unfold DOf at h
  split at h
  · rename_i x
    obtain ⟨h1, h2⟩ := h
    subst h2; simp [D.flat] at h1
  · right
    simp only [D.sl.injEq] at h
    exact ⟨rfl, h⟩
  · rename_i a n
    obtain ⟨rows, h1, h2, h3⟩ := h
    simp only [D.sl.injEq] at h3
    left; exact ⟨a, rfl, by rw [h3]; exact h1⟩
  · exact h.elim
/-- The cell of a value, by its rows' places. -/
theorem cell_of_val {w : World} {L : Lay} {st : St} {c : Value} {v : V} {d : D} (hr : VRel (envOf w L st) c v) (hd : DOf st v d) {al' : Nat → Path → Option Seg} {a : Nat} {p : Path} {i j : Nat}
    (hal : ∀ b, srcOf v = some b → al' a (p ++ [(i, j)]) = L.al b []) : CellOK al' a p i j c d := by
  unfold DOf at hd
  split at hd
  · rename_i x
    obtain ⟨h1, h2⟩ := hd
    subst h2
    simp only [VRel, envOf] at hr
    cases d with
    | sl _ => simp [D.flat] at h1
    | gone => simp [D.flat] at h1
    | _ => simpa only [Imm, CellOK] using hr
  · subst hd
    simp only [VRel] at hr
    simp only [CellOK, List.length_nil]
    exact ⟨none, 0, hr, Nat.le_refl _, fun _ => rfl, .inl rfl⟩
  · rename_i b n
    obtain ⟨rows, h1, h2, h3⟩ := hd
    subst h3
    simp only [VRel] at hr
    have hlen : (envOf w L st).row b [] = some rows.length := by simp [envOf, St.lens, St.rowAt, h1, getRow]
    obtain ⟨_, ad, cap, e1, e2, e3, e4⟩ := hr.2 _ hlen
    simp only [CellOK]
    refine ⟨ad, cap, by rw [h2]; exact e1, by omega, e3, ?_⟩
    rcases e4 with e4 | ⟨s, e5, e6, e7⟩
    · exact .inl e4
    · right
      have e5' : L.al b [] = some s := e5
      exact ⟨s, by rw [hal b rfl]; exact e5', e6, e7⟩
  · exact hd.elim
theorem srcOf_some {v : V} {a : Nat} (h : srcOf v = some a) : ∃ n, v = .ref a [] 0 n := by
  unfold srcOf at h; split at h
  · rename_i a' n; cases h; exact ⟨n, rfl⟩
  · cases h
theorem DOf.one {w : World} {L : Lay} {st : St} {c : Value} {v : V} {d : D} (hr : VRel (envOf w L st) c v) (hd : DOf st v d) : c.oneCell' = true :=
  (cell_of_val (al' := fun _ _ => (srcOf v).bind fun b => L.al b []) (a := 0) (p := []) (i := 0) (j := 0) hr hd (fun b hb => by simp [hb])).one
theorem DsOf.allcell {st : St} {vs : List V} {ds : List D} (h : DsOf st vs ds) : vs.all V.isCell = true := by
  rw [List.all_eq_true]
  intro v hv
  obtain ⟨j, hj, rfl⟩ := List.getElem_of_mem hv
  have h1 : vs[j]? = some vs[j] := by simp [hj]
  have h2 : ds[j]? = some (ds[j]'(by rw [← h.1]; exact hj)) := by simp [← h.1, hj]
  have := h.2 j _ _ h1 h2
  generalize vs[j] = u at this
  unfold DOf at this
  split at this
  · rename_i x
    obtain ⟨g1, _⟩ := this
    cases x <;> first | rfl | (simp [D.flat] at g1)
  · rfl
  · rfl
  · exact this.elim
end Go.Vm
end
section
/- Stores into owned rows; new rows. -/
namespace Go.Vm
section
variable {P : Program} {o : Oper} {N : Nat} {G : Ghost} {ac : Act} {w : World} {L : Lay} {st : St} {K : St → Prop} {Q : Exit → Act → World → Prop}
theorem isUnder_below (a : Nat) (p : Path) (x : Nat × Nat) (q' : Path) (v : V) (hv : (∃ lo n, v = .ref a (p ++ x :: q') lo n) ∨ ∃ i j, v = .aptr a (p ++ x :: q') i j) : V.isUnder a p v = true := by
  rcases hv with ⟨lo, n, e⟩ | ⟨i, j, e⟩ <;> subst e <;> simp [V.isUnder, jpre_self]
theorem getElem?_splice (cs ds : List D) (j k : Nat) (hle : j + ds.length ≤ cs.length) :
    (cs.take j ++ ds ++ cs.drop (j + ds.length))[k]? = if j ≤ k ∧ k < j + ds.length then ds[k - j]? else cs[k]? := by
  rw [List.append_assoc, List.getElem?_append, List.getElem?_append]
  simp only [List.length_take, Nat.min_eq_left (show j ≤ cs.length by omega), List.getElem?_drop, List.getElem?_take]
  by_cases h1 : k < j
  · rw [if_pos h1, if_pos h1, if_neg (by omega)]
  · rw [if_neg h1]
    by_cases h2 : k < j + ds.length
    · rw [if_pos (by omega), if_pos (by omega)]
    · rw [if_neg (by omega), if_neg (by omega)]
      congr 1; omega
theorem mul_lt_sep {i i' sz j j' : Nat} (h : i ≠ i') (hj : j < sz) (hj' : j' < sz) : i * sz + j ≠ i' * sz + j' := by
  rcases Nat.lt_or_gt_of_ne h with h | h
  · have : (i + 1) * sz ≤ i' * sz := Nat.mul_le_mul_right _ h
    rw [Nat.add_mul] at this; omega
  · have : (i' + 1) * sz ≤ i * sz := Nat.mul_le_mul_right _ h
    rw [Nat.add_mul] at this; omega
theorem ok_store_arr (hdn : o.dst = none) (h : Rel G N ac w L st) {t : TypeId} {ti : TypeInfo} {x v : Operand} {y u : Opd} (ho : o.op = .store t x v) (hx : chkOpd x y = true) (hv : chkOpd v u = true)
    (ht : P.info? t = some ti) {a : Nat} {p : Path} {i j : Nat} (hy : st.ev y = .aptr a p i j)
    {H : Handler} (hp : awpOp H o.dst (.store ti.size y u) st K) : o.wp P ac w (AfterT G N K w (fun b' => ∃ s, L.al a p = some s ∧ b' = s.b)) Q := by
  simp only [awpOp, hy] at hp
  obtain ⟨rows, cs, hr, hi, hp⟩ := hp
  obtain ⟨ds, hds, hsz, hnd, hle, hac, hK⟩ := awpDs_spec _ hp
  have hval := h.ev hv
  obtain ⟨f1, f2⟩ := cells_rel hval hds.allcell
  have hlen1 := f1.length
  simp only [Array.length_toList] at hlen1
  have hdl := hds.1
  -- the place
  have hx' := h.ev hx
  rw [hy] at hx'
  simp only [VRel] at hx'
  obtain ⟨b, o', hptr, hx2⟩ := hx'
  obtain ⟨s, hal, hb, ho'⟩ := hx2 rows.length (by simp [envOf, St.lens, hr])
  subst hb; subst ho'
  have hal' : L.al a p = some s := hal
  have hro := h.mem.row a p rows hr
  unfold RowOK at hro
  rw [hal'] at hro
  obtain ⟨csA, ty, fr, hheap, htop, hunf, hcells⟩ := hro
  obtain ⟨hcl, hcv⟩ := hcells i cs hi
  have hilt : i < rows.length := (List.getElem?_eq_some_iff.mp hi).1
  -- it fits
  have hfit : ds = [] ∨ s.o + i * s.sz + j + ds.length ≤ csA.size := by
    rcases Nat.eq_zero_or_pos ds.length with h0 | h0
    · left; exact List.length_eq_zero_iff.mp h0
    · right
      obtain ⟨xd, hxd⟩ : ∃ xd, cs[j + ds.length - 1]? = some xd := ⟨cs[j + ds.length - 1]'(by omega), by simp [show j + ds.length - 1 < cs.length by omega]⟩
      obtain ⟨c, hc, _⟩ := hcv _ xd hxd
      have := (Array.getElem?_eq_some_iff.mp hc).1
      omega
  have hfit' : s.o + i * s.sz + j + (ac.eval v).cells.toList.length ≤ csA.size ∨ (ac.eval v).cells.toList = [] := by
    rcases hfit with e | e
    · right; apply List.length_eq_zero_iff.mp; rw [f1.length, hdl, e]; rfl
    · left; simp only [Array.length_toList]; omega
  -- the new row
  generalize hnew : rows.set i (cs.take j ++ ds ++ cs.drop (j + ds.length)) = new at hK
  have hnewget : ∀ i', new[i']? = if i' = i then some (cs.take j ++ ds ++ cs.drop (j + ds.length)) else rows[i']? := by
    intro i'
    rw [← hnew]
    by_cases e : i' = i
    · subst e; rw [if_pos rfl, List.getElem?_set_self hilt]
    · rw [if_neg e, List.getElem?_set_ne (Ne.symm e)]
  let σ : Nat → Nat → Option (Nat × Path) := fun i1 j1 => if i1 = i ∧ j ≤ j1 ∧ j1 < j + ds.length then (((st.ev u).cells[j1 - j]?).bind srcOf).map (·, []) else some (a, p ++ [(i1, j1)])
  have hcellsrc : ∀ k vk b, (st.ev u).cells[k]? = some vk → srcOf vk = some b → b ∈ (st.ev u).cells.filterMap srcOf := fun k vk b h1 h2 => List.mem_filterMap.mpr ⟨vk, List.mem_of_getElem? h1, h2⟩
  have hsource : Source st ((st.ev u).cells.filterMap srcOf) a p new σ := by
    refine ⟨?_, ?_, ?_, hac⟩
    · intro i1 row j1 r h1 h2
      rw [hnewget] at h1
      by_cases e : i1 = i ∧ j ≤ j1 ∧ j1 < j + ds.length
      · rw [if_pos e.1] at h1
        cases h1
        rw [getElem?_splice cs ds j j1 hle, if_pos e.2] at h2
        obtain ⟨vk, hvk⟩ : ∃ vk, (st.ev u).cells[j1 - j]? = some vk := ⟨(st.ev u).cells[j1 - j]'(by omega), by simp [show j1 - j < (st.ev u).cells.length by omega]⟩
        rcases (hds.2 _ _ _ hvk h2).src with ⟨b, e1, e2⟩ | ⟨e1, e2⟩
        · left
          refine ⟨b, [], ?_, by unfold St.rowAt; rw [e2]; rfl⟩
          show (if _ then _ else _) = _
          rw [if_pos e, hvk]; simp [e1]
        · right
          refine ⟨?_, e2⟩
          show (if _ then _ else _) = _
          rw [if_pos e, hvk]; simp [e1]
      · left
        refine ⟨a, p ++ [(i1, j1)], if_neg e, ?_⟩
        by_cases e1 : i1 = i
        · subst e1
          rw [if_pos rfl] at h1; cases h1
          rw [getElem?_splice cs ds j j1 hle, if_neg (fun hh => e ⟨rfl, hh⟩)] at h2
          exact rowAt_sub hr hi h2
        · rw [if_neg e1] at h1
          exact rowAt_sub hr h1 h2
    · intro i1 j1 i2 j2 a0 p0 p0' h1 h2
      by_cases e1 : i1 = i ∧ j ≤ j1 ∧ j1 < j + ds.length <;> by_cases e2 : i2 = i ∧ j ≤ j2 ∧ j2 < j + ds.length
      · rw [show σ i1 j1 = _ from if_pos e1] at h1
        rw [show σ i2 j2 = _ from if_pos e2] at h2
        simp only [Option.map_eq_some_iff, Option.bind_eq_some_iff, Prod.mk.injEq] at h1 h2
        obtain ⟨b1, ⟨v1, g1, g2⟩, g3, g4⟩ := h1
        obtain ⟨b2, ⟨v2, k1, k2⟩, k3, k4⟩ := h2
        subst g3; subst g4; subst k3; subst k4
        refine ⟨rfl, fun _ => ?_⟩
        have := nodup_filterMap hnd g1 k1 g2 k2
        omega
      · exfalso
        rw [show σ i1 j1 = _ from if_pos e1] at h1
        rw [show σ i2 j2 = _ from if_neg e2] at h2
        simp only [Option.map_eq_some_iff, Option.bind_eq_some_iff, Prod.mk.injEq, Option.some.injEq] at h1 h2
        obtain ⟨b1, ⟨v1, g1, g2⟩, g3, g4⟩ := h1
        exact hac (h2.1 ▸ g3 ▸ hcellsrc _ _ _ g1 g2)
      · exfalso
        rw [show σ i1 j1 = _ from if_neg e1] at h1
        rw [show σ i2 j2 = _ from if_pos e2] at h2
        simp only [Option.map_eq_some_iff, Option.bind_eq_some_iff, Prod.mk.injEq, Option.some.injEq] at h1 h2
        obtain ⟨b1, ⟨v1, g1, g2⟩, g3, g4⟩ := h2
        exact hac (h1.1 ▸ g3 ▸ hcellsrc _ _ _ g1 g2)
      · rw [show σ i1 j1 = _ from if_neg e1] at h1
        rw [show σ i2 j2 = _ from if_neg e2] at h2
        simp only [Option.some.injEq, Prod.mk.injEq] at h1 h2
        obtain ⟨_, g2⟩ := h1
        obtain ⟨_, k2⟩ := h2
        subst g2; subst k2
        refine ⟨by simp, fun e => ?_⟩
        have := List.append_cancel_left e
        simp at this; exact this
    · intro i1 j1 a0 p0 h1
      by_cases e1 : i1 = i ∧ j ≤ j1 ∧ j1 < j + ds.length
      · rw [show σ i1 j1 = _ from if_pos e1] at h1
        simp only [Option.map_eq_some_iff, Option.bind_eq_some_iff, Prod.mk.injEq] at h1
        obtain ⟨b1, ⟨v1, g1, g2⟩, g3, _⟩ := h1
        left; exact g3 ▸ hcellsrc _ _ _ g1 g2
      · rw [show σ i1 j1 = _ from if_neg e1] at h1
        simp only [Option.some.injEq, Prod.mk.injEq] at h1
        right; exact ⟨h1.1.symm, (i1, j1), h1.2.symm⟩
  generalize hw' : setBlk w s.b (.cells (setAll csA (s.o + i * s.sz + j) (ac.eval v).cells.toList) ty fr) = w' at *
  have hblt := lt_of_blk hheap
  have hnl : new.length = rows.length := by rw [← hnew]; simp
  have hgetw : ∀ k, w'.heap[k]? = if k = s.b then some (.cells (setAll csA (s.o + i * s.sz + j) (ac.eval v).cells.toList) ty fr) else w.heap[k]? := by
    intro k; rw [← hw']; exact setBlk_get w _ _ hblt k
  -- the row's cells behind the store
  have hrow : RowOK w' (changeAl L a p (L.al a p) σ) a p new := by
    unfold RowOK
    rw [changeAl_self, hal']
    refine ⟨_, ty, fr, by rw [hgetw, if_pos rfl], by rw [setAll_size]; exact htop, by rw [setAll_size]; exact hunf, ?_⟩
    intro i1 row h1
    rw [hnewget] at h1
    have alself : ∀ j1, ¬ (i1 = i ∧ j ≤ j1 ∧ j1 < j + ds.length) → changeAl L a p (some s) σ a (p ++ [(i1, j1)]) = L.al a (p ++ [(i1, j1)]) := by
      intro j1 e
      rw [changeAl_below, show σ i1 j1 = _ from if_neg e]; simp
    have getA : ∀ k, (setAll csA (s.o + i * s.sz + j) (ac.eval v).cells.toList)[k]? = if s.o + i * s.sz + j ≤ k ∧ k < s.o + i * s.sz + j + ds.length then (ac.eval v).cells.toList[k - (s.o + i * s.sz + j)]? else csA[k]? := by
      intro k
      rcases hfit' with e | e
      · rw [setAll_get _ _ _ _ e, f1.length, hdl]
      · have : ds.length = 0 := by rw [← hdl, ← f1.length, e]; rfl
        rw [e, if_neg (by omega)]; rfl
    by_cases e1 : i1 = i
    · subst e1
      rw [if_pos rfl] at h1; cases h1
      refine ⟨by simp; omega, fun j1 xd h2 => ?_⟩
      rw [getElem?_splice cs ds j j1 hle] at h2
      by_cases e2 : j ≤ j1 ∧ j1 < j + ds.length
      · rw [if_pos e2] at h2
        obtain ⟨vk, hvk⟩ : ∃ vk, (st.ev u).cells[j1 - j]? = some vk := ⟨(st.ev u).cells[j1 - j]'(by omega), by simp [show j1 - j < (st.ev u).cells.length by omega]⟩
        obtain ⟨c, hc, hcr⟩ := f1.get _ _ hvk
        refine ⟨c, ?_, cell_of_val hcr (hds.2 _ _ _ hvk h2) ?_⟩
        · rw [getA, if_pos (by omega), show s.o + i1 * s.sz + j1 - (s.o + i1 * s.sz + j) = j1 - j by omega]; exact hc
        · intro b hb
          rw [changeAl_below, show σ i1 j1 = _ from if_pos ⟨rfl, e2⟩, hvk]; simp [hb]
      · rw [if_neg e2] at h2
        obtain ⟨c, hc, hok⟩ := hcv j1 xd h2
        refine ⟨c, ?_, hok.al (alself j1 (fun hh => e2 hh.2))⟩
        rw [getA, if_neg (by omega)]; exact hc
    · rw [if_neg e1] at h1
      obtain ⟨g1, g2⟩ := hcells i1 row h1
      refine ⟨g1, fun j1 xd h2 => ?_⟩
      obtain ⟨c, hc, hok⟩ := g2 j1 xd h2
      refine ⟨c, ?_, hok.al (alself j1 (fun hh => e1 hh.1))⟩
      rw [getA, if_neg]
      · exact hc
      · intro hh
        have hj1 : j1 < s.sz := by rw [← g1]; exact (List.getElem?_eq_some_iff.mp h2).1
        have := mul_lt_sep (j := j1) (j' := s.o + i1 * s.sz + j1 - (s.o + i * s.sz)) e1 hj1 (by omega)
        omega
  have hk := change_ok (G := G) (w := w) (w' := w') (q := fun v => (ds.any D.isSl || ((cs.drop j).take ds.length).any D.isSl) && V.isUnder a p v) (sg := L.al a p) h.mem hsource False (fun hf => hf.elim)
    (.inr ⟨rows, hr, hnl⟩) (.inr ⟨fun hf => hf, rfl, rows, hr⟩) (fun _ _ _ => ⟨rows, hr, by omega, rfl⟩) ?_ hrow ?_ (by rw [← hw']; simp [setBlk]) (by rw [← hw']; rfl) (by rw [← hw']; rfl) (by rw [← hw']; rfl)
  · refine wp_skipv (w' := w') ?_ ⟨⟨{ L with al := changeAl L a p (L.al a p) σ }, _, hK, ?_⟩, fun b hb hn => hk.hblk b hb (fun hh => hn hh.2)⟩
    · have hst : (storeCells ⟨s.b, s.o + i * s.sz + j, none⟩ (ac.eval v).cells.toList 0).run P w = .ok () w' := by
        rw [← hw']
        rcases hfit' with e | e
        · have := run_storeCells (P := P) (ac.eval v).cells.toList w (s.o + i * s.sz + j) 0 csA hheap hunf f2 (by omega)
          simpa using this
        · rw [e]; simp only [storeCells, Sem.run_pure, setAll, setBlk_same w s.b _ hheap]
      have hs : (Instr.storeAt t (ac.eval x) (ac.eval v)).run P w = .ok () w' := by
        rw [hptr]
        simp only [Instr.storeAt, Sem.run_bind, Instr.sureAddr, Sem.run_pure, Result.andThen_ok, storeVar, run_sizeOf ht]
        rw [if_neg (by omega)]
        exact hst
      simp only [execOp, ho, Sem.run_bind, hs, Result.andThen_ok, Sem.run_pure]
    · rw [hdn]; exact hk.rel h (fun _ => rfl) (change_out (fun _ => ⟨(by
        unfold St.rowAt at hr
        cases ha : st.as a with
        | none => rw [ha] at hr; cases hr
        | some r0 => exact ⟨r0, rfl⟩), fun e => by rw [e]⟩))
  · intro v' i1 j1 q' row r0 hq hva h1 h2
    by_cases e : i1 = i ∧ j ≤ j1 ∧ j1 < j + ds.length
    · exfalso
      rw [isUnder_below a p (i1, j1) q' v' hva, Bool.and_true] at hq
      rw [hnewget, if_pos e.1] at h1; cases h1
      rw [getElem?_splice cs ds j j1 hle, if_pos e.2] at h2
      have : ds.any D.isSl = true := List.any_eq_true.mpr ⟨_, List.mem_of_getElem? h2, rfl⟩
      rw [this] at hq; simp at hq
    · exact if_neg e
  · intro k hk hnw
    rw [hgetw, if_neg]
    intro e; exact hnw ⟨fun hf => hf, s, hal', e⟩
end
end Go.Vm
end
section
/- New rows: literals, make, bytes of a string. -/
namespace Go.Vm
theorem zipIdx_foldl (off : Nat) : ∀ (l : List Value) (k : Nat) (cs : Array Value), (l.zipIdx k).foldl (fun cs (x : Value × Nat) => cs.setIfInBounds (off + x.2) x.1) cs = setAll cs (off + k) l
  | [], _, _ => rfl
  | v :: l, k, cs => by
    simp only [List.zipIdx_cons, List.foldl_cons, setAll]
    rw [zipIdx_foldl off l (k + 1)]; rfl
def setRows (size : Nat) : List Value → Nat → Array Value → Array Value
  | [], _, cs => cs
  | v :: vs, i, cs => setRows size vs (i + 1) (setAll cs (i * size) v.cells.toList)
theorem setRows_size (size : Nat) : ∀ (vs : List Value) (i : Nat) (cs : Array Value), (setRows size vs i cs).size = cs.size
  | [], _, _ => rfl
  | v :: vs, i, cs => by simp [setRows, setRows_size size vs, setAll_size]
theorem fill_rows (size : Nat) : ∀ (vs : List Value) (k : Nat) (cs : Array Value), (∀ v ∈ vs, v.cells.size = size) → (k + vs.length) * size ≤ cs.size →
    Instr.fill (fun i => some (i * size, size)) cs ((vs.zipIdx k).map fun x => (x.2, x.1)) = some (setRows size vs k cs)
  | [], _, _, _, _ => rfl
  | v :: vs, k, cs, h, hle => by
    have h1 := h v (by simp)
    simp only [List.length_cons] at hle
    have hk : (k + 1) * size ≤ (k + (vs.length + 1)) * size := Nat.mul_le_mul_right _ (by omega)
    have hk' : (k + 1) * size = k * size + size := by rw [Nat.add_mul]; omega
    simp only [List.zipIdx_cons, List.map_cons, Instr.fill, setRows]
    rw [if_neg (by simp [h1]; omega)]
    have hz : Array.foldl (fun cs (x : Value × Nat) => cs.setIfInBounds (k * size + x.2) x.1) cs v.cells.zipIdx = setAll cs (k * size) v.cells.toList := by
      rw [← Array.foldl_toList]
      have := zipIdx_foldl (k * size) v.cells.toList 0 cs
      rw [Array.toList_zipIdx]
      simpa using this
    have e3 : k + 1 + vs.length = k + (vs.length + 1) := by omega
    have := fill_rows size vs (k + 1) (setAll cs (k * size) v.cells.toList) (fun x hx => h x (by simp [hx])) (by rw [setAll_size, e3]; exact hle)
    rw [← this]
    exact congrArg (fun z => Instr.fill (fun i => some (i * size, size)) z (List.map (fun x => (x.snd, x.fst)) (vs.zipIdx (k + 1)))) hz
theorem setRows_get (size : Nat) : ∀ (vs : List Value) (k : Nat) (cs : Array Value), (∀ v ∈ vs, v.cells.size = size) → (k + vs.length) * size ≤ cs.size →
    ∀ (i j : Nat) (v c : Value), vs[i]? = some v → v.cells[j]? = some c → (setRows size vs k cs)[(k + i) * size + j]? = some c
  | [], _, _, _, _, i, j, v, c, h, _ => by simp at h
  | u :: vs, k, cs, h, hle, i, j, v, c, hi, hj => by
    have hu := h u (by simp)
    simp only [List.length_cons] at hle
    have hk : (k + 1) * size ≤ (k + (vs.length + 1)) * size := Nat.mul_le_mul_right _ (by omega)
    have hk' : (k + 1) * size = k * size + size := by rw [Nat.add_mul]; omega
    have hle' : (k + 1 + vs.length) * size ≤ (setAll cs (k * size) u.cells.toList).size := by
      have e3 : k + 1 + vs.length = k + (vs.length + 1) := by omega
      rw [setAll_size, e3]; exact hle
    simp only [setRows]
    cases i with
    | zero =>
      simp at hi; subst hi
      -- later rows do not touch it
      have later : ∀ (vs : List Value) (m : Nat) (ds : Array Value) (x : Nat), (∀ v ∈ vs, v.cells.size = size) → (m + vs.length) * size ≤ ds.size → x < m * size → (setRows size vs m ds)[x]? = ds[x]? := by
        intro vs
        induction vs with
        | nil => intro m ds x _ _ _; rfl
        | cons y ys ih =>
          intro m ds x hy hl hx
          simp only [List.length_cons] at hl
          have e1 : (m + 1) * size ≤ (m + (ys.length + 1)) * size := Nat.mul_le_mul_right _ (by omega)
          have e2 : (m + 1) * size = m * size + size := by rw [Nat.add_mul]; omega
          have e3 : m + 1 + ys.length = m + (ys.length + 1) := by omega
          simp only [setRows]
          rw [ih (m + 1) _ x (fun z hz => hy z (by simp [hz])) (by rw [setAll_size, e3]; exact hl) (by omega)]
          rw [setAll_get _ _ _ _ (by simp only [Array.length_toList]; rw [hy y (by simp)]; omega), if_neg (by omega)]
      have hjlt : j < size := by rw [← hu]; exact (Array.getElem?_eq_some_iff.mp hj).1
      rw [later vs (k + 1) _ _ (fun x hx => h x (by simp [hx])) hle' (by simp; omega)]
      rw [setAll_get _ _ _ _ (by simp only [Array.length_toList]; omega)]
      rw [if_pos (by simp only [Array.length_toList, Nat.add_zero]; omega)]
      simpa using hj
    | succ i =>
      simp at hi
      have := setRows_get size vs (k + 1) _ (fun x hx => h x (by simp [hx])) hle' i j v c hi hj
      rwa [show k + 1 + i = k + (i + 1) by omega] at this
theorem nodup_flat {f : V → Option Nat} : ∀ {l : List V}, ((l.flatMap V.cells).filterMap f).Nodup → ∀ {i j i' j' : Nat} {v v' x x' : V} {b : Nat}, l[i]? = some v → v.cells[j]? = some x → f x = some b →
    l[i']? = some v' → v'.cells[j']? = some x' → f x' = some b → i = i' ∧ j = j'
  | [], _, i, j, i', j', v, v', x, x', b, h1, _, _, _, _, _ => by simp at h1
  | u :: l, hn, i, j, i', j', v, v', x, x', b, h1, h2, h3, h4, h5, h6 => by
    rw [List.flatMap_cons, List.filterMap_append, List.nodup_append] at hn
    obtain ⟨n1, n2, n3⟩ := hn
    have inl : ∀ (k m : Nat) (y z : V), l[k]? = some y → y.cells[m]? = some z → f z = some b → b ∈ (l.flatMap V.cells).filterMap f := fun k m y z e1 e2 e3 =>
      List.mem_filterMap.mpr ⟨z, List.mem_flatMap.mpr ⟨y, List.mem_of_getElem? e1, List.mem_of_getElem? e2⟩, e3⟩
    have inu : ∀ (m : Nat) (z : V), u.cells[m]? = some z → f z = some b → b ∈ u.cells.filterMap f := fun m z e2 e3 => List.mem_filterMap.mpr ⟨z, List.mem_of_getElem? e2, e3⟩
    cases i with
    | zero =>
      simp at h1; subst h1
      cases i' with
      | zero =>
        simp at h4; subst h4
        exact ⟨rfl, nodup_filterMap n1 h2 h5 h3 h6⟩
      | succ i' =>
        simp at h4
        exact absurd rfl (n3 b (inu j x h2 h3) b (inl i' j' v' x' h4 h5 h6))
    | succ i =>
      simp at h1
      cases i' with
      | zero =>
        simp at h4; subst h4
        exact absurd rfl (n3 b (inu j' x' h5 h6) b (inl i j v x h1 h2 h3))
      | succ i' =>
        simp at h4
        obtain ⟨e1, e2⟩ := nodup_flat n2 h1 h2 h3 h4 h5 h6
        exact ⟨by rw [e1], e2⟩
section
variable {P : Program} {o : Oper} {N : Nat} {G : Ghost} {ac : Act} {w w' : World} {L : Lay} {st : St} {K : St → Prop} {Q : Exit → Act → World → Prop}
theorem isA_of {nm : Nat} {v : V} {p : Path} (hv : (∃ lo n, v = .ref nm p lo n) ∨ ∃ i j, v = .aptr nm p i j) : V.isA [nm] v = true := by
  rcases hv with ⟨lo, n, e⟩ | ⟨i, j, e⟩ <;> subst e <;> simp [V.isA]
/-- A new block becomes the array nm. -/
theorem Rel.newArr (h : Rel G N ac w L st) {nm : Nat} (hnm : nm < outer) {rows : Rows} {cons : List Nat} {σ : Nat → Nat → Option (Nat × Path)} (hs : Source st cons nm [] rows σ) {cells : Array Value} {ty : TypeId} {fr : Nat × Nat} {esz : Nat}
    (hheap : ∀ k, k ≤ w.heap.size → w'.heap[k]? = if k = w.heap.size then some (.cells cells ty fr) else w.heap[k]?) (hsz : w.heap.size ≤ w'.heap.size) (hu : Unfrozen cells.size fr)
    (os : w'.os = w.os) (tape : w'.tape = w.tape) (output : w'.output = w.output)
    (hc : CellsOK (changeAl L nm [] (some ⟨w.heap.size, 0, esz, cells.size⟩) σ) cells nm [] ⟨w.heap.size, 0, esz, cells.size⟩ rows) :
    Rel G N ac w' { L with al := changeAl L nm [] (some ⟨w.heap.size, 0, esz, cells.size⟩) σ } (changeSt st (V.isA [nm]) cons nm [] rows) := by
  have hk := change_ok (G := G) (w := w) (w' := w') (q := V.isA [nm]) (sg := some ⟨w.heap.size, 0, esz, cells.size⟩) h.mem hs True (fun _ => rfl) (.inl rfl)
    (.inl ⟨trivial, fun s e => by cases e; exact Nat.le_refl _⟩)
    (fun v hv hva => by rw [isA_of hva] at hv; cases hv)
    (fun v i j q' row r0 hv hva _ _ => by rw [isA_of hva] at hv; cases hv)
    (by unfold RowOK; rw [changeAl_self]; exact ⟨cells, ty, fr, by rw [hheap _ (Nat.le_refl _), if_pos rfl], rfl, hu, hc⟩)
    (fun k hk _ => by rw [hheap k (by omega), if_neg (by omega)]) hsz os tape output
  exact hk.rel h (fun _ => rfl) (change_out fun hh => absurd hnm (by omega))
/-- The nil slice as an array without rows. -/
theorem Rel.adopt (h : Rel G N ac w L st) (nm : Nat) (hnm : nm < outer) : Rel G N ac w { L with al := changeAl L nm [] none (fun _ _ => none) } (changeSt st (V.isA [nm]) [] nm [] []) := by
  have hk := change_ok (G := G) (w := w) (w' := w) (q := V.isA [nm]) (sg := none) (new := []) (σ := fun _ _ => none) (cons := []) (a := nm) (p := []) h.mem
    ⟨(fun i row j r h1 => by simp at h1), (fun i j i' j' a0 p0 p0' h1 => by cases h1), (fun i j a0 p0 h1 => by cases h1), by simp⟩ True (fun _ => rfl) (.inl rfl)
    (.inl ⟨trivial, fun s e => by cases e⟩)
    (fun v hv hva => by rw [isA_of hva] at hv; cases hv)
    (fun v i j q' row r0 hv hva _ _ => by rw [isA_of hva] at hv; cases hv)
    (by unfold RowOK; rw [changeAl_self])
    (fun _ _ _ => rfl) (Nat.le_refl _) rfl rfl rfl
  exact hk.rel h (fun _ => rfl) (change_out fun hh => absurd hnm (by omega))
/-- A view of a whole new array. -/
theorem view_new (st : St) (L : Lay) (w : World) {nm : Nat} {s : Seg} {n : Nat} (hlen : st.lens nm [] = some n) (hal : L.al nm [] = some s) {cap : Nat} (hcap : n ≤ cap) (h0 : n = 0 → cap = 0) (htop : s.o + cap * s.sz ≤ s.top) :
    VRel (envOf w L st) (.slice (some ⟨s.b, s.o, none⟩) n cap) (.ref nm [] 0 n) := by
  simp only [VRel]
  refine ⟨⟨_, _, rfl, hcap, fun e => by cases e⟩, fun len hl => ?_⟩
  have hl' : st.lens nm [] = some len := hl
  rw [hlen] at hl'; cases hl'
  exact ⟨by omega, _, _, rfl, hcap, h0, .inr ⟨s, hal, by simp, by simpa using htop⟩⟩
theorem changeSt_lens (st : St) (q : V → Bool) (cons : List Nat) (nm : Nat) (rows : Rows) : (changeSt st q cons nm [] rows).lens nm [] = some rows.length := by
  simp [St.lens, St.rowAt, changeSt, upd_same, getRow]
def chkParts : List (Nat × Operand) → List Opd → Nat → Bool
  | [], [], _ => true
  | (i, x) :: ps, y :: ys, k => i == k && chkOpd x y && chkParts ps ys (k + 1)
  | _, _, _ => false
theorem chkParts_eq : ∀ (ps : List (Nat × Operand)) (ys : List Opd) (k : Nat), chkParts ps ys k = true → ps = ((ps.map (·.2)).zipIdx k).map (fun x => (x.2, x.1)) ∧ ps.length = ys.length ∧
    ∀ (i : Nat) (x : Operand) (y : Opd), (ps.map (·.2))[i]? = some x → ys[i]? = some y → chkOpd x y = true
  | [], [], _, _ => ⟨rfl, rfl, fun i x y h => by simp at h⟩
  | [], _ :: _, _, h => by simp [chkParts] at h
  | _ :: _, [], _, h => by simp [chkParts] at h
  | (i, x) :: ps, y :: ys, k, h => by
    simp only [chkParts, Bool.and_eq_true, beq_iff_eq] at h
    obtain ⟨⟨h1, h2⟩, h3⟩ := h
    obtain ⟨e1, e2, e3⟩ := chkParts_eq ps ys (k + 1) h3
    refine ⟨?_, by simp [e2], ?_⟩
    · simp only [List.map_cons, List.zipIdx_cons]
      rw [← e1, h1]
    · intro j x' y' g1 g2
      cases j with
      | zero => simp at g1 g2; subst g1; subst g2; exact h2
      | succ j => simp at g1 g2; exact e3 j x' y' (by simpa using g1) g2
theorem ok_mkrow (hd : ∀ k, o.dst = some k → k < N) (h : Rel G N ac w L st) {t e : TypeId} {te : TypeInfo} {n nm : Nat} {parts : Array (Nat × Operand)} {ys : List Opd} (ho : o.op = .buildSlice t n parts)
    (hc : chkParts parts.toList ys 0 = true) (hn : n = ys.length) (ht : P.underlying t = some (.slice e)) (he : P.info? e = some te) (hz : te.zero.isSome = true) (hlim : n * te.size ≤ 2 ^ 24) (hnmo : nm < outer)
    {H : Handler} (hp : awpOp H o.dst (.mkrow nm te.size ys) st K) : o.wp P ac w (AfterT G N K w (fun _ => False)) Q := by
  obtain ⟨e1, e2, e3⟩ := chkParts_eq _ _ _ hc
  simp only [awpOp] at hp
  obtain ⟨rows, hrows, hnd, hnm, hK⟩ := awpRows_spec _ hp
  -- the values of the parts
  let vals : List Value := (parts.toList.map (·.2)).map ac.eval
  have hvlen : vals.length = ys.length := by simp [vals, ← e2]
  have hrel : ∀ (i : Nat) (v : Value), vals[i]? = some v → ∃ y : Opd, ys[i]? = some y ∧ VRel (envOf w L st) v (st.ev y) := by
    intro i v hv
    have hi : i < ys.length := by rw [← hvlen]; exact (List.getElem?_eq_some_iff.mp hv).1
    refine ⟨ys[i], by simp [hi], ?_⟩
    simp only [vals, List.getElem?_map] at hv
    cases hx : (parts.toList.map (·.2))[i]? with
    | none => simp [List.getElem?_map] at hx; simp [hx] at hv
    | some x =>
      have : parts.toList[i]?.map (·.2) = some x := by simpa [List.getElem?_map] using hx
      rw [this] at hv
      simp at hv; subst hv
      exact h.ev (e3 i x _ hx (by simp [hi]))
  have hrl : ys.length = rows.length := by simpa using hrows.1
  have hpart : ∀ (i : Nat) (v : Value), vals[i]? = some v → ∃ (y : Opd) (row : List D), ys[i]? = some y ∧ rows[i]? = some row ∧ row.length = te.size ∧ DsOf st (st.ev y).cells row ∧ VRelL (envOf w L st) v.cells.toList (st.ev y).cells := by
    intro i v hv
    obtain ⟨y, hy, hr⟩ := hrel i v hv
    have hi : i < rows.length := by rw [← hrl]; exact (List.getElem?_eq_some_iff.mp hy).1
    obtain ⟨g1, g2⟩ := hrows.2 i (st.ev y) rows[i] (by simp [hy]) (by simp [hi])
    exact ⟨y, rows[i], hy, by simp [hi], g1, g2, (cells_rel hr g2.allcell).1⟩
  have hsizes : ∀ v ∈ vals, v.cells.size = te.size := by
    intro v hv
    obtain ⟨i, hi, rfl⟩ := List.getElem_of_mem hv
    obtain ⟨y, row, h1, h2, h3, h4, h5⟩ := hpart i vals[i] (by simp [hi])
    have := h5.length
    simp only [Array.length_toList] at this
    rw [this, h4.1, h3]
  obtain ⟨zv, hzv⟩ := Option.isSome_iff_exists.mp hz
  -- the cells
  generalize hzc : (if n * te.size = 0 then #[] else zv.cells : Array Value) = zc
  let base : Array Value := (Array.range (n * te.size)).map (zc[· % zc.size]!)
  have hbase : base.size = n * te.size := by simp [base]
  have hfit : (0 + vals.length) * te.size ≤ base.size := by rw [hbase, hvlen, hn]; simp
  generalize hcs : setRows te.size vals 0 base = cells
  have hcsz : cells.size = n * te.size := by rw [← hcs, setRows_size, hbase]
  let σ : Nat → Nat → Option (Nat × Path) := fun i j => (((ys.map st.ev)[i]?.bind fun v => v.cells[j]?).bind srcOf).map (·, [])
  have hmem : ∀ (i j : Nat) (v vk : V) (b : Nat), (ys.map st.ev)[i]? = some v → v.cells[j]? = some vk → srcOf vk = some b → b ∈ ((ys.map st.ev).flatMap V.cells).filterMap srcOf :=
    fun i j v vk b h1 h2 h3 => List.mem_filterMap.mpr ⟨vk, List.mem_flatMap.mpr ⟨v, List.mem_of_getElem? h1, List.mem_of_getElem? h2⟩, h3⟩
  have hsource : Source st (((ys.map st.ev).flatMap V.cells).filterMap srcOf) nm [] rows σ := by
    refine ⟨?_, ?_, ?_, hnm⟩
    · intro i row j r h1 h2
      have hi : i < (ys.map st.ev).length := by simp; rw [hrl]; exact (List.getElem?_eq_some_iff.mp h1).1
      have hvi : (ys.map st.ev)[i]? = some (ys.map st.ev)[i] := List.getElem?_eq_getElem hi
      obtain ⟨g1, g2⟩ := hrows.2 i _ row hvi h1
      have hj : j < (ys.map st.ev)[i].cells.length := by rw [g2.1]; exact (List.getElem?_eq_some_iff.mp h2).1
      have hvj : (ys.map st.ev)[i].cells[j]? = some (ys.map st.ev)[i].cells[j] := List.getElem?_eq_getElem hj
      rcases (g2.2 j _ _ hvj h2).src with ⟨b, f1, f2⟩ | ⟨f1, f2⟩
      · left
        refine ⟨b, [], ?_, by unfold St.rowAt; rw [f2]; rfl⟩
        show ((((ys.map st.ev)[i]?).bind fun v => v.cells[j]?).bind srcOf).map (·, []) = _
        rw [hvi]; simp only [Option.bind_some, hvj, f1, Option.map_some]
      · right
        refine ⟨?_, f2⟩
        show ((((ys.map st.ev)[i]?).bind fun v => v.cells[j]?).bind srcOf).map (·, []) = _
        rw [hvi]; simp only [Option.bind_some, hvj, f1, Option.map_none]
    · intro i j i' j' a0 p0 p0' h1 h2
      simp only [σ, Option.map_eq_some_iff, Option.bind_eq_some_iff, Prod.mk.injEq] at h1 h2
      obtain ⟨b, ⟨vk, ⟨v, g1, g2⟩, g3⟩, g4, g5⟩ := h1
      obtain ⟨b', ⟨vk', ⟨v', k1, k2⟩, k3⟩, k4, k5⟩ := h2
      subst g4; subst g5; subst k4; subst k5
      exact ⟨rfl, fun _ => nodup_flat hnd g1 g2 g3 k1 k2 k3⟩
    · intro i j a0 p0 h1
      simp only [σ, Option.map_eq_some_iff, Option.bind_eq_some_iff, Prod.mk.injEq] at h1
      obtain ⟨b, ⟨vk, ⟨v, g1, g2⟩, g3⟩, g4, _⟩ := h1
      left; exact g4 ▸ hmem i j v vk b g1 g2 g3
  have hw' : (Instr.buildSlice t n (parts.map fun x => (x.1, ac.eval x.2))).run P w = .ok (.slice (some ⟨w.heap.size, 0, none⟩) n n) (w.alloc (.cells cells e)) := by
    have hfill : Instr.fill (fun i => some (i * te.size, te.size)) base (parts.map fun (x : Nat × Operand) => (x.1, ac.eval x.2)).toList = some cells := by
      rw [← hcs, ← fill_rows te.size vals 0 base hsizes hfit]
      congr 1
      rw [Array.toList_map]
      conv => lhs; rw [e1]
      simp only [vals, List.map_map, List.zipIdx_map]
      rfl
    simp only [Instr.buildSlice, Sem.run_bind, run_underlying ht, Result.andThen_ok, run_sizeOf he]
    rw [if_neg (by omega)]
    have fin : (match Instr.fill (fun i => some (i * te.size, te.size)) ((Array.range (n * te.size)).map (zc[· % zc.size]!)) (parts.map fun (x : Nat × Operand) => (x.1, ac.eval x.2)).toList with
        | some cells => (do let a ← newRow e cells; pure (.slice (some a) n n) : Sem Value)
        | _ => stuck "buildSlice: a part of the wrong size").run P w = .ok (.slice (some ⟨w.heap.size, 0, none⟩) n n) (w.alloc (.cells cells e)) := by
      have hf : Instr.fill (fun i => some (i * te.size, te.size)) ((Array.range (n * te.size)).map (zc[· % zc.size]!)) (parts.map fun (x : Nat × Operand) => (x.1, ac.eval x.2)).toList = some cells := hfill
      rw [hf]
      simp [newRow]
    by_cases hzn : n * te.size = 0
    · rw [if_pos hzn] at hzc ⊢
      subst hzc
      simp only [Sem.run_bind, Sem.run_pure, Result.andThen_ok]
      exact fin
    · rw [if_neg hzn] at hzc ⊢
      subst hzc
      simp only [Sem.run_bind, Sem.run_pure, Result.andThen_ok, zeroValue, run_typeInfo he, hzv]
      exact fin
  have hnew := h.newArr (w' := w.alloc (.cells cells e)) (ty := e) (fr := (0, 0)) (esz := te.size) (cells := cells) hnmo hsource
    (fun k hk => by
      by_cases e : k = w.heap.size
      · subst e; rw [if_pos rfl]; exact push_new w _
      · rw [if_neg e]; exact push_old w _ (by omega))
    (by simp) (fun o' _ hh => by omega) rfl rfl rfl
    (by
      intro i row h1
      have hi : i < vals.length := by rw [hvlen, hrl]; exact (List.getElem?_eq_some_iff.mp h1).1
      obtain ⟨y, row', g1, g2, g3, g4, g5⟩ := hpart i vals[i] (by simp [hi])
      rw [h1] at g2; cases g2
      refine ⟨g3, fun j x h2 => ?_⟩
      have hj : j < (st.ev y).cells.length := by rw [g4.1]; exact (List.getElem?_eq_some_iff.mp h2).1
      have hvj : (st.ev y).cells[j]? = some (st.ev y).cells[j] := by simp [hj]
      obtain ⟨c, k1, k2⟩ := g5.get j _ hvj
      refine ⟨c, ?_, cell_of_val k2 (g4.2 j _ _ hvj h2) ?_⟩
      · have := setRows_get te.size vals 0 base hsizes hfit i j vals[i] c (by simp [hi]) (by simpa using k1)
        rw [hcs] at this
        simpa using this
      · intro b hb
        have := changeAl_below (L := L) (a := nm) (p := []) (sg := some ⟨w.heap.size, 0, te.size, cells.size⟩) (σ := σ) i j []
        simp only [List.nil_append] at this ⊢
        rw [this]
        have hyi : (ys.map st.ev)[i]? = some (st.ev y) := by simp [g1]
        show (((((ys.map st.ev)[i]?).bind fun v => v.cells[j]?).bind srcOf).map (·, ([] : Path))).bind _ = _
        rw [hyi]; simp only [Option.bind_some, hvj, hb, Option.map_some, List.append_nil])
  refine wp_value (v := .slice (some ⟨w.heap.size, 0, none⟩) n n) (w' := w.alloc (.cells cells e)) ?_ ⟨⟨_, _, hK, hnew.put hd ?_⟩, fun b hb _ => push_old w _ hb⟩
  · simp only [execOp, ho]; exact run_v _ hw'
  · have hnr : rows.length = n := by omega
    rw [hnr]
    exact view_new _ _ _ (s := ⟨w.heap.size, 0, te.size, cells.size⟩) (by rw [changeSt_lens, hnr]) (show changeAl L nm [] _ σ nm [] = _ from changeAl_self) (Nat.le_refl _) (fun h0 => h0) (by simp only [Nat.zero_add]; omega)
end
end Go.Vm
end
section
/- append. -/
namespace Go.Vm
theorem growBy_le (newLen : Nat) : ∀ (r c : Nat), c ≤ newLen + (newLen + 768) / 4 → Builtin.growBy newLen r c ≤ newLen + (newLen + 768) / 4
  | 0, c, h => h
  | r + 1, c, h => by
    simp only [Builtin.growBy]
    split
    · exact h
    · exact growBy_le newLen r _ (by omega)
theorem nextcap_le (need old : Nat) (h : old < need) : Builtin.nextslicecap need old ≤ 2 * need + 192 := by
  unfold Builtin.nextslicecap
  split
  · omega
  · split
    · omega
    · have := growBy_le need 4 old (by omega); omega
/-- The world with another count of draws. -/
def wd (w : World) (d : Nat) : World := { w with drawn := d }
theorem wd_self (w : World) : wd w w.drawn = w := rfl
/-- A row of so many elements can be read: the cells, in order. -/
theorem load_rows {P : Program} {w : World} {b o size : Nat} {rows : Rows} {Good : Nat → Nat → Value → D → Prop}
    (h : ∀ (i : Nat) (row : List D), rows[i]? = some row → row.length = size ∧ ∀ (j : Nat) (x : D), row[j]? = some x → ∃ c, w.cell? ⟨b, o + i * size + j, none⟩ = some c ∧ Good i j c x) :
    ∃ arr : Array Value, (∀ d, (loadCells ⟨b, o, none⟩ (rows.length * size)).run P (wd w d) = .ok arr (wd w d)) ∧ arr.size = rows.length * size ∧
      ∀ (i : Nat) (row : List D) (j : Nat) (x : D), rows[i]? = some row → row[j]? = some x → ∃ c, arr[i * size + j]? = some c ∧ Good i j c x := by
  let f : Nat → Value := fun k => (w.cell? ⟨b, o + k, none⟩).getD undef
  have hcell : ∀ k, k < rows.length * size → w.cell? ⟨b, o + k, none⟩ = some (f k) := by
    intro k hk
    have hs : 0 < size := by rcases Nat.eq_zero_or_pos size with e | e; · rw [e] at hk; simp at hk
                             · exact e
    have hi : k / size < rows.length := Nat.div_lt_of_lt_mul (by rwa [Nat.mul_comm] at hk)
    obtain ⟨g1, g2⟩ := h (k / size) rows[k / size] (List.getElem?_eq_getElem hi)
    have hj : k % size < (rows[k / size]).length := by rw [g1]; exact Nat.mod_lt _ hs
    obtain ⟨c, g3, _⟩ := g2 (k % size) _ (List.getElem?_eq_getElem hj)
    have e : o + k / size * size + k % size = o + k := by rw [Nat.add_assoc, Nat.mul_comm, Nat.div_add_mod]
    rw [e] at g3
    simp only [f, g3, Option.getD_some]
  refine ⟨((List.range (rows.length * size)).map f).toArray, ?_, by simp, ?_⟩
  · exact fun d => run_loadCells (wd w d) _ _ f (fun j hj => by rw [add_mk]; exact hcell j hj)
  · intro i row j x h1 h2
    obtain ⟨g1, g2⟩ := h i row h1
    obtain ⟨c, g3, g4⟩ := g2 j x h2
    have hi : i < rows.length := (List.getElem?_eq_some_iff.mp h1).1
    have hj : j < size := by rw [← g1]; exact (List.getElem?_eq_some_iff.mp h2).1
    have hk : i * size + j < rows.length * size := by
      have : (i + 1) * size ≤ rows.length * size := Nat.mul_le_mul_right _ hi
      rw [Nat.add_mul] at this; omega
    refine ⟨c, ?_, g4⟩
    have := hcell _ hk
    rw [← Nat.add_assoc, g3] at this
    simp only [List.getElem?_toArray, List.getElem?_map, List.getElem?_range hk, Option.map_some]
    exact this.symm
section
variable {P : Program} {o : Oper} {N : Nat} {G : Ghost} {ac : Act} {w w' : World} {L : Lay} {st : St} {K : St → Prop} {Q : Exit → Act → World → Prop}
/-- Where the nested rows of moved elements come from. -/
def movσ (cons : List Nat) (i j : Nat) : Option (Nat × Path) :=
  match cons with
  | [b] => some (b, [(i, j)])
  | _ => none
/-- What an appended value brings. -/
def SrcOK (P : Program) (w : World) (L : Lay) (size : Nat) (c : Value) (rows : Rows) (τ : Nat → Nat → Option (Nat × Path)) : Prop :=
  (Builtin.lenOf c).run P w = .ok rows.length w ∧ ∃ arr : Array Value, (∀ d, (Builtin.firstCells size rows.length c).run P (wd w d) = .ok arr (wd w d)) ∧ arr.size = rows.length * size ∧
    ∀ (i : Nat) (row : List D) (j : Nat) (x : D), rows[i]? = some row → row[j]? = some x → ∃ cv, arr[i * size + j]? = some cv ∧
      (cv.oneCell' = true) ∧ ∀ (al' : Nat → Path → Option Seg) (a : Nat) (p : Path) (k : Nat), al' a (p ++ [(k, j)]) = (τ i j).bind (fun y => L.al y.1 y.2) → CellOK al' a p k j cv x
theorem flat_cell {w : World} {I : Nat → Prop} {c : Value} {x : D} (h : Imm w I c x) (hf : x.flat = true) (al' : Nat → Path → Option Seg) (a : Nat) (p : Path) (i j : Nat) : CellOK al' a p i j c x := by
  cases x with
  | sl _ => simp [D.flat] at hf
  | gone => simp [D.flat] at hf
  | _ => simpa only [Imm, CellOK] using h
theorem CellOK.flat {al al' : Nat → Path → Option Seg} {a a' : Nat} {p p' : Path} {i j i' j' : Nat} {c : Value} {x : D} (h : CellOK al a p i j c x) (hf : x.flat = true) : CellOK al' a' p' i' j' c x := by
  cases x with
  | sl _ => simp [D.flat] at hf
  | gone => simp [D.flat] at hf
  | _ => exact h
theorem ImmCells.get {w : World} {I : Nat → Prop} {b : Nat} : ∀ (xs : List D) (o j : Nat) (x : D), ImmCells w I b o xs → xs[j]? = some x → ∃ c, w.cell? ⟨b, o + j, none⟩ = some c ∧ Imm w I c x
  | [], _, _, _, _, h => by simp at h
  | y :: ys, o, 0, x, h, hx => by
    simp at hx; subst hx
    simp only [ImmCells] at h; exact h.1
  | y :: ys, o, j + 1, x, h, hx => by
    simp at hx
    simp only [ImmCells] at h
    have := ImmCells.get ys (o + 1) j x h.2 hx
    rwa [show o + 1 + j = o + (j + 1) by omega] at this
def isBytesTy (P : Program) (t : TypeId) : Bool := match P.underlying t with | some (.slice _) => true | _ => false
/-- What awpSrc says, in the model. -/
theorem src_spec (h : Mem G w L st) {c : Value} {v : V} (hv : VRel (envOf w L st) c v) {mv : Bool} {size : Nat} {R : Rows → List Nat → Prop} (hp : awpSrc st mv v R)
    (hsz : ∀ rows cons, R rows cons → ∀ r ∈ rows, r.length = size) :
    ∃ rows cons, R rows cons ∧ SrcOK P w L size c rows (movσ cons) ∧
      ((cons = [] ∧ ∀ r ∈ rows, ∀ x ∈ r, D.flat x = true) ∨ ∃ a, mv = true ∧ cons = [a] ∧ st.as a = some rows) := by
  unfold awpSrc at hp
  split at hp
  · -- nil
    simp only [VRel] at hv; subst hv
    refine ⟨[], [], hp, ⟨rfl, #[], fun d => rfl, by simp, fun i row j x h1 => by simp at h1⟩, .inl ⟨rfl, fun r hr => by cases hr⟩⟩
  · rename_i rows
    obtain ⟨hf, hR⟩ := hp
    simp only [VRel, envOf, Imm] at hv
    obtain ⟨ad, cap, e1, e2, e3⟩ := hv
    subst e1
    refine ⟨rows, [], hR, ⟨rfl, ?_⟩, .inl ⟨rfl, hf⟩⟩
    rcases e3 with e3 | ⟨b, o', sz, e4, e5, e6⟩
    · have : rows = [] := List.length_eq_zero_iff.mp e3
      subst this
      refine ⟨#[], fun d => ?_, by simp, fun i row j x h1 => by simp at h1⟩
      cases ad <;> simp [Builtin.firstCells, loadCells, loadCellsFrom]
    · subst e4
      by_cases hr0 : rows = []
      · subst hr0
        exact ⟨#[], fun d => by simp [Builtin.firstCells, loadCells, loadCellsFrom], by simp, fun i row j x h1 => by simp at h1⟩
      have hss : sz = size := by
        obtain ⟨r, hr⟩ : ∃ r, rows[0]? = some r := by cases rows with
          | nil => exact absurd rfl hr0
          | cons r _ => exact ⟨r, rfl⟩
        rw [← (e6.get 0 rows o' r hr).1]
        exact hsz rows [] hR r (List.mem_of_getElem? hr)
      subst hss
      obtain ⟨arr, g1, g2, g3⟩ := load_rows (P := P) (w := w) (b := b) (o := o') (size := sz) (rows := rows) (Good := fun _ _ c x => Imm w L.I c x) (fun i row hi => by
        obtain ⟨k1, k2⟩ := e6.get i rows o' row hi
        exact ⟨k1, fun j x hj => ImmCells.get row _ j x k2 hj⟩)
      refine ⟨arr, fun d => by simp [Builtin.firstCells, g1 d], g2, fun i row j x h1 h2 => ?_⟩
      obtain ⟨cv, k1, k2⟩ := g3 i row j x h1 h2
      have hfx := hf row (List.mem_of_getElem? h1) x (List.mem_of_getElem? h2)
      exact ⟨cv, k1, (flat_cell k2 hfx (fun _ _ => none) 0 [] 0 0).one, fun al' a p k _ => flat_cell k2 hfx al' a p k j⟩
  · rename_i s
    simp only [VRel, envOf, Imm] at hv
    subst hv
    have h1 : ∀ r ∈ (s.map fun b => [D.int .u8 b.toNat]), r.length = size := hsz _ _ hp
    refine ⟨_, [], hp, ⟨by simp [Builtin.lenOf, bytesVal, ByteArray.size], (s.map fun b => Value.int .u8 b.toNat).toArray, ?_, ?_, ?_⟩, .inl ⟨rfl, ?_⟩⟩
    · intro d
      simp only [bytesVal, Builtin.firstCells, Sem.run_pure]
      congr 1
      simp [ByteArray.data_extract]
    · cases s with
      | nil => simp
      | cons b s =>
        have := h1 [D.int .u8 b.toNat] (by simp)
        simp at this
        simp [← this]
    · intro i row j x h2 h3
      have hrow := h1 row (List.mem_of_getElem? h2)
      simp only [List.getElem?_map] at h2
      cases hb : s[i]? with
      | none => simp [hb] at h2
      | some b =>
        simp only [hb, Option.map_some, Option.some.injEq] at h2
        subst h2
        have hs1 : size = 1 := by rw [← hrow]; rfl
        cases j with
        | zero =>
          simp at h3; subst h3
          refine ⟨.int .u8 b.toNat, by simp [hs1, hb], rfl, fun al' a p k _ => rfl⟩
        | succ j => simp at h3
    · intro r hr x hx
      simp only [List.mem_map] at hr
      obtain ⟨b, _, e⟩ := hr
      subst e
      simp at hx; subst hx; rfl
  · rename_i a p lo n
    split at hp
    case h_2 => exact hp.elim
    rename_i rows hr
    simp only [VRel] at hv
    obtain ⟨_, hv2⟩ := hv
    obtain ⟨hle, ad, cap, e1, e2, e0, e3⟩ := hv2 rows.length (by simp [envOf, St.lens, hr])
    subst e1
    have hro := h.row a p rows hr
    have main : ∀ (sub : Rows), sub = (rows.drop lo).take n → sub.length = n → (∀ r ∈ sub, r.length = size) → (Builtin.lenOf (.slice ad n cap)).run P w = .ok sub.length w ∧
        ∃ arr : Array Value, (∀ d, (Builtin.firstCells size sub.length (.slice ad n cap)).run P (wd w d) = .ok arr (wd w d)) ∧ arr.size = sub.length * size ∧
          ∀ (i : Nat) (row : List D) (j : Nat) (x : D), sub[i]? = some row → row[j]? = some x → ∃ cv, arr[i * size + j]? = some cv ∧ CellOK L.al a p (lo + i) j cv x := by
      intro sub hsub hlen hss
      refine ⟨by rw [hlen]; rfl, ?_⟩
      by_cases hr0 : sub = []
      · subst hr0
        refine ⟨#[], fun d => ?_, by simp, fun i row j x h1 => by simp at h1⟩
        cases ad <;> simp [Builtin.firstCells, loadCells, loadCellsFrom]
      have hn0 : n ≠ 0 := by intro e; rw [e] at hlen; exact hr0 (List.length_eq_zero_iff.mp hlen)
      rcases e3 with e3 | ⟨s, e4, e5, e6⟩
      · omega
      · have e4' : L.al a p = some s := e4
        subst e5
        unfold RowOK at hro
        rw [e4'] at hro
        obtain ⟨cs, ty, fr, k1, k2, k3, k4⟩ := hro
        have hget : ∀ (i : Nat) (row : List D), sub[i]? = some row → rows[lo + i]? = some row := by
          intro i row hi
          rw [hsub, List.getElem?_take] at hi
          split at hi
          · rwa [List.getElem?_drop] at hi
          · cases hi
        have hs : s.sz = size := by
          obtain ⟨r, hr'⟩ : ∃ r, sub[0]? = some r := by cases sub with
            | nil => exact absurd rfl hr0
            | cons r _ => exact ⟨r, rfl⟩
          rw [← (k4 _ r (hget 0 r hr')).1]
          exact hss r (List.mem_of_getElem? hr')
        obtain ⟨arr, g1, g2, g3⟩ := load_rows (P := P) (w := w) (b := s.b) (o := s.o + lo * size) (size := size) (rows := sub) (Good := fun i j c x => CellOK L.al a p (lo + i) j c x) (fun i row hi => by
          obtain ⟨m1, m2⟩ := k4 _ row (hget i row hi)
          refine ⟨by rw [m1, hs], fun j x hj => ?_⟩
          obtain ⟨c, m3, m4⟩ := m2 j x hj
          refine ⟨c, ?_, m4⟩
          rw [cell_of k1, ← m3, hs, Nat.add_mul]
          congr 1; omega)
        refine ⟨arr, fun d => ?_, g2, g3⟩
        simp only [Builtin.firstCells, hs]
        exact g1 d
    split at hp
    · rename_i hmv
      obtain ⟨f1, f2, f3, f4⟩ := hp
      subst f1; subst f2
      have hst : st.as a = some rows := by
        unfold St.rowAt at hr
        cases ha : st.as a with
        | none => rw [ha] at hr; simp at hr
        | some R => rw [ha] at hr; simp only [Option.bind_some, getRow, Option.some.injEq] at hr; rw [hr]
      obtain ⟨g1, arr, g2, g3, g4⟩ := main rows (by rw [← f3]; simp) f3 (hsz rows _ f4)
      refine ⟨rows, [a], f4, ⟨g1, arr, g2, g3, fun i row j x h1 h2 => ?_⟩, .inr ⟨a, hmv, rfl, hst⟩⟩
      obtain ⟨cv, m1, m2⟩ := g4 i row j x h1 h2
      refine ⟨cv, m1, m2.one, fun al' a' p' k he => ?_⟩
      refine m2.al (i' := k) ?_
      rw [he]; simp [movσ]
    · obtain ⟨f1, f2, f3⟩ := hp
      obtain ⟨g1, arr, g2, g3, g4⟩ := main _ rfl (by simp; omega) (hsz _ _ f3)
      refine ⟨_, [], f3, ⟨g1, arr, g2, g3, fun i row j x h1 h2 => ?_⟩, .inl ⟨rfl, f2⟩⟩
      obtain ⟨cv, m1, m2⟩ := g4 i row j x h1 h2
      have hfx := f2 row (List.mem_of_getElem? h1) x (List.mem_of_getElem? h2)
      exact ⟨cv, m1, m2.one, fun al' a' p' k _ => m2.flat hfx⟩
  · exact hp.elim
end
end Go.Vm
end
section
/- append's run, in place and into a new block. -/
namespace Go.Vm
section
variable {P : Program} {w : World}
theorem run_append_fits {t e xt ty : TypeId} {te : TypeInfo} {dx : TypeDesc} {ad : Option Addr} {n cap k : Nat} {cy : Value} {arr : Array Value}
    (ht : P.underlying t = some (.slice e)) (he : P.info? e = some te) (hxt : P.underlying xt = some dx) (hdx : ∀ k, dx ≠ .int k)
    (hl : (Builtin.lenOf cy).run P w = .ok k w) (hf : (Builtin.firstCells te.size k cy).run P w = .ok arr w) (hfit : n + k ≤ cap) :
    (Builtin.append_ #[t, xt] ty #[.slice ad n cap, cy]).run P w = match ad with
      | some a => ((storeCells (a.add (n * te.size)) arr.toList).run P w).andThen fun _ w' => .ok (.slice ad (n + k) cap) w'
      | none => .ok (.slice ad (n + k) cap) w := by
  have hz : ((match dx with | .int _ => true | _ => false) : Bool) = false := by cases dx <;> first | rfl | exact absurd rfl (hdx _)
  unfold Builtin.append_
  simp only [List.getElem?_toArray, List.getElem?_cons_zero, List.getElem?_cons_succ, Sem.run_bind, run_underlying ht, Result.andThen_ok, run_sizeOf he, run_underlying hxt, Sem.run_pure, hz]
  simp only [Bool.false_eq_true, if_false, Sem.run_bind, hl, Result.andThen_ok, hfit, if_true, Bool.not_false, hf]
  cases ad with
  | none => rfl
  | some a => simp only [Sem.run_bind, Sem.run_pure]
theorem run_append_grows {t e xt ty : TypeId} {te : TypeInfo} {dx : TypeDesc} {ad : Option Addr} {n cap k : Nat} {cy : Value} {arr old : Array Value} {z : Value}
    (ht : P.underlying t = some (.slice e)) (he : P.info? e = some te) (hxt : P.underlying xt = some dx) (hdx : ∀ k, dx ≠ .int k) (hz0 : te.zero = some z)
    (hl : (Builtin.lenOf cy).run P w = .ok k w) (hf : ∀ d, (Builtin.firstCells te.size k cy).run P (wd w d) = .ok arr (wd w d))
    (ho : ∀ d, (Builtin.firstCells te.size n (.slice ad n cap)).run P (wd w d) = .ok old (wd w d)) (hfit : ¬ n + k ≤ cap) (hb0 : 0 < te.bytes) (hb1 : te.bytes ≤ 2 ^ 20) (hbound : (n + k) * te.bytes ≤ 2 ^ 45) :
    ∃ newCap, n + k ≤ newCap ∧ (Builtin.append_ #[t, xt] ty #[.slice ad n cap, cy]).run P w =
      .ok (.slice (some ⟨w.heap.size, 0, none⟩) (n + k) newCap) ((wd w (w.drawn + 1)).alloc (.cells (old ++ arr ++ Builtin.zeroCells z.cells (newCap - (n + k))) e)) := by
  have hz : ((match dx with | .int _ => true | _ => false) : Bool) = false := by cases dx <;> first | rfl | exact absurd rfl (hdx _)
  refine ⟨(Question.appendCap (n + k) cap e).cut (w.tape w.drawn (.appendCap (n + k) cap e)), by simp only [Question.cut]; omega, ?_⟩
  have h1 : ¬ (((n + k : Nat) : Int) > IntKind.i64.max ∧ (false = true ∨ te.bytes = 0)) := by
    rintro ⟨_, h | h⟩
    · cases h
    · omega
  have h2 : ¬ Builtin.nextslicecap (n + k) cap * te.bytes > 2 ^ 48 := by
    have := nextcap_le (n + k) cap (by omega)
    have h3 : Builtin.nextslicecap (n + k) cap * te.bytes ≤ (2 * (n + k) + 192) * te.bytes := Nat.mul_le_mul_right _ this
    have h4 : (2 * (n + k) + 192) * te.bytes = 2 * ((n + k) * te.bytes) + 192 * te.bytes := by rw [Nat.add_mul, Nat.mul_assoc]
    omega
  unfold Builtin.append_
  simp only [List.getElem?_toArray, List.getElem?_cons_zero, List.getElem?_cons_succ, Sem.run_bind, run_underlying ht, Result.andThen_ok, run_sizeOf he, run_underlying hxt, Sem.run_pure, hz]
  simp only [Bool.false_eq_true, if_false, Sem.run_bind, hl, Result.andThen_ok, hfit, Bool.not_false, if_true, run_typeInfo he]
  rw [if_neg (by simpa using h1)]
  simp only [Sem.run_bind, run_typeInfo he, Result.andThen_ok]
  rw [if_neg h2]
  have hd : (Builtin.firstCells te.size k cy).run P { w with drawn := w.drawn + 1 } = .ok arr { w with drawn := w.drawn + 1 } := hf (w.drawn + 1)
  have hd' : (Builtin.firstCells te.size n (.slice ad n cap)).run P { w with drawn := w.drawn + 1 } = .ok old { w with drawn := w.drawn + 1 } := ho (w.drawn + 1)
  simp only [Sem.run_bind, run_choose, Question.forced, Bool.false_eq_true, if_false, Result.andThen_ok, run_typeInfo he, run_askRoom, hd', hd, zeroValue, hz0, Sem.run_pure, newRow, run_newObj]
  rfl
end
end Go.Vm
end
section
/- append: the operation. -/
namespace Go.Vm
theorem zeroCells_size (zero : Array Value) (n : Nat) : (Builtin.zeroCells zero n).size = n * zero.size := by simp [Builtin.zeroCells]
section
variable {P : Program} {o : Oper} {N : Nat} {G : Ghost} {ac : Act} {w w' : World} {L : Lay} {st : St} {K : St → Prop} {Q : Exit → Act → World → Prop}
/-- The source map of an append: the old elements where they were, the new ones out of the moved array. -/
def appσ (a n : Nat) (cons : List Nat) : Nat → Nat → Option (Nat × Path) := fun i j =>
  if i < n then some (a, [(i, j)]) else movσ cons (i - n) j
theorem app_source {a : Nat} {old rows : Rows} {cons : List Nat} (ha : st.as a = some old) (hac : a ∉ cons) (hy : (cons = [] ∧ ∀ r ∈ rows, ∀ x ∈ r, D.flat x = true) ∨ ∃ b, cons = [b] ∧ st.as b = some rows) :
    Source st cons a [] (old ++ rows) (appσ a old.length cons) := by
  refine ⟨?_, ?_, ?_, hac⟩
  · intro i row j r h1 h2
    by_cases hi : i < old.length
    · left
      refine ⟨a, [(i, j)], if_pos hi, ?_⟩
      rw [List.getElem?_append_left hi] at h1
      simp [St.rowAt, ha, getRow, h1, h2]
    · rw [List.getElem?_append_right (by omega)] at h1
      rcases hy with ⟨e, hf⟩ | ⟨b, e, hb⟩
      · have := hf row (List.mem_of_getElem? h1) _ (List.mem_of_getElem? h2)
        simp [D.flat] at this
      · subst e
        left
        refine ⟨b, [(i - old.length, j)], if_neg hi, ?_⟩
        simp [St.rowAt, hb, getRow, h1, h2]
  · intro i j i' j' a0 p0 p0' h1 h2
    have key : ∀ i j a0 p0, appσ a old.length cons i j = some (a0, p0) → (i < old.length ∧ a0 = a ∧ p0 = [(i, j)]) ∨ (¬ i < old.length ∧ a0 ∈ cons ∧ p0 = [(i - old.length, j)]) := by
      intro i j a0 p0 h
      unfold appσ at h
      split at h
      · rename_i hi; cases h; exact .inl ⟨hi, rfl, rfl⟩
      · rename_i hi
        unfold movσ at h
        split at h
        · cases h; exact .inr ⟨hi, by simp, rfl⟩
        · cases h
    rcases key _ _ _ _ h1 with ⟨e1, e2, e3⟩ | ⟨e1, e2, e3⟩ <;> rcases key _ _ _ _ h2 with ⟨f1, f2, f3⟩ | ⟨f1, f2, f3⟩
    · subst e3; subst f3; exact ⟨rfl, fun e => by simpa using e⟩
    · exact absurd (e2 ▸ f2) hac
    · exact absurd (f2 ▸ e2) hac
    · subst e3; subst f3
      refine ⟨rfl, fun e => ?_⟩
      simp only [List.cons.injEq, Prod.mk.injEq, and_true] at e
      exact ⟨by omega, e.2⟩
  · intro i j a0 p0 h
    unfold appσ at h
    split at h
    · cases h; exact .inr ⟨rfl, (i, j), rfl⟩
    · unfold movσ at h
      split at h
      · cases h; left; simp
      · cases h
theorem isHead_of {a : Nat} {v : V} (hv : (∃ lo n, v = .ref a [] lo n) ∨ ∃ i j, v = .aptr a [] i j) : V.isHead a v = true := by
  rcases hv with ⟨lo, n, e⟩ | ⟨i, j, e⟩ <;> subst e <;> simp [V.isHead]
/-- Rows put behind an array: in place, or in a new block. -/
theorem appTo_ok (h : Rel G N ac w L st) {a n size bytes nm' : Nat} {mv : Bool} {rows : Rows} {cons : List Nat} {t e xt : TypeId} {te : TypeInfo} {dx : TypeDesc} {c0 cy : Value} {args : Array Operand} (hao : a < outer)
    (ho : o.op = .call { callee := .builtin .append, args := args, argTypes := #[t, xt] }) (hargs : args.map ac.eval = #[c0, cy])
    (ht : P.underlying t = some (.slice e)) (he : P.info? e = some te) (hxt : P.underlying xt = some dx) (hdx : ∀ k, dx ≠ .int k) (hsize : te.size = size) (hbytes : te.bytes = bytes) (hb0 : 0 < bytes) (hb1 : bytes ≤ 2 ^ 20) (hz : ∃ z, te.zero = some z ∧ z.cells.size = size)
    (hc0 : ∀ old, st.as a = some old → old.length = n → HeadOK L.al a [] old.length 0 n c0)
    (hsrc : SrcOK P w L size cy rows (movσ cons))
    (hcons : (cons = [] ∧ ∀ r ∈ rows, ∀ x ∈ r, D.flat x = true) ∨ ∃ b, cons = [b] ∧ st.as b = some rows) (hmv : cons ≠ [] → mv = true)
    (hd : ∀ k, o.dst = some k → k < N)
    (hp : appTo st a mv cons size bytes n rows fun st' => K (st'.put o.dst (.ref a [] 0 (n + rows.length)))) : o.wp P ac w (AfterT G N K w (fun b' => ∃ s, L.al a [] = some s ∧ b' = s.b)) Q := by
  unfold appTo at hp
  split at hp
  case h_2 => exact hp.elim
  rename_i old ha
  obtain ⟨hlen, hbound, hold, hrows, hac, hK⟩ := hp
  have hra : st.rowAt a [] = some old := by simp [St.rowAt, ha, getRow]
  obtain ⟨ad, cap, e1, e2, e0, e3⟩ := hc0 old ha hlen
  obtain ⟨hlenOf, arr, hfirst, harr, hcells⟩ := hsrc
  have hsource := app_source ha hac hcons
  have hro := h.mem.row a [] old hra
  have hexec : ∀ (c : Value) (w' : World), (Builtin.append_ #[t, xt] o.type #[c0, cy]).run P w = .ok c w' → (execOp ac.eval o).run P w = .ok (.value c) w' := by
    intro c w' hh
    rw [exec_builtin ho, hargs]
    exact run_v _ hh
  have hq2 : ∀ (v : V) i j q' row r0, (V.isHead a v || (mv && V.isUnder a [] v)) = false → ((∃ lo n, v = .ref a ([] ++ (i, j) :: q') lo n) ∨ ∃ i' j', v = .aptr a ([] ++ (i, j) :: q') i' j') →
      (old ++ rows)[i]? = some row → row[j]? = some (.sl r0) → appσ a old.length cons i j = some (a, [] ++ [(i, j)]) := by
    intro v i j q' row r0 hq hva h1 h2
    by_cases hi : i < old.length
    · exact if_pos hi
    · exfalso
      rw [List.getElem?_append_right (by omega)] at h1
      rcases hcons with ⟨_, hf⟩ | ⟨b, eb, _⟩
      · have := hf row (List.mem_of_getElem? h1) _ (List.mem_of_getElem? h2)
        simp [D.flat] at this
      · have := isUnder_below a [] (i, j) q' v hva
        rw [hmv (by rw [eb]; simp), this] at hq
        simp at hq
  have hq1 : ∀ (v : V), (V.isHead a v || (mv && V.isUnder a [] v)) = false → ((∃ lo n, v = .ref a [] lo n) ∨ ∃ i j, v = .aptr a [] i j) → False := by
    intro v hq hva
    rw [isHead_of hva] at hq; simp at hq
  -- the cell of a new element
  have newcell : ∀ (sg : Option Seg) (i : Nat) (row : List D) (j : Nat) (x : D), rows[i]? = some row → row[j]? = some x → ∃ cv, arr[i * size + j]? = some cv ∧ cv.oneCell' = true ∧
      CellOK (changeAl L a [] sg (appσ a old.length cons)) a [] (old.length + i) j cv x := by
    intro sg i row j x h1 h2
    obtain ⟨cv, k1, k2, k3⟩ := hcells i row j x h1 h2
    refine ⟨cv, k1, k2, k3 _ a [] (old.length + i) ?_⟩
    have := changeAl_below (L := L) (a := a) (p := []) (sg := sg) (σ := appσ a old.length cons) (old.length + i) j []
    simp only [List.nil_append] at this ⊢
    rw [this]
    unfold appσ
    rw [if_neg (by omega)]
    rw [show old.length + i - old.length = i by omega]
    rcases hcons with ⟨ec, _⟩ | ⟨b, ec, _⟩ <;> subst ec <;> simp [movσ]
  have oldal : ∀ (sg : Option Seg) (i j : Nat), i < old.length → changeAl L a [] sg (appσ a old.length cons) a ([] ++ [(i, j)]) = L.al a ([] ++ [(i, j)]) := by
    intro sg i j hi
    have := changeAl_below (L := L) (a := a) (p := []) (sg := sg) (σ := appσ a old.length cons) i j []
    rw [this, show appσ a old.length cons i j = _ from if_pos hi]; simp
  have arrone : ∀ v ∈ arr.toList, v.oneCell' = true := by
    intro v hv
    obtain ⟨k, hk, rfl⟩ := List.getElem_of_mem hv
    simp only [Array.length_toList] at hk
    rw [harr] at hk
    have hs : 0 < size := by rcases Nat.eq_zero_or_pos size with e | e
                             · rw [e] at hk; simp at hk
                             · exact e
    have hi : k / size < rows.length := Nat.div_lt_of_lt_mul (by rwa [Nat.mul_comm] at hk)
    have hr := hrows rows[k / size] (List.getElem_mem hi)
    obtain ⟨cv, k1, k2, _⟩ := hcells (k / size) _ (k % size) _ (List.getElem?_eq_getElem hi) (List.getElem?_eq_getElem (by rw [hr]; exact Nat.mod_lt _ hs))
    have ek : k / size * size + k % size = k := by rw [Nat.mul_comm, Nat.div_add_mod]
    rw [ek] at k1
    have h3 : arr.toList[k]? = some cv := by rw [Array.getElem?_toList]; exact k1
    obtain ⟨h4, h5⟩ := List.getElem?_eq_some_iff.mp h3
    rw [h5]; exact k2
  have hfd : (Builtin.firstCells te.size rows.length cy).run P w = .ok arr w := by rw [hsize]; exact hfirst w.drawn
  have hargs0 : c0 = .slice ad n cap := e1
  subst hargs0
  by_cases hfit : n + rows.length ≤ cap
  · have hrun := run_append_fits (P := P) (w := w) (ty := o.type) (ad := ad) ht he hxt hdx hlenOf hfd hfit
    by_cases hcap : cap = 0
    · -- nothing is there and nothing comes
      have hr0 : rows = [] := List.length_eq_zero_iff.mp (by omega)
      have ho0 : old = [] := List.length_eq_zero_iff.mp (by omega)
      subst hr0; subst ho0
      have hn0 : n = 0 := by simpa using hlen.symm
      subst hn0; subst hcap
      have harr0 : arr.toList = [] := by
        apply List.length_eq_zero_iff.mp
        rw [Array.length_toList, harr]; simp
      have hrun' : (Builtin.append_ #[t, xt] o.type #[.slice ad 0 0, cy]).run P w = .ok (.slice ad 0 0) w := by
        rw [hrun]
        cases ad with
        | none => rfl
        | some a0 => rw [harr0]; simp [storeCells]
      have hk := change_ok (G := G) (w := w) (w' := w) (q := fun v => V.isHead a v || (mv && V.isUnder a [] v)) (sg := L.al a []) h.mem hsource False (fun hf => hf.elim)
        (.inl rfl) (.inr ⟨fun hf => hf, rfl, _, hra⟩) (fun v hq hva => (hq1 v hq hva).elim) hq2 ?_ (fun _ _ _ => rfl) (Nat.le_refl _) rfl rfl rfl
      · refine wp_value (hexec _ _ hrun') ⟨⟨{ L with al := changeAl L a [] (L.al a []) (appσ a ([] : Rows).length cons) }, _, hK, (hk.rel h (fun _ => rfl) (change_out fun hh => absurd hao (by omega))).put hd ?_⟩, fun _ _ _ => rfl⟩
        simp only [VRel]
        refine ⟨⟨ad, 0, rfl, Nat.le_refl _, fun _ => rfl⟩, fun len _ => ⟨by omega, ad, 0, rfl, Nat.le_refl _, fun _ => rfl, .inl rfl⟩⟩
      · unfold RowOK
        rw [changeAl_self]
        unfold RowOK at hro
        cases hal : L.al a [] with
        | none => rfl
        | some s =>
          rw [hal] at hro
          obtain ⟨cs, ty, fr, g1, g2, g3, _⟩ := hro
          exact ⟨cs, ty, fr, g1, g2, g3, fun i row h1 => by simp at h1⟩
    · -- in place
      have hn0 : old.length ≠ 0 := fun e => hcap (e0 e)
      rcases e3 with e3 | ⟨s, hal, e4, e5⟩
      · exact absurd e3 hcap
      subst e4
      unfold RowOK at hro
      rw [hal] at hro
      obtain ⟨cs, ty, fr, g1, g2, g3, g4⟩ := hro
      have hssz : s.sz = size := by
        obtain ⟨r, hr⟩ : ∃ r, old[0]? = some r := ⟨old[0]'(by omega), List.getElem?_eq_getElem (by omega)⟩
        rw [← (g4 0 r hr).1]; exact hold r (List.mem_of_getElem? hr)
      have hfitA : s.o + n * size + arr.size ≤ cs.size := by
        have h1 : (n + rows.length) * size ≤ cap * size := Nat.mul_le_mul_right _ hfit
        rw [Nat.add_mul] at h1
        rw [hssz, Nat.zero_add] at e5
        omega
      have hblt := lt_of_blk g1
      generalize hw' : setBlk w s.b (.cells (setAll cs (s.o + n * size) arr.toList) ty fr) = w' at *
      have hgetw : ∀ k, w'.heap[k]? = if k = s.b then some (.cells (setAll cs (s.o + n * size) arr.toList) ty fr) else w.heap[k]? := by
        intro k; rw [← hw']; exact setBlk_get w _ _ hblt k
      have hrun' : (Builtin.append_ #[t, xt] o.type #[.slice (some ⟨s.b, s.o + 0 * s.sz, none⟩) n cap, cy]).run P w = .ok (.slice (some ⟨s.b, s.o + 0 * s.sz, none⟩) (n + rows.length) cap) w' := by
        rw [hrun]
        have hst : (storeCells ⟨s.b, s.o + n * size, none⟩ arr.toList 0).run P w = .ok () w' := by
          rw [← hw']
          have := run_storeCells (P := P) arr.toList w (s.o + n * size) 0 cs g1 g3 arrone (by simp only [Array.length_toList]; omega)
          simpa using this
        simp only [add_mk, hsize, Nat.zero_mul, Nat.add_zero]
        rw [hst]; rfl
      have hk := change_ok (G := G) (w := w) (w' := w') (q := fun v => V.isHead a v || (mv && V.isUnder a [] v)) (sg := L.al a []) h.mem hsource False (fun hf => hf.elim)
        (.inl rfl) (.inr ⟨fun hf => hf, rfl, _, hra⟩) (fun v hq hva => (hq1 v hq hva).elim) hq2 ?_ ?_ (by rw [← hw']; simp [setBlk]) (by rw [← hw']; rfl) (by rw [← hw']; rfl) (by rw [← hw']; rfl)
      · refine wp_value (hexec _ _ hrun') ⟨⟨{ L with al := changeAl L a [] (L.al a []) (appσ a old.length cons) }, _, hK, (hk.rel h (fun _ => rfl) (change_out fun hh => absurd hao (by omega))).put hd ?_⟩, fun b hb hn => hk.hblk b hb (fun hh => hn hh.2)⟩
        simp only [VRel]
        refine ⟨⟨_, cap, rfl, hfit, fun e => by cases e⟩, fun len hl => ?_⟩
        have hl' : (changeSt st (fun v => V.isHead a v || (mv && V.isUnder a [] v)) cons a [] (old ++ rows)).lens a [] = some len := hl
        rw [changeSt_lens] at hl'
        simp only [List.length_append, Option.some.injEq] at hl'
        refine ⟨by omega, _, cap, rfl, hfit, fun e => by omega, .inr ⟨s, ?_, rfl, by rw [Nat.zero_add]; rw [Nat.zero_add] at e5; exact e5⟩⟩
        show changeAl L a [] (L.al a []) (appσ a old.length cons) a [] = _
        rw [changeAl_self, hal]
      · unfold RowOK
        rw [changeAl_self, hal]
        refine ⟨_, ty, fr, by rw [hgetw, if_pos rfl], by rw [setAll_size]; exact g2, by rw [setAll_size]; exact g3, ?_⟩
        intro i row h1
        have hgA := fun k => setAll_get arr.toList cs (s.o + n * size) k (by simp only [Array.length_toList]; omega)
        by_cases hi : i < old.length
        · rw [List.getElem?_append_left hi] at h1
          obtain ⟨m1, m2⟩ := g4 i row h1
          refine ⟨m1, fun j x h2 => ?_⟩
          obtain ⟨c, m3, m4⟩ := m2 j x h2
          refine ⟨c, ?_, m4.al (oldal _ i j hi)⟩
          have hj : j < s.sz := by rw [← m1]; exact (List.getElem?_eq_some_iff.mp h2).1
          have h3 : (i + 1) * s.sz ≤ n * s.sz := Nat.mul_le_mul_right _ (by omega)
          rw [Nat.add_mul] at h3
          rw [hgA, if_neg (by rw [← hssz]; omega)]; exact m3
        · rw [List.getElem?_append_right (by omega)] at h1
          refine ⟨by rw [hssz]; exact hrows row (List.mem_of_getElem? h1), fun j x h2 => ?_⟩
          obtain ⟨cv, m1, m2, m3⟩ := newcell (some s) (i - old.length) row j x h1 h2
          rw [show old.length + (i - old.length) = i by omega] at m3
          refine ⟨cv, ?_, m3⟩
          have hka := (Array.getElem?_eq_some_iff.mp m1).1
          have h3 : i * size = n * size + (i - old.length) * size := by rw [← Nat.add_mul]; congr 1; omega
          rw [hgA, hssz, if_pos (by simp only [Array.length_toList]; omega), h3]
          rw [show s.o + (n * size + (i - old.length) * size) + j - (s.o + n * size) = (i - old.length) * size + j by omega, Array.getElem?_toList]
          exact m1
      · intro k hk hnw
        rw [hgetw, if_neg]
        intro e; exact hnw ⟨fun hf => hf, s, hal, e⟩
  · -- a new block
    obtain ⟨z, hz1, hz2⟩ := hz
    obtain ⟨oldA, ho1, ho2, ho3⟩ : ∃ oldA : Array Value, (∀ d, (Builtin.firstCells te.size n (.slice ad n cap)).run P (wd w d) = .ok oldA (wd w d)) ∧ oldA.size = old.length * size ∧
        ∀ (i : Nat) (row : List D) (j : Nat) (x : D), old[i]? = some row → row[j]? = some x → ∃ c, oldA[i * size + j]? = some c ∧ CellOK L.al a [] i j c x := by
      by_cases ho0 : old = []
      · subst ho0
        have hn0 : n = 0 := by simpa using hlen.symm
        subst hn0
        refine ⟨#[], fun d => ?_, by simp, fun i row j x h1 => by simp at h1⟩
        cases ad <;> simp [Builtin.firstCells, loadCells, loadCellsFrom]
      · have hol : old.length ≠ 0 := fun e => ho0 (List.length_eq_zero_iff.mp e)
        rcases e3 with e3 | ⟨s, hal, e4, e5⟩
        · omega
        subst e4
        unfold RowOK at hro
        rw [hal] at hro
        obtain ⟨cs, ty, fr, g1, g2, g3, g4⟩ := hro
        have hssz : s.sz = size := by
          obtain ⟨r, hr⟩ : ∃ r, old[0]? = some r := ⟨old[0]'(by omega), List.getElem?_eq_getElem (by omega)⟩
          rw [← (g4 0 r hr).1]; exact hold r (List.mem_of_getElem? hr)
        obtain ⟨oldA, k1, k2, k3⟩ := load_rows (P := P) (w := w) (b := s.b) (o := s.o) (size := size) (rows := old) (Good := fun i j c x => CellOK L.al a [] i j c x) (fun i row hi => by
          obtain ⟨m1, m2⟩ := g4 i row hi
          refine ⟨by rw [m1, hssz], fun j x hj => ?_⟩
          obtain ⟨c, m3, m4⟩ := m2 j x hj
          exact ⟨c, by rw [cell_of g1, ← m3, hssz], m4⟩)
        refine ⟨oldA, fun d => ?_, k2, k3⟩
        simp only [Builtin.firstCells, hsize, Nat.zero_mul, Nat.add_zero, ← hlen]
        exact k1 d
    obtain ⟨newCap, hnc, hrun⟩ := run_append_grows (P := P) (w := w) (ty := o.type) (ad := ad) (n := n) (cap := cap) (k := rows.length) (cy := cy) (arr := arr) (old := oldA) (z := z) ht he hxt hdx hz1 hlenOf
      (by rw [hsize]; exact hfirst) ho1 hfit (by omega) (by omega) (by rw [hbytes]; exact hbound)
    generalize hcells' : oldA ++ arr ++ Builtin.zeroCells z.cells (newCap - (n + rows.length)) = cells at hrun
    have hcsz : cells.size = newCap * size := by
      rw [← hcells']
      simp only [Array.size_append, zeroCells_size, ho2, harr, hz2]
      rw [← Nat.add_mul, ← Nat.add_mul]; congr 1; omega
    have hcget : ∀ k, k < (n + rows.length) * size → cells[k]? = if k < n * size then oldA[k]? else arr[k - n * size]? := by
      intro k hk
      rw [Nat.add_mul] at hk
      rw [← hcells', Array.getElem?_append_left (by rw [Array.size_append, ho2, harr, hlen]; omega), Array.getElem?_append, ho2, hlen]
    have hk := change_ok (G := G) (w := w) (w' := (wd w (w.drawn + 1)).alloc (.cells cells e)) (q := fun v => V.isHead a v || (mv && V.isUnder a [] v)) (sg := some ⟨w.heap.size, 0, size, cells.size⟩) h.mem hsource True (fun _ => rfl)
      (.inl rfl) (.inl ⟨trivial, fun s es => by cases es; exact Nat.le_refl _⟩) (fun v hq hva => (hq1 v hq hva).elim) hq2 ?_ (fun k hk _ => push_old (wd w (w.drawn + 1)) _ hk) (by simp [wd]) rfl rfl rfl
    · refine wp_value (hexec _ _ hrun) ⟨⟨{ L with al := changeAl L a [] (some ⟨w.heap.size, 0, size, cells.size⟩) (appσ a old.length cons) }, _, hK, (hk.rel h (fun _ => rfl) (change_out fun hh => absurd hao (by omega))).put hd ?_⟩, fun b hb _ => push_old (wd w (w.drawn + 1)) _ hb⟩
      exact view_new _ _ _ (s := ⟨w.heap.size, 0, size, cells.size⟩) (by rw [changeSt_lens]; simp [hlen]) (show changeAl L a [] (some ⟨w.heap.size, 0, size, cells.size⟩) (appσ a old.length cons) a [] = _ from changeAl_self) hnc (fun h0 => by omega) (by simp only [Nat.zero_add]; omega)
    · unfold RowOK
      rw [changeAl_self]
      refine ⟨cells, e, (0, 0), push_new (wd w (w.drawn + 1)) _, rfl, fun o' _ hh => by omega, ?_⟩
      intro i row h1
      by_cases hi : i < old.length
      · rw [List.getElem?_append_left hi] at h1
        refine ⟨hold row (List.mem_of_getElem? h1), fun j x h2 => ?_⟩
        obtain ⟨c, m3, m4⟩ := ho3 i row j x h1 h2
        refine ⟨c, ?_, m4.al (oldal _ i j hi)⟩
        have hj : j < size := by rw [← hold row (List.mem_of_getElem? h1)]; exact (List.getElem?_eq_some_iff.mp h2).1
        have h3 : (i + 1) * size ≤ n * size := Nat.mul_le_mul_right _ (by omega)
        rw [Nat.add_mul] at h3
        show cells[0 + i * size + j]? = _
        rw [Nat.zero_add, hcget _ (by rw [Nat.add_mul]; omega), if_pos (by omega)]; exact m3
      · rw [List.getElem?_append_right (by omega)] at h1
        have hrl := hrows row (List.mem_of_getElem? h1)
        refine ⟨hrl, fun j x h2 => ?_⟩
        obtain ⟨cv, m1, m2, m3⟩ := newcell (some ⟨w.heap.size, 0, size, cells.size⟩) (i - old.length) row j x h1 h2
        rw [show old.length + (i - old.length) = i by omega] at m3
        refine ⟨cv, ?_, m3⟩
        have hka := (Array.getElem?_eq_some_iff.mp m1).1
        have h3 : i * size = n * size + (i - old.length) * size := by rw [← Nat.add_mul]; congr 1; omega
        show cells[0 + i * size + j]? = _
        rw [Nat.zero_add, h3, hcget _ (by rw [Nat.add_mul]; omega), if_neg (by omega)]
        rw [show n * size + (i - old.length) * size + j - n * size = (i - old.length) * size + j by omega]
        exact m1

def chkApp (P : Program) (t xt : TypeId) (esz bytes : Nat) : Bool :=
  match P.underlying t with
  | some (.slice e) => match P.info? e, P.underlying xt with
    | some te, some dx => te.size == esz && te.bytes == bytes && 0 < bytes && bytes ≤ 2 ^ 20 && (match te.zero with | some z => z.cells.size == esz | none => false) && (match dx with | .int _ => false | _ => true)
    | _, _ => false
  | _ => false
theorem chkApp_ok {t xt : TypeId} {esz bytes : Nat} (h : chkApp P t xt esz bytes = true) : ∃ e te dx, P.underlying t = some (.slice e) ∧ P.info? e = some te ∧ P.underlying xt = some dx ∧ (∀ k, dx ≠ .int k) ∧ te.size = esz ∧ te.bytes = bytes ∧ 0 < bytes ∧ bytes ≤ 2 ^ 20 ∧ ∃ z, te.zero = some z ∧ z.cells.size = esz := by
  unfold chkApp at h
  split at h
  · rename_i e he
    split at h
    · rename_i te dx h1 h2
      simp only [Bool.and_eq_true, beq_iff_eq, decide_eq_true_eq] at h
      obtain ⟨⟨⟨⟨⟨k1, k2⟩, k3⟩, k4⟩, k5⟩, k6⟩ := h
      refine ⟨e, te, dx, he, h1, h2, ?_, k1, k2, k3, k4, ?_⟩
      · intro k e'; subst e'; simp at k6
      · split at k5
        · rename_i z hz; exact ⟨z, hz, by simpa using k5⟩
        · cases k5
    · cases h
  · cases h
theorem appTo_sizes {st : St} {a : Nat} {mv : Bool} {cons : List Nat} {esz bytes n : Nat} {rows : Rows} {K : St → Prop} (h : appTo st a mv cons esz bytes n rows K) : ∀ r ∈ rows, r.length = esz := by
  unfold appTo at h
  split at h
  · exact h.2.2.2.1
  · exact h.elim
theorem ok_app (hd : ∀ k, o.dst = some k → k < N) (h : Rel G N ac w L st) {t xt : TypeId} {x y : Operand} {x' y' : Opd} {nm esz bytes : Nat} {mv : Bool}
    (ho : o.op = .call { callee := .builtin .append, args := #[x, y], argTypes := #[t, xt] }) (hx : chkOpd x x' = true) (hy : chkOpd y y' = true) (hc : chkApp P t xt esz bytes = true) (hnmo : nm < outer)
    {H : Handler} (hp : awpOp H o.dst (.app nm mv esz bytes x' y') st K) : o.wp P ac w (AfterT G N K w (fun b' => ∃ a p lo n s, st.ev x' = .ref a p lo n ∧ L.al a p = some s ∧ b' = s.b)) Q := by
  obtain ⟨e, te, dx, c1, c2, c3, c4, c5, c6, c7, c8, c9⟩ := chkApp_ok hc
  simp only [awpOp] at hp
  have hvx := h.ev hx
  have hvy := h.ev hy
  obtain ⟨rows, cons, hR, hsrc, hcons⟩ := src_spec (P := P) h.mem hvy (size := esz) hp (by
    intro rows cons hR
    split at hR
    · exact appTo_sizes hR.2
    · split at hR
      · exact appTo_sizes hR.2
      · exact appTo_sizes hR.2.2.2.2.2
    · exact hR.elim)
  have hmv : cons ≠ [] → mv = true := by
    intro hne
    rcases hcons with ⟨ec, _⟩ | ⟨b, hm, _⟩
    · exact absurd ec hne
    · exact hm
  have hcons' : (cons = [] ∧ ∀ r ∈ rows, ∀ x ∈ r, D.flat x = true) ∨ ∃ b, cons = [b] ∧ st.as b = some rows := hcons.imp id fun ⟨b, _, e1, e2⟩ => ⟨b, e1, e2⟩
  clear hcons
  -- the same source over another layout that leaves the moved array where it is
  have resrc : ∀ (L' : Lay), (∀ b p, b ∈ cons → L'.al b p = L.al b p) → SrcOK P w L' esz (ac.eval y) rows (movσ cons) := by
    intro L' hL
    obtain ⟨s1, arr, s2, s3, s4⟩ := hsrc
    refine ⟨s1, arr, s2, s3, fun i row j x e1 e2 => ?_⟩
    obtain ⟨cv, k1, k2, k3⟩ := s4 i row j x e1 e2
    refine ⟨cv, k1, k2, fun al' a p k he => k3 al' a p k ?_⟩
    rw [he]
    rcases hcons' with ⟨ec, _⟩ | ⟨b, ec, _⟩
    · subst ec; rfl
    · subst ec
      simp only [movσ, Option.bind_some]
      exact hL b _ (by simp)
  split at hR
  · -- nil
    rename_i hnil
    obtain ⟨hnm, hR⟩ := hR
    rw [hnil] at hvx
    simp only [VRel] at hvx
    have h1 := h.adopt nm hnmo
    have hR' : appTo (changeSt st (V.isA [nm]) [] nm [] []) nm mv cons esz bytes 0 rows fun st' => K (st'.put o.dst (.ref nm [] 0 (0 + rows.length))) := by simpa only [Nat.zero_add] using hR
    refine Oper.wp_mono ?_ (appTo_ok (nm' := nm) h1 hnmo ho (c0 := ac.eval x) (cy := ac.eval y) (by simp) c1 c2 c3 c4 c5 c6 c7 c8 c9 ?_ (resrc _ ?_) ?_ hmv hd hR')
    · exact fun a' w' ha => ⟨ha.1, fun b hb _ => ha.2 b hb (fun ⟨s, hs, _⟩ => by change changeAl L nm [] none (fun _ _ => none) nm [] = some s at hs; rw [changeAl_self] at hs; cases hs)⟩
    · intro old _ hl
      have : old = [] := List.length_eq_zero_iff.mp hl
      subst this
      exact ⟨none, 0, hvx, Nat.le_refl _, fun _ => rfl, .inl rfl⟩
    · intro b p hb
      have : b ≠ nm := fun e => hnm (e ▸ hb)
      exact changeAl_ne this
    · rcases hcons' with hcons | ⟨b, ec, hb⟩
      · exact .inl hcons
      · right
        refine ⟨b, ec, ?_⟩
        have : b ≠ nm := fun e => hnm (by simp [ec, e])
        rw [changeSt_ne this]; simpa using hb
  · rename_i a p lo n hev
    obtain ⟨hlo, hR⟩ := hR
    subst hlo
    rw [hev] at hvx
    simp only [VRel] at hvx
    split at hR
    · rename_i hcase
      obtain ⟨e1, hao⟩ := hcase
      subst e1
      refine Oper.wp_mono ?_ (appTo_ok (nm' := nm) h hao ho (c0 := ac.eval x) (cy := ac.eval y) (by simp) c1 c2 c3 c4 c5 c6 c7 c8 c9 ?_ hsrc hcons' hmv hd hR)
      · exact fun a' w' ha => ⟨ha.1, fun b hb hn => ha.2 b hb (fun ⟨s, hs, e⟩ => hn ⟨_, _, _, _, s, hev, hs, e⟩)⟩
      intro old ho' hl
      exact (hvx.2 old.length (by simp [envOf, St.lens, St.rowAt, ho', getRow])).2
    · obtain ⟨hna, hnm, hac, hsome, hR⟩ := hR
      obtain ⟨rowsP, hrP⟩ := Option.isSome_iff_exists.mp hsome
      have hk := take_ok (G := G) h.mem hna hrP
      have h1 := hk.rel h (fun _ => rfl) (take_out hnmo)
      refine Oper.wp_mono ?_ (appTo_ok (nm' := nm) h1 hnmo ho (c0 := ac.eval x) (cy := ac.eval y) (by simp) c1 c2 c3 c4 c5 c6 c7 c8 c9 ?_ (resrc _ ?_) ?_ hmv hd hR)
      · exact fun a' w' ha => ⟨ha.1, fun b hb hn => ha.2 b hb (fun ⟨s, hs, e⟩ => hn ⟨_, _, _, _, s, hev, by (change (if nm = nm then L.al a (p ++ []) else L.al nm []) = some s at hs; rw [if_pos rfl, List.append_nil] at hs; exact hs), e⟩)⟩
      · intro old ho' hl
        simp only [takeSt, upd_same] at ho'
        rw [hrP] at ho'; cases ho'
        obtain ⟨ad, cap, g1, g2, g3, g4⟩ := (hvx.2 rowsP.length (by simp [envOf, St.lens, hrP])).2
        refine ⟨ad, cap, g1, g2, g3, ?_⟩
        show cap = 0 ∨ ∃ s, (if nm = nm then L.al a (p ++ []) else L.al nm []) = some s ∧ _
        rw [if_pos rfl, List.append_nil]; exact g4
      · intro b q hb
        have : b ≠ nm := fun e => hnm (e ▸ hb)
        exact if_neg this
      · rcases hcons' with hcons | ⟨b, ec, hb⟩
        · exact .inl hcons
        · right
          refine ⟨b, ec, ?_⟩
          have e1 : b ≠ nm := fun e => hnm (by simp [ec, e])
          have e2 : b ≠ a := fun e => hac (by simp [ec, e])
          simp only [takeSt]
          rw [upd_ne _ _ e1, upd_ne _ _ e2]; exact hb
  · exact hR.elim
end
end Go.Vm
end
section
/- make; struct literals; min and max. -/
namespace Go.Vm
def zeroD (c : Value) (d : D) : Bool :=
  match d with
  | .sl [] => chkNil c
  | .sl _ => false
  | .gone => false
  | d => chkLit c d
theorem zeroD_ok {c : Value} {d : D} (h : zeroD c d = true) {al : Nat → Path → Option Seg} {a : Nat} {p : Path} {i j : Nat} : CellOK al a p i j c d := by
  unfold zeroD at h
  split at h
  · have := chkNil_ok h; subst this
    exact ⟨none, 0, rfl, Nat.le_refl _, fun _ => rfl, .inl rfl⟩
  · cases h
  · cases h
  · have := chkLit_ok (w := default) (I := fun _ => True) h
    rename_i h1 h2 h3
    cases d with
    | sl r => cases r with
      | nil => exact absurd rfl h1
      | cons _ _ => exact absurd rfl (h2 _)
    | gone => exact absurd rfl h3
    | _ => simpa only [Imm, CellOK] using this
def zeroDs : List Value → List D → Bool
  | [], [] => true
  | c :: cs, d :: ds => zeroD c d && zeroDs cs ds
  | _, _ => false
theorem zeroDs_ok : ∀ {cs : List Value} {ds : List D}, zeroDs cs ds = true → cs.length = ds.length ∧ ∀ (j : Nat) (c : Value) (d : D), cs[j]? = some c → ds[j]? = some d → zeroD c d = true
  | [], [], _ => ⟨rfl, fun j c d h => by simp at h⟩
  | [], _ :: _, h => by simp [zeroDs] at h
  | _ :: _, [], h => by simp [zeroDs] at h
  | c :: cs, d :: ds, h => by
    simp only [zeroDs, Bool.and_eq_true] at h
    obtain ⟨h1, h2⟩ := zeroDs_ok h.2
    refine ⟨by simp [h1], fun j c' d' e1 e2 => ?_⟩
    cases j with
    | zero => simp at e1 e2; subst e1; subst e2; exact h.1
    | succ j => simp at e1 e2; exact h2 j c' d' e1 e2
def chkMake (P : Program) (t : TypeId) (zero : List D) : Bool :=
  match P.underlying t with
  | some (.slice e) => match P.info? e with
    | some te => te.bytes ≤ 2 ^ 15 && te.size == zero.length && 0 < zero.length && (match te.zero with | some z => zeroDs z.cells.toList zero | none => false)
    | none => false
  | _ => false
theorem chkMake_ok {P : Program} {t : TypeId} {zero : List D} (h : chkMake P t zero = true) : ∃ e te z, P.underlying t = some (.slice e) ∧ P.info? e = some te ∧ te.bytes ≤ 2 ^ 15 ∧ te.size = zero.length ∧ 0 < zero.length ∧ te.zero = some z ∧ zeroDs z.cells.toList zero = true := by
  unfold chkMake at h
  split at h
  · rename_i e he
    split at h
    · rename_i te h1
      simp only [Bool.and_eq_true, beq_iff_eq, decide_eq_true_eq] at h
      obtain ⟨⟨⟨k1, k2⟩, k3⟩, k4⟩ := h
      split at k4
      · rename_i z hz; exact ⟨e, te, z, he, h1, k1, k2, k3, hz, k4⟩
      · cases k4
    · cases h
  · cases h
section
variable {P : Program} {o : Oper} {N : Nat} {G : Ghost} {ac : Act} {w w' : World} {L : Lay} {st : St} {K : St → Prop} {Q : Exit → Act → World → Prop}
theorem noσ (st : St) {cons : List Nat} {nm : Nat} (hn : nm ∉ cons) (rows : Rows) (hr : ∀ (i : Nat) (row : List D) (j : Nat) (r : Rows), rows[i]? = some row → row[j]? = some (D.sl r) → r = []) : Source st cons nm [] rows (fun _ _ => none) :=
  ⟨fun i row j r h1 h2 => .inr ⟨rfl, hr i row j r h1 h2⟩, (fun i j i' j' a0 p0 p0' h1 => by cases h1), (fun i j a0 p0 h1 => by cases h1), hn⟩
theorem ok_make (hd : ∀ k, o.dst = some k → k < N) (h : Rel G N ac w L st) {t : TypeId} {x y : Operand} {x' y' : Opd} {nm : Nat} {zero : List D} (ho : o.op = .makeSlice t x y) (hx : chkOpd x x' = true) (hy : chkOpd y y' = true) (hc : chkMake P t zero = true) (hnmo : nm < outer)
    {H : Handler} (hp : awpOp H o.dst (.make nm zero x' y') st K) : o.wp P ac w (AfterT G N K w (fun _ => False)) Q := by
  obtain ⟨e, te, z, c1, c2, c3, c4, c5, c6, c7⟩ := chkMake_ok hc
  obtain ⟨z1, z2⟩ := zeroDs_ok c7
  simp only [awpOp] at hp
  unfold asNat at hp
  split at hp
  case h_2 => exact hp.elim
  rename_i k q hq
  obtain ⟨q0, hp⟩ := hp
  split at hp
  case h_2 => exact hp.elim
  rename_i k' q' hq'
  obtain ⟨q0', hqq, hle, hK⟩ := hp
  have e1 := Imm_int (ev_d h hx hq)
  have e2 := Imm_int (ev_d h hy hq')
  have hql : q' = q := by omega
  subst hql
  obtain ⟨n, rfl⟩ : ∃ n : Nat, q' = (n : Int) := ⟨q'.toNat, by omega⟩
  simp only [Int.toNat_natCast] at hle hK
  have hwrap : IntKind.i64.wrap (n : Int) = (n : Int) := wrap_inR ⟨by simp [IntKind.min, IntKind.signed, IntKind.bits], by simp [IntKind.max, IntKind.signed, IntKind.bits]; omega⟩
  have hzs : z.cells.size = zero.length := by simpa using z1
  generalize hcells : (Array.range (n * te.size)).map (fun i => (if n * te.size = 0 then (#[] : Array Value) else z.cells)[i % (if n * te.size = 0 then (#[] : Array Value) else z.cells).size]!) = cells
  have hcsz : cells.size = n * zero.length := by rw [← hcells, c4]; simp
  have hrun : (Instr.makeSlice t (ac.eval x) (ac.eval y)).run P w = .ok (.slice (some ⟨w.heap.size, 0, none⟩) n n) (w.alloc (.cells cells e)) := by
    have hb : (te.bytes : Int) * (n : Int) ≤ 2 ^ 47 := by
      have : te.bytes * n ≤ 2 ^ 15 * 2 ^ 32 := Nat.mul_le_mul c3 hle
      have h2 : ((te.bytes * n : Nat) : Int) ≤ ((2 ^ 15 * 2 ^ 32 : Nat) : Int) := by exact_mod_cast this
      simpa using h2
    have htl : ¬ ((decide ((n : Int) < 0) || decide ((te.bytes : Int) * (n : Int) > 2 ^ 48)) = true ∨ (n : Int) < 0 ∨ (n : Int) > (n : Int)) := by
      simp; omega
    simp only [Instr.makeSlice, Sem.run_bind, run_underlying c1, Result.andThen_ok, e1, e2, asInt, asIntOf, Sem.run_pure, run_typeInfo c2, hwrap]
    rw [if_neg (by simpa using htl)]
    simp only [Sem.run_bind, run_askRoom, Result.andThen_ok, run_sizeOf c2, Int.toNat_natCast]
    by_cases hzn : n * te.size = 0
    · rw [if_pos hzn]
      simp only [Sem.run_bind, Sem.run_pure, Result.andThen_ok, newRow, run_newObj]
      rw [← hcells]
      simp only [hzn, if_true]
      rfl
    · rw [if_neg hzn]
      simp only [Sem.run_bind, Sem.run_pure, Result.andThen_ok, newRow, run_newObj, zeroValue, run_typeInfo c2, c6]
      rw [← hcells]
      simp only [hzn, if_false]
      rfl
  have hget : ∀ i j, i < n → j < zero.length → cells[i * zero.length + j]? = z.cells[j]? := by
    intro i j hi hj
    have hne : ¬ n * te.size = 0 := by
      rw [c4]; intro e0
      rcases Nat.mul_eq_zero.mp e0 with e1 | e1 <;> omega
    have hlt : i * zero.length + j < n * te.size := by
      rw [c4]
      have : (i + 1) * zero.length ≤ n * zero.length := Nat.mul_le_mul_right _ hi
      rw [Nat.add_mul] at this; omega
    rw [← hcells]
    simp only [hne, if_false, Array.getElem?_map, Array.getElem?_range, hlt, if_true, Option.map_some]
    have hm : (i * zero.length + j) % z.cells.size = j := by rw [hzs, Nat.mul_add_mod_self_right, Nat.mod_eq_of_lt hj]
    rw [hm]
    have hj' : j < z.cells.size := by omega
    simp [hj']
  have hnew := h.newArr (w' := w.alloc (.cells cells e)) (nm := nm) (rows := List.replicate n zero) (cons := []) (σ := fun _ _ => none) (ty := e) (fr := (0, 0)) (esz := zero.length) (cells := cells) hnmo
    (noσ st (by simp) _ (fun i row j r h1 h2 => by
      have hrow := List.mem_of_getElem? h1
      rw [List.mem_replicate] at hrow
      rw [hrow.2] at h2
      have hj := (List.getElem?_eq_some_iff.mp h2).1
      have hz := z2 j (z.cells[j]'(by omega)) _ (by simp [show j < z.cells.size by omega]) h2
      unfold zeroD at hz
      cases r with
      | nil => rfl
      | cons _ _ => simp at hz))
    (fun k hk => by
      by_cases e : k = w.heap.size
      · subst e; rw [if_pos rfl]; exact push_new w _
      · rw [if_neg e]; exact push_old w _ (by omega))
    (by simp) (fun o' _ hh => by omega) rfl rfl rfl
    (by
      intro i row h1
      have hi : i < n := by have := (List.getElem?_eq_some_iff.mp h1).1; simpa using this
      have hrow := List.mem_of_getElem? h1
      rw [List.mem_replicate] at hrow
      refine ⟨by rw [hrow.2], fun j x h2 => ?_⟩
      rw [hrow.2] at h2
      have hj := (List.getElem?_eq_some_iff.mp h2).1
      refine ⟨z.cells[j]'(by omega), ?_, zeroD_ok (z2 j (z.cells[j]'(by omega)) x (by simp [show j < z.cells.size by omega]) h2)⟩
      show cells[0 + i * zero.length + j]? = _
      rw [Nat.zero_add, hget i j hi hj]
      simp [show j < z.cells.size by omega])
  refine wp_value (v := .slice (some ⟨w.heap.size, 0, none⟩) n n) (w' := w.alloc (.cells cells e)) ?_ ⟨⟨_, _, hK, hnew.put hd ?_⟩, fun b hb _ => push_old w _ hb⟩
  · simp only [execOp, ho]; exact run_v _ hrun
  · exact view_new _ _ _ (s := ⟨w.heap.size, 0, zero.length, cells.size⟩) (by rw [changeSt_lens]; simp) (show changeAl L nm [] (some ⟨w.heap.size, 0, zero.length, cells.size⟩) (fun _ _ => none) nm [] = _ from changeAl_self) (Nat.le_refl _) (fun h0 => h0) (by simp only [Nat.zero_add]; omega)
theorem ok_mm2 (h : Rel G N ac w L st) {mx : Bool} {x y : Operand} {ts : Array TypeId} {x' y' : Opd} (ho : o.op = .call { callee := .builtin (if mx then .max else .min), args := #[x, y], argTypes := ts })
    (hx : chkOpd x x' = true) (hy : chkOpd y y' = true) {H : Handler} (hp : awpOp H o.dst (.mm mx [x', y']) st K) : QP P o ac w L st K := by
  simp only [awpOp, List.map_cons, List.map_nil] at hp
  split at hp
  · rename_i k a k' b heq
    simp only [List.cons.injEq, and_true] at heq
    obtain ⟨h1, h2⟩ := heq
    obtain ⟨hk, hK⟩ := hp
    subst hk
    have e1 := Imm_int (ev_d h hx h1)
    have e2 := Imm_int (ev_d h hy h2)
    cases mx with
    | true =>
      refine quiet_step (c := .int k (max a b)) ?_ (by simp only [VRel, Imm]; rfl) hK
      intro w'
      rw [exec_builtin ho]
      refine run_v _ ?_
      simp only [if_true, List.map_toArray, List.map_cons, List.map_nil, e1, e2, Builtin.max_, List.foldlM_cons, List.foldlM_nil, Builtin.max2, Sem.run_bind, Sem.run_pure, Result.andThen_ok]
      congr 2
      simp only [Int.max_def]; split <;> split <;> omega
    | false =>
      refine quiet_step (c := .int k (min a b)) ?_ (by simp only [VRel, Imm]; rfl) hK
      intro w'
      rw [exec_builtin ho]
      refine run_v _ ?_
      simp only [Bool.false_eq_true, if_false, List.map_toArray, List.map_cons, List.map_nil, e1, e2, Builtin.min_, List.foldlM_cons, List.foldlM_nil, Builtin.min2, Sem.run_bind, Sem.run_pure, Result.andThen_ok]
      congr 2
      simp only [Int.min_def]; split <;> split <;> omega
  · rename_i k a k' b k'' c heq
    simp at heq
  · exact hp.elim
end
end Go.Vm
end
