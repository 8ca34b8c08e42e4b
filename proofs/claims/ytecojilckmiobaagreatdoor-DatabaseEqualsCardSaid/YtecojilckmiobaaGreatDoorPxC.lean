/- Shows regions whose order is open; no condition. -/
import Derived.Test.YtecojilckmiobaaGreatDoorPxB
import Derived.LoopN
set_option linter.unusedVariables false
set_option linter.unusedSimpArgs false
set_option linter.unnecessarySimpa false
namespace Go.Px
open Go

/-- Leads into no own memory. -/
def pureN : Nat → PV → Bool
  | 0, _ => false
  | d + 1, v =>
    match v with
    | .agg cs => cs.all (pureN d)
    | .tup cs => cs.all (pureN d)
    | .fn _ a b => a.all (pureN d) && b.all (pureN d)
    | .own _ _ | .ptr _ _ | .rp _ _ _ _ | .fresh _ _ | .mapo _ | .mapp _ _ | .yl _ | .itp _ _ | .loopp _ _ _ _ _ => false
    | _ => true

def idTop : PV → List Nat
  | .own id _ => [id]
  | .ptr id _ => [id]
  | .rp id _ _ _ => [id]
  | .mapo id => [id]
  | _ => []

def callD {Tb : Tab} (E : Env Tb) (g : FuncId) (args : List PV) (h : Hp) (nid : Nat) (K : PV → Hp → Prop) : Prop :=
  bif args.all (pureN 6) then
    (bif E.fok g then (∃ r, AF E g args r ∧ K r h) ∨ (∃ e k xs, AFr E g args e k xs ∧ K (.own nid xs.length) (setB h nid (some (.row e k true xs 0))))
    else ∃ r, NF E g args r ∧ K r h)
  else False

/-- An operation of a region whose order is open. -/
def vcValD {Tb : Tab} (E : Env Tb) (o : Op) (arg : Operand → PV) (h : Hp) (nid : Nat) (K : PV → Hp → Prop) : Prop :=
  match o with
  | .buildSlice t len parts => bif (parts.toList.map fun p => unkb (arg p.2)).all (pureN 6) || (parts.toList.map fun p => unkb (arg p.2)).any hasPtr then vcVal E o arg h nid K else False
  | .call c =>
    match c.callee with
    | .value fo =>
      match arg fo with
      | .fn (.func g) first cap => callD E g (first ++ c.args.toList.map (fun x => unkb (arg x)) ++ cap) h nid K
      | _ => False
    | .builtin _ => vcVal E o arg h nid K
    | _ => False
  | .binOp op t x y z => bif isConstNilS y then False else vcVal E o arg h nid K
  | .range _ _ => False
  | .next _ _ => False
  | _ => vcVal E o arg h nid K

def reads : Op → List Operand
  | .load _ a => [a]
  | .store _ a _ => [a]
  | .nilCheck x => [x]
  | .slice _ x _ _ _ => [x]
  | .fieldAddr _ x _ => [x]
  | .indexAddr _ x _ => [x]
  | .call c => c.args.toList
  | .lookup _ x _ _ => [x]
  | .mapUpdate _ m _ _ => [m]
  | .insert _ m _ _ => [m]
  | _ => []
def touch (op : Op) (arg : Operand → PV) (nid : Nat) : List Nat := nid :: (reads op).flatMap fun x => idTop (arg x)


/-- The blocks that an operation may write. -/
def wids (op : Op) (arg : Operand → PV) (nid : Nat) : List Nat :=
  match op with
  | .alloc _ | .box _ _ | .buildSlice _ _ _ | .makeSlice _ _ _ | .makeMap _ _ => [nid]
  | .mapUpdate _ m _ _ => idTop (arg m)
  | .insert _ m _ _ => idTop (arg m)
  | .store _ a _ => idTop (arg a)
  | .slice _ x _ _ _ => idTop (arg x)
  | .call c => nid :: c.args.toList.flatMap fun x => idTop (arg x)
  | _ => []

def opTmps (op : Op) : List Nat := op.operands.toList.filterMap fun
  | .tmp t => some t
  | _ => none

/-! ### Entries laid into a map, in whatever order -/
def codeL : List UInt8 → Nat
  | [] => 0
  | b :: r => codeL r * 257 + (b.toNat + 1)
def codeP : PV → Nat
  | .str l => codeL l
  | .int _ n => n.toNat
  | _ => 0
def insP (k v : PV) : List (PV × PV) → List (PV × PV)
  | [] => [(k, v)]
  | x :: r => bif Nat.blt (codeP k) (codeP x.1) then (k, v) :: x :: r else x :: insP k v r
def insB (k v : PV) (b : Option Blk) : Option Blk :=
  match b with
  | some (.box [.mapp ks vs] fz) => some (.box [.mapp ((insP k v (ks.zip vs)).map (·.1)) ((insP k v (ks.zip vs)).map (·.2))] fz)
  | b => b
def insH (q : Option (Nat × PV × PV)) (h : Hp) : Hp :=
  match q with
  | some (id, k, v) => setB h id (insB k v (getB h id))
  | none => h
def absent (key : PV) (b : Option Blk) : Bool :=
  match b with
  | some (.box [.mapp ks _] _) => match midx key ks 0 with
    | some none => true
    | _ => false
  | _ => false
def insOf (op : Op) (arg : Operand → PV) : Option (Nat × PV × PV) :=
  match op with
  | .insert _ m k x => match arg m with
    | .mapo id => some (id, unkb (arg k), unkb (arg x))
    | _ => none
  | _ => none
def insTy {Tb : Tab} (E : Env Tb) (op : Op) (key : PV) : Bool :=
  match op with
  | .insert t _ _ _ => match E.ty t with
    | some ti => match ti.und with
      | .map kt _ => match E.ty kt with
        | some ik => keyKind ik.und key
        | none => false
      | _ => false
    | none => false
  | _ => false
def insApart (k k' : PV) : Bool :=
  (match keyEq k k' with
    | some false => true
    | _ => false) && (match keyEq k' k with
    | some false => true
    | _ => false) && !(Nat.beq (codeP k) (codeP k'))

structure DInfo where
  dst : Option Nat
  looks : List Nat
  touch : List Nat
  wids : List Nat
  ins : Option (Nat × PV × PV)

def confI (x y : DInfo) : Bool :=
  match x.ins with
  | some (id, k, _) => y.touch.contains id || (match y.ins with
    | some (id', k', _) => Nat.beq id id' && !(insApart k k')
    | none => false)
  | none => false
def conf (x y : DInfo) : Bool :=
  ((match x.dst with
    | some d => y.looks.contains d || y.dst == some d
    | none => false) ||
  (match y.dst with
    | some d => x.looks.contains d
    | none => false) || x.wids.any (fun i => y.touch.contains i) || y.wids.any (fun i => x.touch.contains i)) || (confI x y || confI y x)
def okAgainst (anc : Nat) (x : DInfo) : Nat → List DInfo → Bool
  | _, [] => true
  | i, y :: r => (Nat.testBit anc i || !conf y x) && okAgainst anc x (i + 1) r
def okPairs : List Nat → List DInfo → List DInfo → Bool
  | _, _, [] => true
  | an :: ans, pre, x :: r => okAgainst an x 0 pre && okPairs ans (pre ++ [x]) r
  | [], _, _ :: _ => false

end Go.Px

set_option linter.unusedVariables false
set_option linter.unusedSimpArgs false
set_option linter.unnecessarySimpa false
namespace Go.Px
open Go

/-- An obligation, which an evaluation of the goal leaves as it stands. -/
structure Ob (p : Unit → Prop) : Prop where
  out : p ()

def intOpX (op : BinOp) (k : IntKind) (a b : Int) (K : PV → Prop) : Prop :=
  match op with
  | .add => ∃ z, k.wrap (a + b) = z ∧ K (.int k z)
  | .sub => ∃ z, k.wrap (a - b) = z ∧ K (.int k z)
  | .mul => ∃ z, k.wrap (a * b) = z ∧ K (.int k z)
  | .quo => Ob (fun _ => b ≠ 0) ∧ ∃ z, k.wrap (a.tdiv b) = z ∧ K (.int k z)
  | .rem => Ob (fun _ => b ≠ 0) ∧ ∃ z, a.tmod b = z ∧ K (.int k z)
  | .eql => ∃ t : Bool, (t = true ↔ a = b) ∧ K (.bool t)
  | .neq => ∃ t : Bool, (t = true ↔ a ≠ b) ∧ K (.bool t)
  | .lss => ∃ t : Bool, (t = true ↔ a < b) ∧ K (.bool t)
  | .leq => ∃ t : Bool, (t = true ↔ a ≤ b) ∧ K (.bool t)
  | .gtr => ∃ t : Bool, (t = true ↔ b < a) ∧ K (.bool t)
  | .geq => ∃ t : Bool, (t = true ↔ b ≤ a) ∧ K (.bool t)
  | op => intOpK op k a b K

def strOpX (op : BinOp) (a b : List UInt8) (K : PV → Prop) : Prop :=
  match op with
  | .add => Ob (fun _ => (a.length + b.length : Nat) ≤ 9223372036854775807) ∧ ∃ s, a ++ b = s ∧ K (.str s)
  | .eql => ∃ t : Bool, (t = true ↔ a = b) ∧ K (.bool t)
  | .neq => ∃ t : Bool, (t = true ↔ a ≠ b) ∧ K (.bool t)
  | .lss => ∃ t : Bool, Op.bytesLess a b = t ∧ K (.bool t)
  | .leq => ∃ t : Bool, (Op.bytesLess a b || decide (a = b)) = t ∧ K (.bool t)
  | .gtr => ∃ t : Bool, (!(Op.bytesLess a b || decide (a = b))) = t ∧ K (.bool t)
  | .geq => ∃ t : Bool, (!Op.bytesLess a b) = t ∧ K (.bool t)
  | _ => False

section
variable {Tb : Tab} (E : Env Tb)

def binX (op : BinOp) (t : TypeId) (xo yo : Operand) (x y : PV) (K : PV → Prop) : Prop :=
  match unkb x, unkb y with
  | .int k a, .int k' b => match op with
    | .shl => binK E .shl t xo yo (.int k a) (.int k' b) K
    | .shr => binK E .shr t xo yo (.int k a) (.int k' b) K
    | op => bif decide (k = k') then intOpX op k a b K else False
  | .str a, .str b => strOpX op a b K
  | .bool a, .bool b => match op, E.ty t with
    | .eql, some i => match i.und with
      | .bool => ∃ t : Bool, (t = true ↔ a = b) ∧ K (.bool t)
      | _ => False
    | .neq, some i => match i.und with
      | .bool => ∃ t : Bool, (t = true ↔ a ≠ b) ∧ K (.bool t)
      | _ => False
    | _, _ => False
  | .agg a, .agg b => match op, E.ty t with
    | .eql, some i => bif E.eqt t (a.map kOf) && Nat.beq a.length i.size then ∃ r, eqCs a b = some r ∧ K (.bool r) else False
    | .neq, some i => bif E.eqt t (a.map kOf) && Nat.beq a.length i.size then ∃ r r', eqCs a b = some r ∧ (!r) = r' ∧ K (.bool r') else False
    | _, _ => False
  | x, y => binK E op t xo yo x y K

def pickX (c a b : PV) (K : PV → Prop) : Prop :=
  match c with
  | .kb true => K a
  | .kb false => K b
  | .bool t => match unkb a, unkb b with
    | .bool x, .bool y => ∃ r, (bif t then x else y) = r ∧ K (.bool r)
    | _, _ => False
  | _ => False

def unX (op : UnOp) (x : PV) (K : PV → Prop) : Prop :=
  match x with
  | .kb b => unK op (.kb b) K
  | .bool b => match op with
    | .not => ∃ t, (!b) = t ∧ K (.bool t)
    | _ => False
  | x => unK op x K

def lenX (t : TypeId) (x : PV) (K : PV → Prop) : Prop :=
  match E.ty t with
  | some ti =>
    match ti.und, x with
    | .string, .str l => ∃ n : Int, (l.length : Int) = n ∧ K (.int .i64 n)
    | .slice _, .sl xs => ∃ n : Int, (xs.length : Int) = n ∧ K (.int .i64 n)
    | .slice _, .own _ m => ∃ n : Int, (m : Int) = n ∧ K (.int .i64 n)
    | .slice _, .nils => K (.int .i64 0)
    | .array m _, _ => ∃ n : Int, (m : Int) = n ∧ K (.int .i64 n)
    | _, _ => False
  | none => False

def indexX (t : TypeId) (x i : PV) (K : PV → Prop) : Prop :=
  match E.ty t with
  | some ti =>
    match ti.und, x, i with
    | .string, .str l, .int _ i => ∃ b, l[i.toNat]? = some b ∧ Ob (fun _ => 0 ≤ i) ∧ ∃ n : Int, (b.toNat : Int) = n ∧ K (.int .u8 n)
    | _, _, _ => False
  | none => False

def loadX (t : TypeId) (p : PV) (h : Hp) (K : PV → Hp → Prop) : Prop :=
  match p with
  | .rp id n j off =>
    match E.ty t with
    | none => False
    | some i =>
      match getB h id with
      | some (.row _ _ _ xs _) => Ob (fun _ => n = xs.length) ∧ ∃ x, xs[j]? = some x ∧ partK (isAggD i.und) i.size x.cells off fun v => K v h
      | _ => False
  | p => loadK E t p h K

def storeX (t : TypeId) (p v : PV) (h : Hp) (K : PV → Hp → Prop) : Prop :=
  match p with
  | .rp id n j off =>
    match E.ty t with
    | none => False
    | some i =>
      bif faith v && Nat.beq v.cells.length i.size && v.cells.all isCell then
        match getB h id with
        | some (.row e k pr xs fz) => Ob (fun _ => n = xs.length) ∧ Ob (fun _ => fz ≤ j) ∧ ∃ x, xs[j]? = some x ∧ Ob (fun _ => off + v.cells.length ≤ x.cells.length) ∧
            (bif !pr || v.cells.all pureC then ∃ ys, xs.set j (updE x off v.cells) = ys ∧ K .undef (setB h id (some (.row e k pr ys fz))) else False)
        | _ => False
      else False
  | p => storeK E t p v h K

def nilCheckX (x : PV) (h : Hp) (K : PV → Prop) : Prop :=
  match x with
  | .rp id n j off => match getB h id with
    | some (.row _ _ _ xs _) => Ob (fun _ => n = xs.length) ∧ K (.rp id n j off)
    | _ => False
  | x => nilCheckK x h K

def faddrX (s : TypeId) (x : PV) (f : Nat) (h : Hp) (K : PV → Hp → Prop) : Prop :=
  match x with
  | .rp id n j off =>
    match fld E s f with
    | some (o, size, _) =>
      bif Nat.ble 1 size then
        match getB h id with
        | some (.row _ _ _ xs _) => Ob (fun _ => n = xs.length) ∧ K (.rp id n j (off + o)) h
        | _ => False
      else False
    | none => False
  | x => faddrK E s x f h K

def iaddrX (t : TypeId) (x i : PV) (h : Hp) (K : PV → Hp → Prop) : Prop :=
  match x, i with
  | .sl xs, .int _ i => match elemTy E t with
      | some (_, size) => ∃ y, xs[i.toNat]? = some y ∧ Ob (fun _ => 0 ≤ i) ∧ Ob (fun _ => y.cells.length = size) ∧ K (.pp y.cells 0) h
      | none => False
  | .own id n, .int _ i => match elemTy E t with
      | some (_, size) =>
        match getB h id with
        | some (.row _ k _ xs _) => Ob (fun _ => n = xs.length) ∧ Ob (fun _ => 0 ≤ i ∧ i < (n : Int)) ∧ (bif Nat.beq k size then ∃ j, i.toNat = j ∧ K (.rp id n j 0) h else False)
        | _ => False
      | none => False
  | x, i => iaddrK E t x i h K

def bndX (o : Option PV) (d : Nat) (K : Nat → Prop) : Prop :=
  match o with
  | none => K d
  | some (.int _ i) => Ob (fun _ => 0 ≤ i) ∧ ∃ n, i.toNat = n ∧ K n
  | _ => False

def sliceX (t : TypeId) (x : PV) (lo hi mx : Option PV) (h : Hp) (K : PV → Hp → Prop) : Prop :=
  match mx, x with
  | none, .str l => match E.ty t with
      | some i => match i.und with
        | .string => ∃ n, l.length = n ∧ bndX hi n fun b => bndX lo 0 fun a => Ob (fun _ => b ≤ n ∧ a ≤ b) ∧ ∃ s, (l.take b).drop a = s ∧ K (.str s) h
        | _ => False
      | none => False
  | none, .sl xs => match elemTy E t with
      | some (_, size) => Ob (fun _ => ∀ x ∈ xs, x.cells.length = size) ∧ ∃ n, xs.length = n ∧ bndX hi n fun b => bndX lo 0 fun a => Ob (fun _ => b ≤ n ∧ a ≤ b) ∧ ∃ s, (xs.take b).drop a = s ∧ K (.sl s) h
      | none => False
  | none, .own id n => match elemTy E t with
      | some (_, size) =>
        match getB h id with
        | some (.row e k true xs _) => Ob (fun _ => n = xs.length) ∧ (bif Nat.beq k size then bndX hi n fun b => bndX lo 0 fun a => Ob (fun _ => b ≤ n ∧ a ≤ b) ∧ ∃ s, (xs.take b).drop a = s ∧ K (.sl s) (setB h id (some (.row e k true xs n))) else False)
        | _ => False
      | none => False
  | mx, x => sliceK E t x lo hi mx h K

def makeSliceX (t : TypeId) (l c : PV) (h : Hp) (nid : Nat) (K : PV → Hp → Prop) : Prop :=
  match l, c with
  | .int _ a, .int _ b =>
    match elemTy E t with
    | some (e, size) =>
      match E.ty e with
      | some ie =>
        bif Nat.ble 1 size && okE size (zeroE ie) then
          Ob (fun _ => 0 ≤ a ∧ a ≤ b ∧ b * ie.bytes ≤ 140737488355328 ∧ b ≤ 140737488355328) ∧
            ∃ m zs, a.toNat = m ∧ List.replicate m (zeroE ie) = zs ∧ K (.own nid m) (setB h nid (some (.row e size true zs 0)))
        else False
      | none => False
    | none => False
  | _, _ => False

def srcX (size : Nat) (x : PV) (h : Hp) (K : List PV → Prop) : Prop :=
  match x with
  | .own id m =>
    match getB h id with
    | some (.row _ k true xs _) => Ob (fun _ => m = xs.length) ∧ (bif Nat.beq k size then K xs else False)
    | _ => False
  | .sl xs => Ob (fun _ => ∀ x ∈ xs, x.cells.length = size) ∧ K xs
  | .nils => K []
  | _ => False

def appendX (t : TypeId) (s x : PV) (h : Hp) (nid : Nat) (K : PV → Hp → Prop) : Prop :=
  match elemTy E t with
  | some (e, size) =>
    match E.ty e with
    | some ie =>
      bif Nat.ble 1 size && Nat.ble 1 ie.bytes then
        srcX size x h fun ys =>
          match s with
          | .nils => (Ob (fun _ => ys = []) ∧ K .nils h) ∨ (Ob (fun _ => ys ≠ []) ∧ ∃ m, ys.length = m ∧ Ob (fun _ => m * ie.bytes ≤ 140737488355328) ∧ K (.own nid m) (setB h nid (some (.row e size true ys 0))))
          | .own id n =>
            match getB h id with
            | some (.row e' k true xs fz) => Ob (fun _ => n = xs.length) ∧ (bif Nat.beq e' e && Nat.beq k size then ∃ zs m, xs ++ ys = zs ∧ zs.length = m ∧ Ob (fun _ => m * ie.bytes ≤ 140737488355328) ∧ K (.own id m) (setB h id (some (.row e' k true zs fz))) else False)
            | _ => False
          | _ => False
      else False
    | none => False
  | none => False

def fzLX (f : Hp → PV → (PV → Hp → Prop) → Prop) : Hp → List PV → (List PV → Hp → Prop) → Prop
  | h, [], K => K [] h
  | h, x :: xs, K => f h x fun x' h' => fzLX f h' xs fun xs' h'' => K (x' :: xs') h''
def fzX : Nat → Hp → PV → (PV → Hp → Prop) → Prop
  | 0, _, _, _ => False
  | d + 1, h, v, K =>
    match v with
    | .own id n =>
      match getB h id with
      | some (.row e k true xs _) => Ob (fun _ => n = xs.length) ∧ K (.sl xs) (setB h id (some (.row e k true xs n)))
      | _ => False
    | .ptr id off =>
      match getB h id with
      | some (.box cs _) => fzLX (fzX d) h cs fun cs' h' => K (.pp cs' off) (setB h' id (some (.box cs true)))
      | _ => False
    | .agg cs => fzLX (fzX d) h cs fun cs' h' => K (.agg cs') h'
    | .tup cs => fzLX (fzX d) h cs fun cs' h' => K (.tup cs') h'
    | .fn f fi ca => fzLX (fzX d) h fi fun fi' h' => fzLX (fzX d) h' ca fun ca' h'' => K (.fn f fi' ca') h''
    | .rp _ _ _ _ | .fresh _ _ | .mapo _ | .mapp _ _ | .yl _ | .itp _ _ | .loopp _ _ _ _ _ => False
    | v => K v h

def buildSliceX (t : TypeId) (len : Nat) (ps : List (Nat × PV)) (h : Hp) (nid : Nat) (K : PV → Hp → Prop) : Prop :=
  match elemTy E t with
  | some (e, size) =>
    bif inOrder 0 ps && Nat.beq ps.length len && Nat.ble 1 size && Nat.ble (len * size) 16777216 then
      bif (ps.map (·.2)).any hasPtr then
        (bif (ps.map (·.2)).all (okE size) then K (.own nid len) (setB h nid (some (.row e size false (ps.map (·.2)) 0))) else False)
      else fzLX (fzX 6) h (ps.map (·.2)) fun xs h' => bif xs.all (okE size) then K (.own nid xs.length) (setB h' nid (some (.row e size true xs 0))) else False
    else False
  | none => False

def callX (f : FuncId) (args : List PV) (h : Hp) (nid : Nat) (K : PV → Hp → Prop) : Prop :=
  bif E.fok f then
    (fzLX (fzX 6) h args fun args' h' => ∃ r, AF E f args' r ∧ K r h') ∨
    (fzLX (fzX 6) h args fun args' h' => ∃ e k xs m, AFr E f args' e k xs ∧ xs.length = m ∧ K (.own nid m) (setB h' nid (some (.row e k true xs 0)))) ∨
    (∃ R, AC E f args h R ∧ ∀ v h', R v h' → K v h')
  else fzLX (fzX 6) h args fun args' h' => ∃ r, NF E f args' r ∧ K r h'

def vcValX (o : Op) (arg : Operand → PV) (h : Hp) (nid : Nat) (K : PV → Hp → Prop) : Prop :=
  match o with
  | .pick c a b => pickX (arg c) (arg a) (arg b) fun v => K v h
  | .buildSlice t len parts => buildSliceX E t len (parts.toList.map fun p => (p.1, unkb (arg p.2))) h nid K
  | .load t a => loadX E t (arg a) h K
  | .store t a v => storeX E t (arg a) (unkb (arg v)) h K
  | .nilCheck x => nilCheckX (arg x) h fun v => K v h
  | .binOp op t x y _ => binX E op t x y (arg x) (arg y) fun v => K v h
  | .unOp op _ x => unX op (arg x) fun v => K v h
  | .makeSlice t l c => makeSliceX E t (arg l) (arg c) h nid K
  | .slice t x lo hi mx => sliceX E t (arg x) (lo.map arg) (hi.map arg) (mx.map arg) h K
  | .fieldAddr s x f => faddrX E s (arg x) f h K
  | .indexAddr t x i => iaddrX E t (arg x) (arg i) h K
  | .index t x i => indexX E t (arg x) (arg i) fun v => K v h
  | .call c =>
    match c.callee with
    | .value fo =>
      match arg fo with
      | .fn (.func g) first cap => callX E g (first ++ c.args.toList.map (fun x => unkb (arg x)) ++ cap) h nid K
      | .yl id => yieldK E id (c.args.toList.map fun x => unkb (arg x)) h K
      | _ => False
    | .builtin .len =>
      match c.args.toList, c.argTypes.toList with
      | [x], [t] => lenX E t (arg x) fun v => K v h
      | _, _ => False
    | .builtin .append =>
      match c.args.toList, c.argTypes.toList with
      | [s, x], [t, t'] => bif Nat.beq t t' then appendX E t (arg s) (arg x) h nid K else False
      | _, _ => False
    | _ => callOpK E c arg h nid K
  | o => vcVal E o arg h nid K

def vcValDX (o : Op) (arg : Operand → PV) (h : Hp) (nid : Nat) (K : PV → Hp → Prop) : Prop :=
  match o with
  | .buildSlice t len parts => bif (parts.toList.map fun p => unkb (arg p.2)).all (pureN 6) || (parts.toList.map fun p => unkb (arg p.2)).any hasPtr then vcValX E o arg h nid K else False
  | .call c =>
    match c.callee with
    | .value fo =>
      match arg fo with
      | .fn (.func g) first cap => callD E g (first ++ c.args.toList.map (fun x => unkb (arg x)) ++ cap) h nid K
      | _ => False
    | .builtin _ => vcValX E o arg h nid K
    | _ => False
  | .binOp op t x y z => bif isConstNilS y then False else vcValX E o arg h nid K
  | .range _ _ => False
  | .next _ _ => False
  | o => vcValX E o arg h nid K
end
end Go.Px

set_option linter.unusedVariables false
set_option linter.unusedSimpArgs false
set_option linter.unnecessarySimpa false
namespace Go.Px
open Go

theorem bool_dec {t : Bool} {P : Prop} [Decidable P] (h : t = true ↔ P) : t = decide P := by
  rw [Bool.eq_iff_iff]; simp [h]

theorem intOp_x {op : BinOp} {k : IntKind} {a b : Int} {K : PV → Prop} (hk : intOpX op k a b K) : intOpK op k a b K := by
  cases op <;> simp only [intOpX, intOpK] at hk ⊢ <;> first
    | exact hk
    | exact ⟨hk.1.out, hk.2⟩
    | (obtain ⟨t, ht, hk⟩ := hk; rw [bool_dec ht] at hk; exact hk)
theorem strOp_x {op : BinOp} {a b : List UInt8} {K : PV → Prop} (hk : strOpX op a b K) : strOpK op a b K := by
  cases op <;> simp only [strOpX, strOpK] at hk ⊢ <;> first
    | exact hk
    | (obtain ⟨h0, s, rfl, hk⟩ := hk; exact ⟨h0.out, hk⟩)
    | (obtain ⟨t, rfl, hk⟩ := hk; exact hk)
    | (obtain ⟨t, ht, hk⟩ := hk; rw [bool_dec ht] at hk; exact hk)

section
variable {Tb : Tab} {E : Env Tb}
theorem bin_x {op : BinOp} {t : TypeId} {xo yo : Operand} {x y : PV} {K : PV → Prop} (hk : binX E op t xo yo x y K) : binK E op t xo yo x y K := by
  unfold binX at hk
  split at hk
  · rename_i k a k' b hx hy
    unfold binK
    simp only [hx, hy]
    cases op <;> first
      | exact hk
      | (cases hb : decide (k = k') with
        | false => simp only [hb] at hk; exact hk.elim
        | true => simp only [hb, cond_true] at hk ⊢; exact intOp_x hk)
  · rename_i a b hx hy
    unfold binK
    simp only [hx, hy]
    cases op <;> exact strOp_x hk
  · rename_i a b hx hy
    unfold binK
    simp only [hx, hy]
    split at hk
    · rename_i i hi
      simp only [hi]
      split at hk
      · rename_i hu
        obtain ⟨t, ht, hk⟩ := hk; rw [bool_dec ht] at hk; simp only [hu]; exact hk
      · exact hk.elim
    · rename_i i hi
      simp only [hi]
      split at hk
      · rename_i hu
        obtain ⟨t, ht, hk⟩ := hk; rw [bool_dec ht] at hk; simp only [hu]; exact hk
      · exact hk.elim
    · exact hk.elim
  · rename_i a b hx hy
    unfold binK
    simp only [hx, hy]
    split at hk
    · rename_i i hi
      simp only [hi]
      cases hb : (E.eqt t (a.map kOf) && Nat.beq a.length i.size) with
      | false => rw [hb] at hk; exact hk.elim
      | true => rw [hb] at hk; obtain ⟨r, hr, hk⟩ := hk; simp only [cond_true, hr]; exact hk
    · rename_i i hi
      simp only [hi]
      cases hb : (E.eqt t (a.map kOf) && Nat.beq a.length i.size) with
      | false => rw [hb] at hk; exact hk.elim
      | true => rw [hb] at hk; obtain ⟨r, r', hr, rfl, hk⟩ := hk; simp only [cond_true, hr]; exact hk
    · exact hk.elim
  · unfold binK at hk ⊢
    have hu : ∀ v : PV, unkb (unkb v) = unkb v := fun v => by cases v <;> rfl
    rw [hu, hu] at hk
    exact hk

theorem pick_x {c a b : PV} {K : PV → Prop} (hk : pickX c a b K) : pickK c a b K := by
  unfold pickX at hk
  unfold pickK
  split at hk
  · exact hk
  · exact hk
  · simp only
    split at hk
    · obtain ⟨r, rfl, hk⟩ := hk; rename_i h1 h2; simp only [h1, h2]; exact hk
    · exact hk.elim
  · exact hk.elim
theorem un_x {op : UnOp} {x : PV} {K : PV → Prop} (hk : unX op x K) : unK op x K := by
  unfold unX at hk
  split at hk
  · exact hk
  · split at hk
    · obtain ⟨t, rfl, hk⟩ := hk; exact hk
    · exact hk.elim
  · exact hk
theorem len_x {t : TypeId} {x : PV} {K : PV → Prop} (hk : lenX E t x K) : lenK E t x K := by
  unfold lenX at hk
  unfold lenK
  split at hk
  · rename_i ti hti
    simp only [hti]
    split at hk <;> first
      | (obtain ⟨n, rfl, hk⟩ := hk; simp_all; done)
      | (simp_all; done)
  · exact hk.elim
theorem index_x {t : TypeId} {x i : PV} {K : PV → Prop} (hk : indexX E t x i K) : indexK E t x i K := by
  unfold indexX at hk
  unfold indexK
  split at hk
  · rename_i ti hti
    simp only [hti]
    split at hk
    · rename_i hu
      obtain ⟨b, hb, h0, n, rfl, hk⟩ := hk
      simp only [hu]
      exact ⟨b, hb, h0.out, hk⟩
    · exact hk.elim
  · exact hk.elim
theorem load_x {t : TypeId} {p : PV} {h : Hp} {K : PV → Hp → Prop} (hk : loadX E t p h K) : loadK E t p h K := by
  unfold loadX at hk
  split at hk
  · split at hk
    · exact hk.elim
    · rename_i i hi
      simp only [loadK, hi]
      split at hk
      · rename_i hb
        simp only [hb]
        exact ⟨hk.1.out, hk.2⟩
      · exact hk.elim
  · exact hk
theorem store_x {t : TypeId} {p v : PV} {h : Hp} {K : PV → Hp → Prop} (hk : storeX E t p v h K) : storeK E t p v h K := by
  unfold storeX at hk
  split at hk
  · split at hk
    · exact hk.elim
    · rename_i i hi
      simp only [storeK, hi]
      cases hc : (faith v && Nat.beq v.cells.length i.size && v.cells.all isCell) with
      | false => rw [hc] at hk; exact hk.elim
      | true =>
        rw [hc] at hk
        simp only [cond_true] at hk ⊢
        split at hk
        · rename_i e k pr xs fz hb
          simp only [hb]
          obtain ⟨h1, h2, x, hx, h3, hk⟩ := hk
          refine ⟨h1.out, h2.out, x, hx, h3.out, ?_⟩
          cases hp : (!pr || v.cells.all pureC) with
          | false => rw [hp] at hk; exact hk.elim
          | true => rw [hp] at hk; obtain ⟨ys, rfl, hk⟩ := hk; exact hk
        · exact hk.elim
  · exact hk
theorem nilCheck_x {x : PV} {h : Hp} {K : PV → Prop} (hk : nilCheckX x h K) : nilCheckK x h K := by
  unfold nilCheckX at hk
  split at hk
  · split at hk
    · rename_i hb; simp only [nilCheckK, hb]; exact ⟨hk.1.out, hk.2⟩
    · exact hk.elim
  · exact hk
theorem faddr_x {s : TypeId} {x : PV} {f : Nat} {h : Hp} {K : PV → Hp → Prop} (hk : faddrX E s x f h K) : faddrK E s x f h K := by
  unfold faddrX at hk
  split at hk
  · split at hk
    · rename_i o size ag hf
      cases hc : Nat.ble 1 size with
      | false => rw [hc] at hk; exact hk.elim
      | true =>
        rw [hc] at hk
        simp only [cond_true] at hk
        split at hk
        · rename_i hb; simp only [faddrK, hf, hc, cond_true, hb]; exact ⟨hk.1.out, hk.2⟩
        · exact hk.elim
    · exact hk.elim
  · exact hk
theorem iaddr_x {t : TypeId} {x i : PV} {h : Hp} {K : PV → Hp → Prop} (hk : iaddrX E t x i h K) : iaddrK E t x i h K := by
  unfold iaddrX at hk
  split at hk
  · split at hk
    · rename_i he
      obtain ⟨y, hy, h0, hl, hk⟩ := hk
      simp only [iaddrK, he]
      exact ⟨y, hy, h0.out, hl.out, hk⟩
    · exact hk.elim
  · split at hk
    · rename_i e size he
      split at hk
      · rename_i e' k pr xs fz hb
        obtain ⟨h1, h2, hk⟩ := hk
        simp only [iaddrK, he, hb]
        refine ⟨h1.out, h2.out.1, h2.out.2, ?_⟩
        cases hs : Nat.beq k size with
        | false => rw [hs] at hk; exact hk.elim
        | true => rw [hs] at hk; obtain ⟨j, rfl, hk⟩ := hk; exact hk
      · exact hk.elim
    · exact hk.elim
  · exact hk
theorem bnd_x {o : Option PV} {d : Nat} {K K' : Nat → Prop} (hk : bndX o d K) (hm : ∀ n, K n → K' n) : bndK o d K' := by
  unfold bndX at hk
  unfold bndK
  split at hk
  · exact hm _ hk
  · obtain ⟨h0, n, rfl, hk⟩ := hk; exact ⟨h0.out, hm _ hk⟩
  · exact hk.elim
theorem slice_x {t : TypeId} {x : PV} {lo hi mx : Option PV} {h : Hp} {K : PV → Hp → Prop} (hk : sliceX E t x lo hi mx h K) : sliceK E t x lo hi mx h K := by
  unfold sliceX at hk
  split at hk
  · split at hk
    · rename_i hti
      split at hk
      · rename_i hu
        obtain ⟨n, rfl, hk⟩ := hk
        simp only [sliceK, hti, hu]
        exact bnd_x hk fun b hk => bnd_x hk fun a hk => by obtain ⟨h1, s, rfl, hk⟩ := hk; exact ⟨h1.out.1, h1.out.2, hk⟩
      · exact hk.elim
    · exact hk.elim
  · split at hk
    · rename_i he
      obtain ⟨h0, n, rfl, hk⟩ := hk
      simp only [sliceK, he]
      exact ⟨h0.out, bnd_x hk fun b hk => bnd_x hk fun a hk => by obtain ⟨h1, s, rfl, hk⟩ := hk; exact ⟨h1.out.1, h1.out.2, hk⟩⟩
    · exact hk.elim
  · split at hk
    · rename_i he
      split at hk
      · rename_i e k xs fz hb
        obtain ⟨h0, hk⟩ := hk
        have hn := h0.out
        subst hn
        simp only [sliceK, he, hb]
        refine ⟨trivial, ?_⟩
        cases hs : Nat.beq k _ with
        | false => rw [hs] at hk; exact hk.elim
        | true => rw [hs] at hk; simp only [cond_true] at hk ⊢; exact bnd_x hk fun b hk => bnd_x hk fun a hk => by obtain ⟨h1, s, rfl, hk⟩ := hk; exact ⟨h1.out.1, h1.out.2, hk⟩
      · exact hk.elim
    · exact hk.elim
  · exact hk
theorem makeSlice_x {t : TypeId} {l c : PV} {h : Hp} {nid : Nat} {K : PV → Hp → Prop} (hk : makeSliceX E t l c h nid K) : makeSliceK E t l c h nid K := by
  unfold makeSliceX at hk
  split at hk
  · split at hk
    · rename_i e size he
      split at hk
      · rename_i ie hie
        cases hc : (Nat.ble 1 size && okE size (zeroE ie)) with
        | false => rw [hc] at hk; exact hk.elim
        | true =>
          rw [hc] at hk
          obtain ⟨h0, m, zs, rfl, rfl, hk⟩ := hk
          have h0 := h0.out
          simp only [makeSliceK, he, hie, hc, cond_true]
          exact ⟨h0.1, h0.2.1, h0.2.2.1, h0.2.2.2, by rw [List.length_replicate]; exact hk⟩
      · exact hk.elim
    · exact hk.elim
  · exact hk.elim
theorem src_x {size : Nat} {x : PV} {h : Hp} {K K' : List PV → Prop} (hk : srcX size x h K) (hm : ∀ ys, K ys → K' ys) : srcK size x h K' := by
  unfold srcX at hk
  unfold srcK
  split at hk
  · split at hk
    · rename_i hb
      simp only [hb]
      refine ⟨hk.1.out, ?_⟩
      have hk := hk.2
      cases hs : Nat.beq _ size with
      | false => rw [hs] at hk; exact hk.elim
      | true => rw [hs] at hk; exact hm _ hk
    · exact hk.elim
  · exact ⟨hk.1.out, hm _ hk.2⟩
  · exact hm _ hk
  · exact hk.elim
theorem append_x {t : TypeId} {s x : PV} {h : Hp} {nid : Nat} {K : PV → Hp → Prop} (hk : appendX E t s x h nid K) : appendK E t s x h nid K := by
  unfold appendX at hk
  split at hk
  · rename_i e size he
    split at hk
    · rename_i ie hie
      simp only [appendK, he, hie]
      cases hc : (Nat.ble 1 size && Nat.ble 1 ie.bytes) with
      | false => rw [hc] at hk; exact hk.elim
      | true =>
        rw [hc] at hk
        simp only [cond_true] at hk ⊢
        refine src_x hk fun ys hk => ?_
        split at hk
        · rcases hk with ⟨h1, hk⟩ | ⟨h1, m, rfl, h2, hk⟩
          · have := h1.out; subst this; exact hk
          · cases ys with
            | nil => exact absurd rfl h1.out
            | cons y ys => exact ⟨h2.out, hk⟩
        · split at hk
          · rename_i hb
            simp only [hb]
            obtain ⟨h1, hk⟩ := hk
            refine ⟨h1.out, ?_⟩
            cases hq : (Nat.beq _ e && Nat.beq _ size) with
            | false => rw [hq] at hk; exact hk.elim
            | true => rw [hq] at hk; obtain ⟨zs, m, rfl, rfl, h2, hk⟩ := hk; exact ⟨by rw [← List.length_append]; exact h2.out, hk⟩
          · exact hk.elim
        · exact hk.elim
    · exact hk.elim
  · exact hk.elim
theorem fzL_x {f g : Hp → PV → (PV → Hp → Prop) → Prop} (hf : ∀ h v (K K' : PV → Hp → Prop), f h v K → (∀ v h, K v h → K' v h) → g h v K') : ∀ (xs : List PV) (h : Hp) (K K' : List PV → Hp → Prop), fzLX f h xs K → (∀ v h, K v h → K' v h) → fzLK g h xs K'
  | [], h, K, K', hk, hm => hm _ _ hk
  | x :: xs, h, K, K', hk, hm => hf h x _ _ hk fun x' h' hk => fzL_x hf xs h' _ _ hk fun xs' h'' hk => hm _ _ hk
theorem fz_x : ∀ (d : Nat) (h : Hp) (v : PV) (K K' : PV → Hp → Prop), fzX d h v K → (∀ v h, K v h → K' v h) → fzK d h v K'
  | 0, h, v, K, K', hk, hm => hk.elim
  | d + 1, h, v, K, K', hk, hm => by
    have ih := fz_x d
    cases v with
    | own id n =>
      simp only [fzX] at hk
      simp only [fzK]
      split at hk
      · rename_i hb
        obtain ⟨h1, hk⟩ := hk
        have hn := h1.out
        simp only [hb]
        exact ⟨hn, by rw [← hn]; exact hm _ _ hk⟩
      · exact hk.elim
    | ptr id off =>
      simp only [fzX] at hk
      simp only [fzK]
      split at hk
      · rename_i hb
        simp only [hb]
        exact fzL_x ih _ _ _ _ hk fun cs h' hk => hm _ _ hk
      · exact hk.elim
    | agg cs => exact fzL_x ih _ _ _ _ hk fun cs h' hk => hm _ _ hk
    | tup cs => exact fzL_x ih _ _ _ _ hk fun cs h' hk => hm _ _ hk
    | fn f fi ca => exact fzL_x ih _ _ _ _ hk fun fi' h' hk => fzL_x ih _ _ _ _ hk fun ca' h'' hk => hm _ _ hk
    | rp _ _ _ _ => exact hk.elim
    | fresh _ _ => exact hk.elim
    | mapo _ => exact hk.elim
    | mapp _ _ => exact hk.elim
    | yl _ => exact hk.elim
    | itp _ _ => exact hk.elim
    | loopp _ _ _ _ _ => exact hk.elim
    | _ => exact hm _ _ hk
theorem buildSlice_x {t : TypeId} {len : Nat} {ps : List (Nat × PV)} {h : Hp} {nid : Nat} {K : PV → Hp → Prop} (hk : buildSliceX E t len ps h nid K) : buildSliceK E t len ps h nid K := by
  unfold buildSliceX at hk
  unfold buildSliceK
  split at hk
  · rename_i he
    simp only [he]
    cases hc : (inOrder 0 ps && Nat.beq ps.length len && Nat.ble 1 _ && Nat.ble (len * _) 16777216) with
    | false => rw [hc] at hk; exact hk.elim
    | true =>
      rw [hc] at hk
      simp only [cond_true] at hk ⊢
      cases ha : (ps.map (·.2)).any hasPtr with
      | true => rw [ha] at hk; exact hk
      | false => rw [ha] at hk; exact fzL_x (fz_x 6) _ _ _ _ hk fun xs h' hk => hk
  · exact hk.elim
theorem call_x {f : FuncId} {args : List PV} {h : Hp} {nid : Nat} {K : PV → Hp → Prop} (hk : callX E f args h nid K) : callK E f args h nid K := by
  unfold callX at hk
  unfold callK
  cases hf : E.fok f with
  | false =>
    rw [hf] at hk
    simp only [cond_false] at hk ⊢
    exact fzL_x (fz_x 6) _ _ _ _ hk fun _ _ hk => hk
  | true =>
    rw [hf] at hk
    simp only [cond_true] at hk ⊢
    rcases hk with hk | hk | hk
    · exact .inl (fzL_x (fz_x 6) _ _ _ _ hk fun _ _ hk => hk)
    · exact .inr (.inl (fzL_x (fz_x 6) _ _ _ _ hk fun _ _ ⟨e, k, xs, m, h1, h2, hk⟩ => ⟨e, k, xs, h1, by subst h2; exact hk⟩))
    · exact .inr (.inr hk)

theorem val_x {o : Op} {arg : Operand → PV} {h : Hp} {nid : Nat} {K : PV → Hp → Prop} (hk : vcValX E o arg h nid K) : vcVal E o arg h nid K := by
  cases o <;> simp only [vcValX, vcVal] at hk ⊢ <;> (try exact hk)
  case pick => exact pick_x hk
  case buildSlice => exact buildSlice_x hk
  case load => exact load_x hk
  case store => exact store_x hk
  case nilCheck => exact nilCheck_x hk
  case binOp => exact bin_x hk
  case unOp => exact un_x hk
  case makeSlice => exact makeSlice_x hk
  case slice => exact slice_x hk
  case fieldAddr => exact faddr_x hk
  case indexAddr => exact iaddr_x hk
  case index => exact index_x hk
  case call c =>
    cases hc : c.callee with
    | value fo =>
      rw [hc] at hk
      simp only [callOpK, hc]
      simp only at hk
      split at hk
      · rename_i hf; simp only [hf]; exact call_x hk
      · rename_i hf; simp only [hf]; exact hk
      · exact hk.elim
    | invoke r m => rw [hc] at hk; exact hk
    | builtin b =>
      rw [hc] at hk
      cases b <;> simp only at hk <;> (try exact hk)
      case len =>
        simp only [callOpK, hc]
        split at hk
        · rename_i h1 h2; simp only [h1, h2]; exact len_x hk
        · exact hk.elim
      case append =>
        simp only [callOpK, hc]
        split at hk
        · rename_i s x t t' h1 h2
          simp only [h1, h2]
          cases hb : Nat.beq t t' with
          | false => rw [hb] at hk; exact hk.elim
          | true => rw [hb] at hk; exact append_x hk
        · exact hk.elim
theorem valD_x {o : Op} {arg : Operand → PV} {h : Hp} {nid : Nat} {K : PV → Hp → Prop} (hk : vcValDX E o arg h nid K) : vcValD E o arg h nid K := by
  cases o <;> simp only [vcValDX, vcValD] at hk ⊢ <;> (try exact val_x hk)
  case binOp op t x y z =>
    cases hp : isConstNilS y with
    | true => rw [hp] at hk; exact hk.elim
    | false => rw [hp] at hk; simp only [cond_false] at hk ⊢; exact val_x hk
  case buildSlice t len parts =>
    cases hp : ((parts.toList.map fun p => unkb (arg p.2)).all (pureN 6) || (parts.toList.map fun p => unkb (arg p.2)).any hasPtr) with
    | false => rw [hp] at hk; exact hk.elim
    | true => rw [hp] at hk; simp only [cond_true] at hk ⊢; exact val_x hk
  case call c =>
    cases hc : c.callee with
    | value fo => rw [hc] at hk; exact hk
    | invoke r m => rw [hc] at hk; exact hk
    | builtin b => rw [hc] at hk; exact val_x hk
end
end Go.Px

set_option linter.unusedVariables false
set_option linter.unusedSimpArgs false
set_option linter.unnecessarySimpa false
namespace Go.Px
open Go

theorem intOp_c {op : BinOp} {k : IntKind} {a b : Int} {K : PV → Prop} (hk : intOpK op k a b K) : intOpX op k a b K := by
  cases op <;> simp only [intOpX, intOpK] at hk ⊢ <;> first
    | exact hk
    | exact ⟨⟨hk.1⟩, hk.2⟩
    | exact ⟨_, by simp, hk⟩
theorem strOp_c {op : BinOp} {a b : List UInt8} {K : PV → Prop} (hk : strOpK op a b K) : strOpX op a b K := by
  cases op <;> simp only [strOpX, strOpK] at hk ⊢ <;> first
    | exact hk
    | exact ⟨⟨hk.1⟩, _, rfl, hk.2⟩
    | exact ⟨_, rfl, hk⟩
    | exact ⟨_, by simp, hk⟩
section
variable {Tb : Tab} {E : Env Tb}
theorem bin_c {op : BinOp} {t : TypeId} {xo yo : Operand} {x y : PV} {K : PV → Prop} (hk : binK E op t xo yo x y K) : binX E op t xo yo x y K := by
  unfold binX
  split
  · rename_i k a k' b hx hy
    unfold binK at hk
    simp only [hx, hy] at hk
    cases op <;> first
      | exact hk
      | (cases hb : decide (k = k') with
        | false => simp only [hb] at hk; exact hk.elim
        | true => simp only [hb, cond_true] at hk ⊢; exact intOp_c hk)
  · rename_i a b hx hy
    unfold binK at hk
    simp only [hx, hy] at hk
    cases op <;> exact strOp_c hk
  · rename_i a b hx hy
    unfold binK at hk
    simp only [hx, hy] at hk
    cases op <;> simp only at hk <;> (try exact hk.elim)
    · split at hk
      · rename_i i hi
        simp only [hi]
        split at hk
        · rename_i hu; simp only [hu]; exact ⟨_, by simp, hk⟩
        · exact hk.elim
      · exact hk.elim
    · split at hk
      · rename_i i hi
        simp only [hi]
        split at hk
        · rename_i hu; simp only [hu]; exact ⟨_, by simp, hk⟩
        · exact hk.elim
      · exact hk.elim
  · rename_i a b hx hy
    unfold binK at hk
    simp only [hx, hy] at hk
    cases op <;> simp only at hk <;> (try exact hk.elim)
    · split at hk
      · rename_i i hi
        simp only [hi]
        cases hb : (E.eqt t (a.map kOf) && Nat.beq a.length i.size) with
        | false => simp only [hb] at hk; exact hk.elim
        | true =>
          simp only [hb, cond_true] at hk ⊢
          split at hk
          · rename_i r hr; exact ⟨r, hr, hk⟩
          · exact hk.elim
      · exact hk.elim
    · split at hk
      · rename_i i hi
        simp only [hi]
        cases hb : (E.eqt t (a.map kOf) && Nat.beq a.length i.size) with
        | false => simp only [hb] at hk; exact hk.elim
        | true =>
          simp only [hb, cond_true] at hk ⊢
          split at hk
          · rename_i r hr; exact ⟨r, _, hr, rfl, hk⟩
          · exact hk.elim
      · exact hk.elim
  · unfold binK at hk ⊢
    have hu : ∀ v : PV, unkb (unkb v) = unkb v := fun v => by cases v <;> rfl
    rw [hu, hu]
    exact hk
theorem pick_c {c a b : PV} {K : PV → Prop} (hk : pickK c a b K) : pickX c a b K := by
  unfold pickK at hk
  unfold pickX
  split at hk
  · exact hk
  · exact hk
  · simp only
    split at hk
    · rename_i h1 h2; simp only [h1, h2]; exact ⟨_, rfl, hk⟩
    · exact hk.elim
  · exact hk.elim
theorem un_c {op : UnOp} {x : PV} {K : PV → Prop} (hk : unK op x K) : unX op x K := by
  unfold unX
  split
  · exact hk
  · cases op <;> simp only [unK, unkb] at hk ⊢ <;> first
      | exact ⟨_, rfl, hk⟩
      | exact hk
  · exact hk
theorem len_c {t : TypeId} {x : PV} {K : PV → Prop} (hk : lenK E t x K) : lenX E t x K := by
  unfold lenK at hk
  unfold lenX
  split at hk
  · rename_i ti hti
    simp only [hti]
    split at hk <;> first
      | exact hk.elim
      | (rename_i hu; simp only [hu]; first | exact ⟨_, rfl, hk⟩ | exact hk)
  · exact hk.elim
theorem index_c {t : TypeId} {x i : PV} {K : PV → Prop} (hk : indexK E t x i K) : indexX E t x i K := by
  unfold indexK at hk
  unfold indexX
  split at hk
  · rename_i ti hti
    simp only [hti]
    split at hk
    · rename_i hu
      obtain ⟨b, hb, h0, hk⟩ := hk
      simp only [hu]
      exact ⟨b, hb, ⟨h0⟩, _, rfl, hk⟩
    · exact hk.elim
  · exact hk.elim
theorem load_c {t : TypeId} {p : PV} {h : Hp} {K : PV → Hp → Prop} (hk : loadK E t p h K) : loadX E t p h K := by
  unfold loadX
  split
  · simp only [loadK] at hk
    split at hk
    · exact hk.elim
    · rename_i i hi
      simp only [hi]
      split at hk
      · rename_i hb; simp only [hb]; exact ⟨⟨hk.1⟩, hk.2⟩
      · exact hk.elim
  · exact hk
theorem store_c {t : TypeId} {p v : PV} {h : Hp} {K : PV → Hp → Prop} (hk : storeK E t p v h K) : storeX E t p v h K := by
  unfold storeX
  split
  · simp only [storeK] at hk
    split at hk
    · exact hk.elim
    · rename_i i hi
      simp only [hi]
      cases hc : (faith v && Nat.beq v.cells.length i.size && v.cells.all isCell) with
      | false => simp only [hc] at hk; exact hk.elim
      | true =>
        simp only [hc, cond_true] at hk ⊢
        split at hk
        · rename_i hb
          simp only [hb]
          obtain ⟨h1, h2, x, hx, h3, hk⟩ := hk
          refine ⟨⟨h1⟩, ⟨h2⟩, x, hx, ⟨h3⟩, ?_⟩
          rename_i e k pr xs fz
          cases hp : (!pr || v.cells.all pureC) with
          | false => rw [hp] at hk; exact hk.elim
          | true => rw [hp] at hk; exact ⟨_, rfl, hk⟩
        · exact hk.elim
  · exact hk

theorem nilCheck_c {x : PV} {h : Hp} {K : PV → Prop} (hk : nilCheckK x h K) : nilCheckX x h K := by
  unfold nilCheckX
  split
  · simp only [nilCheckK] at hk
    split at hk
    · rename_i hb; simp only [hb]; exact ⟨⟨hk.1⟩, hk.2⟩
    · exact hk.elim
  · exact hk
theorem faddr_c {s : TypeId} {x : PV} {f : Nat} {h : Hp} {K : PV → Hp → Prop} (hk : faddrK E s x f h K) : faddrX E s x f h K := by
  unfold faddrX
  split
  · simp only [faddrK] at hk
    split at hk
    · rename_i o size ag hf
      simp only [hf]
      cases hc : Nat.ble 1 size with
      | false => simp only [hc] at hk; exact hk.elim
      | true =>
        simp only [hc, cond_true] at hk ⊢
        split at hk
        · rename_i hb; simp only [hb]; exact ⟨⟨hk.1⟩, hk.2⟩
        · exact hk.elim
    · exact hk.elim
  · exact hk
theorem iaddr_c {t : TypeId} {x i : PV} {h : Hp} {K : PV → Hp → Prop} (hk : iaddrK E t x i h K) : iaddrX E t x i h K := by
  unfold iaddrX
  split
  · simp only [iaddrK] at hk
    split at hk
    · rename_i he
      obtain ⟨y, hy, h0, hl, hk⟩ := hk
      simp only [he]
      exact ⟨y, hy, ⟨h0⟩, ⟨hl⟩, hk⟩
    · exact hk.elim
  · simp only [iaddrK] at hk
    split at hk
    · rename_i e size he
      split at hk
      · rename_i e' k pr xs fz hb
        obtain ⟨h1, h2, h3, hk⟩ := hk
        simp only [he, hb]
        refine ⟨⟨h1⟩, ⟨h2, h3⟩, ?_⟩
        cases hs : Nat.beq k size with
        | false => simp only [hs] at hk; exact hk.elim
        | true => simp only [hs, cond_true] at hk ⊢; exact ⟨_, rfl, hk⟩
      · exact hk.elim
    · exact hk.elim
  · exact hk
theorem bnd_c {o : Option PV} {d : Nat} {K K' : Nat → Prop} (hk : bndK o d K) (hm : ∀ n, K n → K' n) : bndX o d K' := by
  unfold bndK at hk
  unfold bndX
  split at hk
  · exact hm _ hk
  · exact ⟨⟨hk.1⟩, _, rfl, hm _ hk.2⟩
  · exact hk.elim
theorem slice_c {t : TypeId} {x : PV} {lo hi mx : Option PV} {h : Hp} {K : PV → Hp → Prop} (hk : sliceK E t x lo hi mx h K) : sliceX E t x lo hi mx h K := by
  unfold sliceX
  split
  · simp only [sliceK] at hk
    split at hk
    · rename_i hti
      simp only [hti]
      split at hk
      · rename_i hu
        simp only [hu]
        exact ⟨_, rfl, bnd_c hk fun b hk => bnd_c hk fun a hk => ⟨⟨hk.1, hk.2.1⟩, _, rfl, hk.2.2⟩⟩
      · exact hk.elim
    · exact hk.elim
  · simp only [sliceK] at hk
    split at hk
    · rename_i he
      simp only [he]
      exact ⟨⟨hk.1⟩, _, rfl, bnd_c hk.2 fun b hk => bnd_c hk fun a hk => ⟨⟨hk.1, hk.2.1⟩, _, rfl, hk.2.2⟩⟩
    · exact hk.elim
  · simp only [sliceK] at hk
    split at hk
    · rename_i e size he
      split at hk
      · rename_i e' k xs fz hb
        obtain ⟨h0, hk⟩ := hk
        subst h0
        simp only [he, hb]
        refine ⟨⟨trivial⟩, ?_⟩
        cases hs : Nat.beq k size with
        | false => simp only [hs] at hk; exact hk.elim
        | true => simp only [hs, cond_true] at hk ⊢; exact bnd_c hk fun b hk => bnd_c hk fun a hk => ⟨⟨hk.1, hk.2.1⟩, _, rfl, hk.2.2⟩
      · exact hk.elim
    · exact hk.elim
  · exact hk
theorem makeSlice_c {t : TypeId} {l c : PV} {h : Hp} {nid : Nat} {K : PV → Hp → Prop} (hk : makeSliceK E t l c h nid K) : makeSliceX E t l c h nid K := by
  unfold makeSliceK at hk
  unfold makeSliceX
  split at hk
  · split at hk
    · rename_i e size he
      split at hk
      · rename_i ie hie
        simp only [he, hie]
        cases hc : (Nat.ble 1 size && okE size (zeroE ie)) with
        | false => simp only [hc] at hk; exact hk.elim
        | true =>
          simp only [hc, cond_true] at hk ⊢
          obtain ⟨h0, h1, h2, h3, hk⟩ := hk
          rw [List.length_replicate] at hk
          exact ⟨⟨h0, h1, h2, h3⟩, _, _, rfl, rfl, hk⟩
      · exact hk.elim
    · exact hk.elim
  · exact hk.elim
theorem src_c {size : Nat} {x : PV} {h : Hp} {K K' : List PV → Prop} (hk : srcK size x h K) (hm : ∀ ys, K ys → K' ys) : srcX size x h K' := by
  unfold srcK at hk
  unfold srcX
  split at hk
  · split at hk
    · rename_i hb
      simp only [hb]
      refine ⟨⟨hk.1⟩, ?_⟩
      have hk := hk.2
      cases hs : Nat.beq _ size with
      | false => rw [hs] at hk; exact hk.elim
      | true => rw [hs] at hk; exact hm _ hk
    · exact hk.elim
  · exact ⟨⟨hk.1⟩, hm _ hk.2⟩
  · exact hm _ hk
  · exact hk.elim
theorem append_c {t : TypeId} {s x : PV} {h : Hp} {nid : Nat} {K : PV → Hp → Prop} (hk : appendK E t s x h nid K) : appendX E t s x h nid K := by
  unfold appendK at hk
  unfold appendX
  split at hk
  · rename_i e size he
    split at hk
    · rename_i ie hie
      simp only [he, hie]
      cases hc : (Nat.ble 1 size && Nat.ble 1 ie.bytes) with
      | false => simp only [hc] at hk; exact hk.elim
      | true =>
        simp only [hc, cond_true] at hk ⊢
        refine src_c hk fun ys hk => ?_
        split at hk
        · split at hk
          · exact .inl ⟨⟨rfl⟩, hk⟩
          · exact .inr ⟨⟨by simp⟩, _, rfl, ⟨hk.1⟩, hk.2⟩
        · split at hk
          · rename_i hb
            simp only [hb]
            obtain ⟨h1, hk⟩ := hk
            refine ⟨⟨h1⟩, ?_⟩
            cases hq : (Nat.beq _ e && Nat.beq _ size) with
            | false => rw [hq] at hk; exact hk.elim
            | true => rw [hq] at hk; exact ⟨_, _, rfl, rfl, ⟨by rw [List.length_append]; exact hk.1⟩, hk.2⟩
          · exact hk.elim
        · exact hk.elim
    · exact hk.elim
  · exact hk.elim
theorem fzL_c {f g : Hp → PV → (PV → Hp → Prop) → Prop} (hf : ∀ h v (K K' : PV → Hp → Prop), f h v K → (∀ v h, K v h → K' v h) → g h v K') : ∀ (xs : List PV) (h : Hp) (K K' : List PV → Hp → Prop), fzLK f h xs K → (∀ v h, K v h → K' v h) → fzLX g h xs K'
  | [], h, K, K', hk, hm => hm _ _ hk
  | x :: xs, h, K, K', hk, hm => hf h x _ _ hk fun x' h' hk => fzL_c hf xs h' _ _ hk fun xs' h'' hk => hm _ _ hk
theorem fz_c : ∀ (d : Nat) (h : Hp) (v : PV) (K K' : PV → Hp → Prop), fzK d h v K → (∀ v h, K v h → K' v h) → fzX d h v K'
  | 0, h, v, K, K', hk, hm => hk.elim
  | d + 1, h, v, K, K', hk, hm => by
    have ih := fz_c d
    cases v with
    | own id n =>
      simp only [fzK] at hk
      simp only [fzX]
      split at hk
      · rename_i hb
        obtain ⟨h1, hk⟩ := hk
        simp only [hb]
        exact ⟨⟨h1⟩, by rw [h1]; exact hm _ _ hk⟩
      · exact hk.elim
    | ptr id off =>
      simp only [fzK] at hk
      simp only [fzX]
      split at hk
      · rename_i hb
        simp only [hb]
        exact fzL_c ih _ _ _ _ hk fun cs h' hk => hm _ _ hk
      · exact hk.elim
    | agg cs => exact fzL_c ih _ _ _ _ hk fun cs h' hk => hm _ _ hk
    | tup cs => exact fzL_c ih _ _ _ _ hk fun cs h' hk => hm _ _ hk
    | fn f fi ca => exact fzL_c ih _ _ _ _ hk fun fi' h' hk => fzL_c ih _ _ _ _ hk fun ca' h'' hk => hm _ _ hk
    | rp _ _ _ _ => exact hk.elim
    | fresh _ _ => exact hk.elim
    | mapo _ => exact hk.elim
    | mapp _ _ => exact hk.elim
    | yl _ => exact hk.elim
    | itp _ _ => exact hk.elim
    | loopp _ _ _ _ _ => exact hk.elim
    | _ => exact hm _ _ hk
theorem buildSlice_c {t : TypeId} {len : Nat} {ps : List (Nat × PV)} {h : Hp} {nid : Nat} {K : PV → Hp → Prop} (hk : buildSliceK E t len ps h nid K) : buildSliceX E t len ps h nid K := by
  unfold buildSliceK at hk
  unfold buildSliceX
  split at hk
  · rename_i e size he
    simp only [he]
    cases hc : (inOrder 0 ps && Nat.beq ps.length len && Nat.ble 1 size && Nat.ble (len * size) 16777216) with
    | false => simp only [hc] at hk; exact hk.elim
    | true =>
      simp only [hc, cond_true] at hk ⊢
      cases ha : (ps.map (·.2)).any hasPtr with
      | true => simp only [ha] at hk ⊢; exact hk
      | false => simp only [ha] at hk ⊢; exact fzL_c (fz_c 6) _ _ _ _ hk fun xs h' hk => hk
  · exact hk.elim
theorem call_c {f : FuncId} {args : List PV} {h : Hp} {nid : Nat} {K : PV → Hp → Prop} (hk : callK E f args h nid K) : callX E f args h nid K := by
  unfold callK at hk
  unfold callX
  cases hf : E.fok f with
  | false =>
    simp only [hf, cond_false] at hk ⊢
    exact fzL_c (fz_c 6) _ _ _ _ hk fun _ _ hk => hk
  | true =>
    simp only [hf, cond_true] at hk ⊢
    rcases hk with hk | hk | hk
    · exact .inl (fzL_c (fz_c 6) _ _ _ _ hk fun _ _ hk => hk)
    · exact .inr (.inl (fzL_c (fz_c 6) _ _ _ _ hk fun _ _ ⟨e, k, xs, h1, hk⟩ => ⟨e, k, xs, _, h1, rfl, hk⟩))
    · exact .inr (.inr hk)
theorem val_c {o : Op} {arg : Operand → PV} {h : Hp} {nid : Nat} {K : PV → Hp → Prop} (hk : vcVal E o arg h nid K) : vcValX E o arg h nid K := by
  cases o <;> simp only [vcValX, vcVal] at hk ⊢ <;> (try exact hk)
  case pick => exact pick_c hk
  case buildSlice => exact buildSlice_c hk
  case load => exact load_c hk
  case store => exact store_c hk
  case nilCheck => exact nilCheck_c hk
  case binOp => exact bin_c hk
  case unOp => exact un_c hk
  case makeSlice => exact makeSlice_c hk
  case slice => exact slice_c hk
  case fieldAddr => exact faddr_c hk
  case indexAddr => exact iaddr_c hk
  case index => exact index_c hk
  case call c =>
    cases hc : c.callee with
    | value fo =>
      simp only [callOpK, hc] at hk
      simp only
      split at hk
      · rename_i hf; simp only [hf]; exact call_c hk
      · rename_i hf; simp only [hf]; exact hk
      · exact hk.elim
    | invoke r m => simp only [callOpK, hc] at hk
    | builtin b =>
      cases b <;> (try exact hk)
      case len =>
        simp only [callOpK, hc] at hk
        simp only
        split at hk
        · rename_i h1 h2; simp only [h1, h2]; exact len_c hk
        · exact hk.elim
      case append =>
        simp only [callOpK, hc] at hk
        simp only
        split at hk
        · rename_i s x t t' h1 h2
          simp only [h1, h2]
          cases hb : Nat.beq t t' with
          | false => simp only [hb] at hk; exact hk.elim
          | true => simp only [hb, cond_true] at hk ⊢; exact append_c hk
        · exact hk.elim
end
end Go.Px

set_option linter.unusedVariables false
set_option linter.unusedSimpArgs false
set_option linter.unnecessarySimpa false
namespace Go.Px
open Go

def trim : Hp → Hp
  | [] => []
  | x :: h =>
    match trim h, x with
    | [], none => []
    | t, x => x :: t
theorem getB_trim : ∀ (h : Hp) (n : Nat), getB (trim h) n = getB h n
  | [], _ => rfl
  | x :: h, n => by
    have ih := getB_trim h
    simp only [trim]
    split
    · rename_i h1
      rw [h1] at ih
      cases n with
      | zero => rfl
      | succ n => simp only [getB]; rw [← ih n]; rfl
    · cases n with
      | zero => rfl
      | succ n => simp only [getB]; exact ih n

def vcOp {Tb : Tab} (E : Env Tb) (o : AOp) (st : AS) (K : AS → Prop) : Prop :=
  bif allocs o.op then vcValX E o.op (opd st.tm) (st.h ++ [none]) st.h.length fun v h' => K ⟨setD o.dst v st.tm, trim h'⟩
  else vcValX E o.op (opd st.tm) st.h 0 fun v h' => K ⟨setD o.dst v st.tm, h'⟩

/-- A guard: yes or no; an open Bool splits. -/
def guardK (st : AS) (g : Option (Nat × Bool)) (yes no : AS → Prop) : Prop :=
  match g with
  | none => yes st
  | some (g, want) =>
    match get st.tm g with
    | .kb b => bif (cond want b (not b)) then yes st else no st
    | .tup [] => no st
    | .bool b => (b = want → yes ⟨setD (some g) (.kb want) st.tm, st.h⟩) ∧ (b = (not want) → no ⟨setD (some g) (.kb (not want)) st.tm, st.h⟩)
    | _ => False

def vcOps {Tb : Tab} (E : Env Tb) : List AOp → AS → (AS → Prop) → Prop
  | [], st, K => K st
  | o :: r, st, K => guardK st o.guard (fun st => vcOp E o st fun st' => vcOps E r st' K) (fun st => vcOps E r ⟨setD o.dst (.tup []) st.tm, st.h⟩ K)

/-! A region whose order is open -/
def looksOf (o : AOp) : List Nat := (match o.guard with
  | some (g, _) => [g]
  | none => []) ++ opTmps o.op
def guardD (st : AS) (g : Option (Nat × Bool)) (yes no : Prop) : Prop :=
  match g with
  | none => yes
  | some (g, want) =>
    match get st.tm g with
    | .kb b => bif (cond want b (not b)) then yes else no
    | .tup [] => no
    | _ => False
def splitB (g : Bool) (v : PV) (K : PV → Prop) : Prop :=
  match g, v with
  | true, .bool b => (b = true → K (.kb true)) ∧ (b = false → K (.kb false))
  | _, v => K v
def isG (ops : List AOp) (d : Option Nat) : Bool :=
  match d with
  | some t => ops.any fun o => match o.guard with
    | some (g, _) => Nat.beq g t
    | none => false
  | none => false
def freeK (al : Bool) (h : Hp) (id : Nat) (P : Prop) : Prop :=
  bif al then (match getB h id with
    | none => P
    | some _ => False) else P
def vcLine {Tb : Tab} (E : Env Tb) (gs : Option Nat → Bool) (n0 : Nat) : List AOp → Nat → AS → List DInfo → (AS → List DInfo → Prop) → Prop
  | [], _, st, acc, K => K st acc
  | o :: r, i, st, acc, K => guardD st o.guard
      (match insOf o.op (opd st.tm) with
      | some (id, key, val) => bif insTy E o.op key && absent key (getB st.h id) then
          vcLine E gs n0 r (i + 1) ⟨setD o.dst .undef st.tm, insH (some (id, key, val)) st.h⟩ (acc ++ [⟨o.dst, looksOf o, [n0 + i], [], some (id, key, val)⟩]) K else False
      | none => freeK (allocs o.op) st.h (n0 + i) (vcValDX E o.op (opd st.tm) st.h (n0 + i) fun v h' => splitB (gs o.dst) v fun v =>
        vcLine E gs n0 r (i + 1) ⟨setD o.dst v st.tm, h'⟩ (acc ++ [⟨o.dst, looksOf o, touch o.op (opd st.tm) (n0 + i), wids o.op (opd st.tm) (n0 + i), none⟩]) K))
      (vcLine E gs n0 r (i + 1) ⟨setD o.dst (.tup []) st.tm, st.h⟩ (acc ++ [⟨o.dst, looksOf o, [], [], none⟩]) K)
def nones : Nat → Hp
  | 0 => []
  | n + 1 => none :: nones n
def vcDraw {Tb : Tab} (E : Env Tb) (ops : List AOp) (ancs : List Nat) (st : AS) (K : AS → Prop) : Prop :=
  Ob (fun _ => vcLine E (isG ops) st.h.length ops 0 ⟨st.tm, st.h ++ nones ops.length⟩ [] fun st' acc => Ob (fun _ => okPairs ancs [] acc = true) ∧ K ⟨st'.tm, trim st'.h⟩)

def LoopAt (r : Option Nat) (P : Program) (c : Code) (Q : Exit → Act → World → Prop) (a : Act) (w : World) : Prop :=
  ∀ (b : Frame) (k : List Item) (cs : List Frame), b.roundOf = r → ∃ e a' w', Q e a' w' ∧ ArrivesIn (Machine.fenced P (fw r)) P (lone (b.atR a (.code c :: .inLoop c :: k)) cs w) b k cs e a' w'

theorem LoopAt.wp {r : Option Nat} {P : Program} {c : Code} {Q : Exit → Act → World → Prop} {a : Act} {w : World} (h : LoopAt r P c Q a w) : (Code.loop c).wpIn (fw r) 0 P Q a w := fun b k cs hro hb hr => by
  obtain ⟨e, a', w', hq, harr⟩ := h b k cs (by rw [hro, fw_round])
  exact ⟨e, a', w', hq, .of_steps (.one (fenced_calm hb hr rfl) stepR_loop) harr⟩

theorem LoopAt.unroll {r : Option Nat} {P : Program} {c : Code} {Q : Exit → Act → World → Prop} {a : Act} {w : World} (h : c.wpIn (fw r) 0 P (Exit.then (LoopAt r P c Q) Q) a w) : LoopAt r P c Q a w := by
  intro b k cs hro
  have hb := fw_fn r b.fn
  have hr := fw_room r (cs.length + 1 + 0)
  obtain ⟨e, a₁, w₁, hq, harr⟩ := h b (.inLoop c :: k) cs (by rw [hro, fw_round]) hb hr
  cases e with
  | normal =>
    obtain ⟨e₂, a₂, w₂, hq₂, harr₂⟩ := hq b k cs hro
    exact ⟨e₂, a₂, w₂, hq₂, .of_steps (StepsIn.trans harr (.one (fenced_calm hb hr rfl) stepR_inLoop)) harr₂⟩
  | exit id => exact ⟨_, a₁, w₁, hq, .pass (x := .inLoop c) rfl (fun _ _ => .inl (by simp)) harr⟩
  | goto l => exact ⟨_, a₁, w₁, hq, .pass (x := .inLoop c) rfl (fun _ _ => .inl (by simp)) harr⟩
  | ret => exact ⟨_, a₁, w₁, hq, .pass (x := .inLoop c) rfl (fun _ _ => .inl (by simp)) harr⟩
  | panic ch => exact ⟨_, a₁, w₁, hq, .pass (x := .inLoop c) rfl (fun _ _ => .inl (by simp)) harr⟩
  | outgrown => exact ⟨_, a₁, w₁, hq, .pass (x := .inLoop c) rfl (fun _ _ => .inl (by simp)) harr⟩

/-- What stands when a piece of code that began at st, w is left. -/
def Post {Tb : Tab} (E : Env Tb) (N B n : Nat) (Q : Exit → AS → Prop) (F : Foot) (β : Nat → Nat) (h : Hp) (w : World) (e : Exit) (a' : Act) (w' : World) : Prop :=
  ∃ st' F' β', Q e st' ∧ Sim E N B F' β' st' a' w' ∧ Evo n w F β h w' F' β' st'.h

/-- A loop, from one of its rounds on. -/
structure LoopVC {Tb : Tab} (E : Env Tb) (N n : Nat) (ac : ACode) (Q : Exit → AS → Prop) (st : AS) : Prop where
  out : ∀ K c, erase K N c = ac → ∀ r, (r = none ∨ noRF ac = true) → ∀ B F β a w, Sim E N B F β st a w → LoopAt r E.P c (Post E N B n Q F β st.h w) a w

def jumpK (pend : Option Code) (Q : Exit → Prop) : Prop :=
  match pend with
  | none => Q .normal
  | some .ret => Q .ret
  | some (.exit k) => Q (.exit k)
  | _ => False
def notBusy : LoopState → Bool
  | .busy => false
  | _ => true
/-- Behind a loop over a function: on, or the jump that a round left. -/
def overK (tm : List (Nat × PV)) (id : Nat) (h : Hp) (Q : Exit → AS → Prop) : Prop :=
  match getB h id with
  | some (.box [.loopp s pend _ _ li] fz) => bif notBusy s then jumpK pend fun e => Q e ⟨tm, setB h id (some (.box [.loopp .exhausted pend [] [] li] fz))⟩ else False
  | _ => False

def keysOf : List (Nat × PV) → List Nat
  | [] => []
  | (t, _) :: r => t :: keysOf r
def valsOf : List (Nat × PV) → List PV
  | [] => []
  | (_, v) :: r => v :: valsOf r

/-- A loop over a function. -/
def rangeK {Tb : Tab} (E : Env Tb) (N : Nat) (K : Option (List (List Nat))) (f : Operand) (ps : List Nat) (assign body : ACode) (st : AS) (Q : Exit → AS → Prop) : Prop :=
  match opd st.tm f with
  | .fn (.func g) first cap =>
    bif E.fok g then
      ∃ R, AC E g (first ++ [.yl st.h.length] ++ cap) (st.h ++ [some (.box [.loopp .ready none (keysOf st.tm) (valsOf st.tm) ⟨N, K, ps, assign, body⟩] false)]) R ∧ ∀ v h', R v h' → overK st.tm st.h.length h' Q
    else False
  | _ => False

def vc {Tb : Tab} (E : Env Tb) (N n : Nat) : ACode → AS → (Exit → AS → Prop) → Prop
  | .skip, st, Q => Q .normal st
  | .reg ops, st, Q => vcOps E ops st fun st' => Q .normal st'
  | .draw ops ancs, st, Q => vcDraw E ops ancs st fun st' => Q .normal st'
  | .seq a b, st, Q => vc E N n a st fun e st' => match e with
    | .normal => vc E N n b st' Q
    | e => Q e st'
  | .cond c a b, st, Q =>
    match get st.tm c with
    | .kb true => vc E N n a st Q
    | .kb false => vc E N n b st Q
    | .bool t => (t = true → vc E N n a ⟨setD (some c) (.kb true) st.tm, st.h⟩ Q) ∧ (t = false → vc E N n b ⟨setD (some c) (.kb false) st.tm, st.h⟩ Q)
    | _ => False
  | .block id c, st, Q => vc E N n c st fun e st' => match e with
    | .exit id' => bif Nat.beq id' id then Q .normal st' else Q (.exit id') st'
    | e => Q e st'
  | .loop c, st, Q => LoopVC E N n c Q st
  | .exit id, st, Q => Q (.exit id) st
  | .ret, st, Q => Q .ret st
  | .scope c, st, Q => vc E N n c st fun e st' => match e with
    | .goto _ => False
    | e => Q e st'
  | .keep ks c, st, Q => vc E N n c st fun e st' => Q e ⟨sel ks st'.tm, st'.h⟩
  | .rangeF m K f ps assign body, st, Q => rangeK E m K f ps assign body st Q
  | .bad, _, _ => False

section
variable {Tb : Tab} {E : Env Tb} {N B n : Nat}

theorem Sim.trimmed {F : Foot} {β : Nat → Nat} {tm : List (Nat × PV)} {h : Hp} {a : Act} {w : World} (s : Sim E N B F β ⟨tm, h⟩ a w) : Sim E N B F β ⟨tm, trim h⟩ a w := by
  have hev : HEv w β h w β (trim h) := ⟨fun id cs fz hb => ⟨⟨cs, fz, by rw [getB_trim]; exact hb⟩, rfl⟩, fun id e k pr xs fz hb => ⟨pr, xs, fz, by rw [getB_trim]; exact hb, Nat.le_refl _, fun _ => ⟨rfl, fun arr ha => ⟨arr, ha, rfl⟩⟩⟩⟩
  exact ⟨s.gi, ⟨fun id b hb => by rw [getB_trim] at hb; exact BlkRep.of (fun _ _ h => ⟨h, rfl⟩) hev rfl rfl (fun _ h => h) (s.sh.blk id b hb), fun i j bi bj hi hj => by rw [getB_trim] at hi hj; exact s.sh.inj i j bi bj hi hj, s.sh.fin, fun id b hb => by rw [getB_trim] at hb; exact s.sh.lo id b hb, s.sh.glo⟩,
    fun t => Rep.mono (fun _ _ h => ⟨h, rfl⟩) hev _ _ (s.tm t), s.sz, s.df⟩

theorem SimH.wide {G : Nat} {F : Foot} {β : Nat → Nat} {h : Hp} {w : World} (hs : SimH G w F β h) : SimH G w F β (h ++ [none]) ∧ HEv w β h w β (h ++ [none]) := by
  have hg : ∀ id b, getB (h ++ [none]) id = some b → getB h id = some b := fun id b hb => by
    rcases getB_append_cases h none id b hb with ⟨h1, h2⟩ | ⟨h1, h2⟩
    · exact h2
    · cases h2
  have hg' : ∀ id b, getB h id = some b → getB (h ++ [none]) id = some b := fun id b hb => by rw [getB_append_lt _ _ _ (getB_lt _ _ _ hb)]; exact hb
  have hev : HEv w β h w β (h ++ [none]) := ⟨fun id cs fz hb => ⟨⟨cs, fz, hg' _ _ hb⟩, rfl⟩, fun id e k pr xs fz hb => ⟨pr, xs, fz, hg' _ _ hb, Nat.le_refl _, fun _ => ⟨rfl, fun arr ha => ⟨arr, ha, rfl⟩⟩⟩⟩
  exact ⟨⟨fun id b hb => BlkRep.of (fun _ _ h => ⟨h, rfl⟩) hev rfl rfl (fun _ h => h) (hs.blk id b (hg id b hb)), fun i j bi bj hi hj => hs.inj i j bi bj (hg _ _ hi) (hg _ _ hj), hs.fin, fun id b hb => hs.lo id b (hg _ _ hb), hs.glo⟩, hev⟩

/-- Evo over lists that hold the same blocks. -/
theorem Evo.sameL {m : Nat} {w w' : World} {F F' : Foot} {β β' : Nat → Nat} {h h1 h' : Hp} (e : Evo m w F β h1 w' F' β' h') (hg : ∀ id, getB h1 id = getB h id) {m' : Nat} (hmm : m' ≤ m) : Evo m' w F β h w' F' β' h' := by
  have ho : ∀ b, Own β h1 b ↔ Own β h b := fun b => ⟨fun ⟨id, blk, h1, h2⟩ => ⟨id, blk, by rw [← hg]; exact h1, h2⟩, fun ⟨id, blk, h1, h2⟩ => ⟨id, blk, by rw [hg]; exact h1, h2⟩⟩
  exact ⟨e.size, fun b hb hn => e.keep b hb (fun h => hn ((ho b).1 h)), e.tape, e.os, e.output, e.cell, fun b i hf => (e.org b i hf).imp_right fun x => x.imp (ho b).1 id, fun b hb => (e.own b hb).imp (ho b).1 id,
    fun id cs fz hi hb => e.box id cs fz (by omega) (by rw [hg]; exact hb), fun id el k pr xs fz hi hb => e.row id el k pr xs fz (by omega) (by rw [hg]; exact hb)⟩
theorem Evo.sameR {m : Nat} {w w' : World} {F F' : Foot} {β β' : Nat → Nat} {h h1 h' : Hp} (e : Evo m w F β h w' F' β' h1) (hg : ∀ id, getB h1 id = getB h' id) : Evo m w F β h w' F' β' h' := by
  have ho : ∀ b, Own β' h' b → Own β' h1 b := fun b ⟨id, blk, h1, h2⟩ => ⟨id, blk, by rw [hg]; exact h1, h2⟩
  exact ⟨e.size, e.keep, e.tape, e.os, e.output, e.cell, e.org, fun b hb => e.own b (ho b hb),
    fun id cs fz hi hb => by obtain ⟨⟨cs', fz', h1⟩, h2⟩ := e.box id cs fz hi hb; exact ⟨⟨cs', fz', by rw [← hg]; exact h1⟩, h2⟩,
    fun id el k pr xs fz hi hb => by obtain ⟨pr', xs', fz', h1, h2⟩ := e.row id el k pr xs fz hi hb; exact ⟨pr', xs', fz', by rw [← hg]; exact h1, h2⟩⟩

theorem Sim.set {F : Foot} {β : Nat → Nat} {tm : List (Nat × PV)} {h : Hp} {a : Act} {w : World} (s : Sim E N B F β ⟨tm, h⟩ a w) {g : Nat} {v v' : PV} (hg : get tm g = v) (hv : ∀ V, Rep w F β h v V → Rep w F β h v' V) : Sim E N B F β ⟨setD (some g) v' tm, h⟩ a w := by
  refine ⟨s.gi, s.sh, fun t => ?_, s.sz, s.df⟩
  by_cases he : g = t
  · subst he
    simp only [get_setD_self]
    exact hv _ (by have := s.tm g; simp only [hg] at this; exact this)
  · have : get (setD (some g) v' tm) t = get tm t := get_setD_ne (by simpa using he)
    simp only [this]; exact s.tm t

/-- One operation. -/
theorem vcOp_sound {o : Oper} {ao : AOp} {st : AS} {K : AS → Prop} {F : Foot} {β : Nat → Nat} {a : Act} {w : World} {next : Act → World → Prop} {Q : Exit → Act → World → Prop} {r : Option Nat} (hk : vcOp E ao st K) (ho : o.op = ao.op) (hd : o.dst = ao.dst) (hN : ∀ d, o.dst = some d → d < N)
    (s : Sim E N B F β st a w) (hnext : ∀ st' a' w' F' β', K st' → Sim E N B F' β' st' a' w' → Evo st.h.length w F β st.h w' F' β' st'.h → next a' w') : o.wpIn (fw r) 0 E.P a w next Q := by
  obtain ⟨tm, h⟩ := st
  unfold vcOp at hk
  rw [← ho, ← hd] at hk
  cases hal : allocs o.op with
  | true =>
    rw [hal] at hk
    simp only [cond_true] at hk
    obtain ⟨hw, hwe⟩ := s.sh.wide
    have hlen : h.length < (h ++ [none]).length := by simp
    have hfree : getB (h ++ [none]) h.length = none := getB_append_new h none
    refine op_sound (val_x hk) hw s.gi (fun _ => ⟨hlen, hfree⟩) (fun x => Rep.mono (fun _ _ h => ⟨h, rfl⟩) hwe _ _ (opd_rep s x)) ?_
    intro V w' F' β' h' v hK hrep hs' hev
    have hg0 : ∀ id, getB (h ++ [none]) id = getB h id := fun id => by
      cases hq : getB h id with
      | some b => rw [getB_append_lt _ _ _ (getB_lt _ _ _ hq)]; exact hq
      | none =>
        cases hq2 : getB (h ++ [none]) id with
        | none => rfl
        | some b =>
          rcases getB_append_cases h none id b hq2 with ⟨_, h2⟩ | ⟨_, h2⟩
          · rw [hq] at h2; cases h2
          · cases h2
    have hev1 : Evo h.length w F β h w' F' β' h' := hev.sameL hg0 (by simp)
    have s1 : Sim E N B F' β' ⟨tm, h'⟩ a w' := s.step hev1 hs' (gi_evo s.gi s.sh hev1)
    have s2 := (s1.put hN hrep).trimmed
    exact hnext _ _ _ F' β' hK s2 (hev1.sameR (fun id => (getB_trim h' id).symm))
  | false =>
    rw [hal] at hk
    simp only [cond_false] at hk
    refine op_sound (val_x hk) s.sh s.gi (fun h => by rw [hal] at h; cases h) (opd_rep s) ?_
    intro V w' F' β' h' v hK hrep hs' hev
    have s1 : Sim E N B F' β' ⟨tm, h'⟩ a w' := s.step hev hs' (gi_evo s.gi s.sh hev)
    exact hnext _ _ _ F' β' hK (s1.put hN hrep) hev

end
end Go.Px

set_option linter.unusedVariables false
set_option linter.unusedSimpArgs false
set_option linter.unnecessarySimpa false
namespace Go.Px
open Go

def GOk (M : Nat) (ops : Array Oper) : Option (Nat × Bool) → Option (Nat × Bool) → Prop
  | none, none => True
  | some (j, b), some (t, b') => b = b' ∧ (ops[j]?).bind (·.dst) = some t ∧ t < M
  | _, _ => False

section
variable {Tb : Tab} {E : Env Tb} {N B : Nat}

theorem Sim.base {F : Foot} {β : Nat → Nat} {st : AS} {a : Act} {w : World} {n : Nat} (s : Sim E N B F β st a w) : Evo n w F β st.h w F β st.h := Evo.refl _ _ _ _

theorem bool_rep {F : Foot} {β : Nat → Nat} {st : AS} {a : Act} {w : World} {t : Nat} {b : Bool} (s : Sim E N B F β st a w) (hg : get st.tm t = .bool b) : a.tmps.getD t undef = .bool b := by
  have := s.tm t; rw [hg] at this; simpa [Rep, RepP] using this
theorem kb_rep {F : Foot} {β : Nat → Nat} {st : AS} {a : Act} {w : World} {t : Nat} {b : Bool} (s : Sim E N B F β st a w) (hg : get st.tm t = .kb b) : a.tmps.getD t undef = .bool b := by
  have := s.tm t; rw [hg] at this; simpa [Rep, RepP] using this

/-- A guard's word. -/
theorem yielded_of {ops : Array Oper} {j t : Nat} {a : Act} {b : Bool} (ht : (ops[j]?).bind (·.dst) = some t) (hs : t < a.tmps.size) (hv : a.tmps.getD t undef = .bool b) : yielded ops a.tmps j = some b := by
  unfold yielded
  rw [ht]
  have : a.tmps[t]? = some (.bool b) := by
    rw [Array.getD_eq_getD_getElem?, Array.getElem?_eq_getElem hs] at hv
    rw [Array.getElem?_eq_getElem hs]; simpa using hv
  simp [this]

theorem wanted_of {ops : Array Oper} {o : Oper} {j t : Nat} {want b : Bool} {a : Act} (hg : o.guard = some (j, want)) (ht : (ops[j]?).bind (·.dst) = some t) (hs : t < a.tmps.size) (hv : a.tmps.getD t undef = .bool b) :
    Region.wanted o (yielded ops a.tmps) = (b == want) := by
  unfold Region.wanted
  simp only [hg, yielded_of ht hs hv]
  cases b <;> cases want <;> rfl
theorem wanted_no {ops : Array Oper} {o : Oper} {j t : Nat} {want : Bool} {a : Act} (hg : o.guard = some (j, want)) (ht : (ops[j]?).bind (·.dst) = some t) (hs : t < a.tmps.size) (hv : a.tmps.getD t undef = undef) :
    Region.wanted o (yielded ops a.tmps) = false := by
  have h : yielded ops a.tmps j = none := by
    unfold yielded
    rw [ht]
    have : a.tmps[t]? = some undef := by
      rw [Array.getD_eq_getD_getElem?, Array.getElem?_eq_getElem hs] at hv
      rw [Array.getElem?_eq_getElem hs]; simpa using hv
    simp [this, undef]
  unfold Region.wanted
  simp only [hg, h]
  cases want <;> rfl

theorem Sim.skipped {F : Foot} {β : Nat → Nat} {tm : List (Nat × PV)} {h : Hp} {a : Act} {w : World} (s : Sim E N B F β ⟨tm, h⟩ a w) {d : Option Nat} (hd : ∀ t, d = some t → t < N) : Sim E N B F β ⟨setD d (.tup []) tm, h⟩ (a.put d undef) w :=
  s.put hd (by simp [Rep, RepP, RepL, undef, ReL])

theorem guard_sound {ops : Array Oper} {o : Oper} {g : Option (Nat × Bool)} {st : AS} {yes no : AS → Prop} {F : Foot} {β : Nat → Nat} {a : Act} {w : World} (hk : guardK st g yes no) (s : Sim E N B F β st a w)
    (hg : GOk N ops o.guard g) :
    (Region.wanted o (yielded ops a.tmps) = true ∧ ∃ st', yes st' ∧ Sim E N B F β st' a w ∧ st'.h = st.h) ∨ (Region.wanted o (yielded ops a.tmps) = false ∧ ∃ st', no st' ∧ Sim E N B F β st' a w ∧ st'.h = st.h) := by
  unfold guardK at hk
  cases hog : o.guard with
  | none =>
    cases g with
    | none => exact .inl ⟨by simp [Region.wanted, hog], st, hk, s, rfl⟩
    | some g => rw [hog] at hg; exact hg.elim
  | some jb =>
    obtain ⟨j, b⟩ := jb
    cases g with
    | none => rw [hog] at hg; exact hg.elim
    | some tb =>
      obtain ⟨t, b'⟩ := tb
      rw [hog] at hg
      obtain ⟨rfl, ht, htN⟩ := hg
      have hsz : t < a.tmps.size := by rw [s.sz]; exact htN
      simp only at hk
      split at hk
      · rename_i c hc
        have hv := kb_rep s hc
        have hw := wanted_of hog ht hsz hv
        cases hcb : (cond b c (not c)) with
        | true => rw [hcb] at hk; exact .inl ⟨by rw [hw]; cases b <;> cases c <;> simp_all, st, hk, s, rfl⟩
        | false => rw [hcb] at hk; exact .inr ⟨by rw [hw]; cases b <;> cases c <;> simp_all, st, hk, s, rfl⟩
      · rename_i hc
        have hv : Rep w F β st.h (.tup []) (a.tmps.getD t undef) := by rw [← hc]; exact s.tm t
        exact .inr ⟨wanted_no hog ht hsz (by unfold Rep at hv; obtain ⟨arr, h1, h2⟩ := hv; unfold ReL at h2; rw [h1, Array.toList_eq_nil_iff.1 h2]; rfl), st, hk, s, rfl⟩
      · rename_i c hc
        have hv := bool_rep s hc
        have hw := wanted_of hog ht hsz hv
        have hset : ∀ d, c = d → Sim E N B F β ⟨setD (some t) (.kb d) st.tm, st.h⟩ a w := fun d hd => Sim.set (v' := .kb d) s hc (fun V hV => by subst hd; simpa [Rep, RepP] using hV)
        by_cases hcb : c = b
        · exact .inl ⟨by rw [hw]; simp [hcb], _, hk.1 hcb, hset b hcb, rfl⟩
        · have : c = (not b) := by cases b <;> cases c <;> simp_all
          exact .inr ⟨by rw [hw, this]; cases b <;> rfl, _, hk.2 this, hset _ this, rfl⟩
      · exact hk.elim

/-- What a region leaves. -/
def Lands {Tb : Tab} (E : Env Tb) (N B n : Nat) (K : AS → Prop) (F : Foot) (β : Nat → Nat) (h : Hp) (w : World) (a' : Act) (w' : World) : Prop :=
  ∃ st' F' β', K st' ∧ Sim E N B F' β' st' a' w' ∧ Evo n w F β h w' F' β' st'.h


theorem eraseOps_cons {M : Nat} {ops : Array Oper} {o : Oper} {r : List Oper} {l : List AOp} (h : eraseOps M ops (o :: r) = some l) :
    ∃ g r', l = ⟨o.dst, o.op, g⟩ :: r' ∧ eraseOps M ops r = some r' ∧ (∀ d, o.dst = some d → d < M) ∧ GOk M ops o.guard g := by
  unfold eraseOps at h
  split at h
  · rename_i r' g hr hg
    cases hb : dok M o.dst with
    | false => rw [hb] at h; cases h
    | true =>
      rw [hb] at h
      simp only [cond_true] at h
      injection h with h
      refine ⟨g, r', h.symm, hr, fun d hd => ?_, ?_⟩
      · rw [hd] at hb
        exact Nat.le_of_ble_eq_true hb
      · unfold eGuard at hg
        cases hog : o.guard with
        | none => rw [hog] at hg; injection hg with hg; subst hg; trivial
        | some jb =>
          obtain ⟨j, b⟩ := jb
          rw [hog] at hg
          simp only at hg
          split at hg
          · rename_i t ht
            cases hlt : Nat.blt t M with
            | false => rw [hlt] at hg; cases hg
            | true =>
              rw [hlt] at hg
              injection hg with hg
              subst hg
              exact ⟨rfl, ht, Nat.le_of_ble_eq_true hlt⟩
          · cases hg
  · cases h

theorem Evo.any {w w' : World} {F F' : Foot} {β β' : Nat → Nat} {h h' : Hp} (e : Evo h.length w F β h w' F' β' h') (n : Nat) : Evo n w F β h w' F' β' h' :=
  { e with box := fun id cs fz _ hb => e.box id cs fz (getB_lt _ _ _ hb) hb, row := fun id el k pr xs fz _ hb => e.row id el k pr xs fz (getB_lt _ _ _ hb) hb }

theorem Lands.trans {n : Nat} {K : AS → Prop} {F F1 : Foot} {β β1 : Nat → Nat} {h : Hp} {st1 : AS} {w w1 : World} {a' : Act} {w' : World} (e : Evo n w F β h w1 F1 β1 st1.h) (l : Lands E N B n K F1 β1 st1.h w1 a' w') : Lands E N B n K F β h w a' w' := by
  obtain ⟨st', F', β', h1, h2, h3⟩ := l
  exact ⟨st', F', β', h1, h2, Evo.trans e h3⟩

theorem vcOps_sound {n : Nat} {r : Option Nat} {ops : Array Oper} {K : AS → Prop} {Q : Exit → Act → World → Prop} : ∀ (l : List Oper) (al : List AOp) (st : AS) (F : Foot) (β : Nat → Nat) (a : Act) (w : World),
    vcOps E al st K → eraseOps N ops l = some al → Sim E N B F β st a w → (∀ a' w', Lands E N B n K F β st.h w a' w' → Q .normal a' w') → wpListIn (fw r) 0 E.P ops Q l a w
  | [], al, st, F, β, a, w, hk, he, s, hQ => by
    unfold eraseOps at he
    injection he with he
    subst he
    exact hQ a w ⟨st, F, β, hk, s, Evo.refl _ _ _ _⟩
  | o :: rr, al, st, F, β, a, w, hk, he, s, hQ => by
    obtain ⟨g, r', rfl, hr, hd, hg⟩ := eraseOps_cons he
    simp only [vcOps] at hk
    unfold wpListIn
    rcases guard_sound hk s hg with ⟨hw, st1, h1, s1, hh⟩ | ⟨hw, st1, h1, s1, hh⟩
    · rw [if_pos hw]
      refine vcOp_sound h1 rfl rfl hd s1 ?_
      intro st2 a2 w2 F2 β2 h2 s2 e2
      rw [hh] at e2
      exact vcOps_sound rr r' st2 F2 β2 a2 w2 h2 hr s2 (fun a' w' hl => hQ a' w' (Lands.trans (e2.any n) hl))
    · rw [if_neg (by rw [hw]; simp)]
      obtain ⟨tm1, hp1⟩ := st1
      refine ⟨fun f _ => fw_fn r f, ?_⟩
      exact vcOps_sound rr r' _ F β _ w h1 hr (s1.skipped hd) (fun a' w' hl => hQ a' w' (by simpa [← hh] using hl))

end
end Go.Px

set_option linter.unusedVariables false
set_option linter.unusedSimpArgs false
set_option linter.unnecessarySimpa false
namespace Go.Px
open Go

def app : List (Nat × Option Blk) → Hp → Hp
  | [], h => h
  | (id, b) :: r, h => app r (setB h id b)

def Agree (T : List Nat) (h h2 : Hp) : Prop := ∀ id, id ∈ T → getB h2 id = getB h id

theorem length_app : ∀ (wr : List (Nat × Option Blk)) (h : Hp), (app wr h).length = h.length
  | [], h => rfl
  | (id, b) :: r, h => by rw [app, length_app r, length_setB]
theorem getB_setB_congr {h1 h2 : Hp} {id p : Nat} {b : Option Blk} (hl : h1.length = h2.length) (hg : getB h1 id = getB h2 id) : getB (setB h1 p b) id = getB (setB h2 p b) id := by
  by_cases he : id = p
  · subst he
    by_cases hlt : id < h1.length
    · rw [getB_setB_self _ _ _ hlt, getB_setB_self _ _ _ (by omega)]
    · have e1 : ∀ h : Hp, ¬ id < h.length → setB h id b = h := fun h => by
        clear hg hl hlt
        induction h generalizing id with
        | nil => intro _; rfl
        | cons x h ih =>
          intro hn
          cases id with
          | zero => simp at hn
          | succ n => simp only [setB]; rw [ih (by simpa using hn)]
      rw [e1 h1 hlt, e1 h2 (by omega)]; exact hg
  · rw [getB_setB_ne _ _ _ _ he, getB_setB_ne _ _ _ _ he]; exact hg
theorem getB_app_congr : ∀ (wr : List (Nat × Option Blk)) {h1 h2 : Hp} {id : Nat}, h1.length = h2.length → getB h1 id = getB h2 id → getB (app wr h1) id = getB (app wr h2) id
  | [], h1, h2, id, hl, hg => hg
  | (p, b) :: r, h1, h2, id, hl, hg => getB_app_congr r (by rw [length_setB, length_setB]; exact hl) (getB_setB_congr hl hg)
theorem getB_app_ne : ∀ (wr : List (Nat × Option Blk)) {h : Hp} {id : Nat}, (∀ p, p ∈ wr → p.1 ≠ id) → getB (app wr h) id = getB h id
  | [], h, id, _ => rfl
  | (p, b) :: r, h, id, hn => by
    rw [app, getB_app_ne r (fun q hq => hn q (List.mem_cons_of_mem _ hq)), getB_setB_ne]
    exact fun e => hn (p, b) (List.mem_cons_self ..) e.symm

theorem length_insH (q : Option (Nat × PV × PV)) (h : Hp) : (insH q h).length = h.length := by
  unfold insH
  split
  · exact length_setB _ _ _
  · rfl
theorem getB_insH_ne {q : Option (Nat × PV × PV)} {h : Hp} {id : Nat} (hn : ∀ k v, q ≠ some (id, k, v)) : getB (insH q h) id = getB h id := by
  unfold insH
  split
  · rename_i id' k v
    exact getB_setB_ne _ _ _ _ (fun e => hn k v (by rw [e]))
  · rfl
theorem setB_beyond : ∀ (h : Hp) (id : Nat) (b : Option Blk), ¬ id < h.length → setB h id b = h
  | [], _, _, _ => rfl
  | x :: h, 0, b, hn => absurd (by simp) hn
  | x :: h, n + 1, b, hn => by simp only [setB]; rw [setB_beyond h n b (by simpa using hn)]
theorem getB_beyond : ∀ (h : Hp) (id : Nat), ¬ id < h.length → getB h id = none
  | [], _, _ => rfl
  | x :: h, 0, hn => absurd (by simp) hn
  | x :: h, n + 1, hn => by simp only [getB]; exact getB_beyond h n (by simpa using hn)
theorem getB_insH_self (id : Nat) (k v : PV) (h : Hp) : getB (insH (some (id, k, v)) h) id = insB k v (getB h id) := by
  show getB (setB h id (insB k v (getB h id))) id = _
  by_cases hlt : id < h.length
  · exact getB_setB_self _ _ _ hlt
  · rw [setB_beyond _ _ _ hlt, getB_beyond _ _ hlt]; rfl
theorem getB_insH_congr {q : Option (Nat × PV × PV)} {h1 h2 : Hp} {id : Nat} (hg : getB h1 id = getB h2 id) : getB (insH q h1) id = getB (insH q h2) id := by
  by_cases hq : ∃ k v, q = some (id, k, v)
  · obtain ⟨k, v, rfl⟩ := hq
    rw [getB_insH_self, getB_insH_self, hg]
  · rw [getB_insH_ne (fun k v e => hq ⟨k, v, e⟩), getB_insH_ne (fun k v e => hq ⟨k, v, e⟩), hg]

theorem insP_comm {k1 v1 k2 v2 : PV} (hne : codeP k1 ≠ codeP k2) : ∀ l, insP k1 v1 (insP k2 v2 l) = insP k2 v2 (insP k1 v1 l)
  | [] => by
    simp only [insP]
    cases h1 : Nat.blt (codeP k1) (codeP k2) <;> cases h2 : Nat.blt (codeP k2) (codeP k1) <;> simp only [cond_true, cond_false]
    · simp only [Nat.blt_eq, Bool.eq_false_iff, ne_eq] at h1 h2; omega
    · simp only [Nat.blt_eq] at h1 h2; omega
  | x :: r => by
    have ih := insP_comm (v1 := v1) (v2 := v2) hne r
    simp only [insP]
    cases h1 : Nat.blt (codeP k1) (codeP x.1) <;> cases h2 : Nat.blt (codeP k2) (codeP x.1) <;> simp only [cond_true, cond_false, insP, h1, h2]
    · rw [ih]
    · have : Nat.blt (codeP k1) (codeP k2) = false := by
        simp only [Nat.blt_eq, Bool.eq_false_iff, ne_eq] at h1 h2 ⊢; omega
      simp only [this, cond_false, h1]
    · have : Nat.blt (codeP k2) (codeP k1) = false := by
        simp only [Nat.blt_eq, Bool.eq_false_iff, ne_eq] at h1 h2 ⊢; omega
      simp only [this, cond_false, h2]
    · cases h3 : Nat.blt (codeP k1) (codeP k2) <;> cases h4 : Nat.blt (codeP k2) (codeP k1) <;> simp only [cond_true, cond_false, insP, h1, h2]
      · simp only [Nat.blt_eq, Bool.eq_false_iff, ne_eq] at h3 h4; omega
      · simp only [Nat.blt_eq] at h3 h4; omega
theorem zip_split (l : List (PV × PV)) : (l.map (·.1)).zip (l.map (·.2)) = l := by
  induction l with
  | nil => rfl
  | cons x r ih => simp only [List.map_cons, List.zip_cons_cons, ih]
theorem insB_mapp (k v : PV) (ks vs : List PV) (fz : Bool) : insB k v (some (.box [.mapp ks vs] fz)) = some (.box [.mapp ((insP k v (ks.zip vs)).map (·.1)) ((insP k v (ks.zip vs)).map (·.2))] fz) := rfl
theorem insB_other {k v : PV} {b : Option Blk} (h : ∀ ks vs fz, b ≠ some (.box [.mapp ks vs] fz)) : insB k v b = b := by
  unfold insB
  split
  · rename_i ks vs fz; exact absurd rfl (h ks vs fz)
  · rfl
theorem insB_comm {k1 v1 k2 v2 : PV} (hne : codeP k1 ≠ codeP k2) (b : Option Blk) : insB k1 v1 (insB k2 v2 b) = insB k2 v2 (insB k1 v1 b) := by
  by_cases hm : ∃ ks vs fz, b = some (.box [.mapp ks vs] fz)
  · obtain ⟨ks, vs, fz, rfl⟩ := hm
    simp only [insB_mapp, zip_split, insP_comm hne]
  · have h : ∀ ks vs fz, b ≠ some (.box [.mapp ks vs] fz) := fun ks vs fz e => hm ⟨ks, vs, fz, e⟩
    rw [insB_other (k := k2) h, insB_other (k := k1) h, insB_other h]

/-- What the operations of a region look at, write, and came to. -/
structure Tr where
  dst : Nat → Option Nat
  looks : Nat → List Nat
  touch : Nat → List Nat
  wids : Nat → List Nat
  v : Nat → PV
  wr : Nat → List (Nat × Option Blk)
  ins : Nat → Option (Nat × PV × PV)
  st0 : AS

namespace Tr
variable (R : Tr)
def eff (i : Nat) (st : AS) : AS := ⟨setD (R.dst i) (R.v i) st.tm, insH (R.ins i) (app (R.wr i) st.h)⟩
/-- It may write there. -/
def Wr (i id : Nat) : Prop := id ∈ R.wids i ∨ ∃ k v, R.ins i = some (id, k, v)
def replay (S : Nat → Bool) : Nat → AS
  | 0 => R.st0
  | k + 1 => bif S k then R.eff k (replay S k) else replay S k

theorem length_replay (S : Nat → Bool) : ∀ k, (R.replay S k).h.length = R.st0.h.length
  | 0 => rfl
  | k + 1 => by
    simp only [replay]
    cases S k with
    | true => simp only [cond_true, eff, length_insH, length_app]; exact length_replay S k
    | false => exact length_replay S k

theorem get_replay {S S' : Nat → Bool} {t : Nat} : ∀ k, (∀ i, i < k → R.dst i = some t → S i = S' i) → get (R.replay S k).tm t = get (R.replay S' k).tm t
  | 0, _ => rfl
  | k + 1, h => by
    have ih := get_replay k (fun i hi => h i (by omega))
    by_cases hd : R.dst k = some t
    · have he := h k (by omega) hd
      simp only [replay, he]
      cases S' k with
      | true => simp only [cond_true, eff, hd, get_setD_self]
      | false => exact ih
    · have hs : ∀ S, get (R.replay S (k + 1)).tm t = get (R.replay S k).tm t := fun S => by
        simp only [replay]
        cases S k with
        | true => simp only [cond_true, eff]; exact get_setD_ne hd
        | false => rfl
      rw [hs, hs]; exact ih

theorem getB_replay (hw : ∀ i p, p ∈ R.wr i → p.1 ∈ R.wids i) {S S' : Nat → Bool} {id : Nat} : ∀ k, (∀ i, i < k → R.Wr i id → S i = S' i) → getB (R.replay S k).h id = getB (R.replay S' k).h id
  | 0, _ => rfl
  | k + 1, h => by
    have ih := getB_replay hw k (fun i hi => h i (by omega))
    by_cases hd : R.Wr k id
    · have he := h k (by omega) hd
      simp only [replay, he]
      cases S' k with
      | true => simp only [cond_true, eff]; exact getB_insH_congr (getB_app_congr _ (by rw [length_replay, length_replay]) ih)
      | false => exact ih
    · have hs : ∀ S, getB (R.replay S (k + 1)).h id = getB (R.replay S k).h id := fun S => by
        simp only [replay]
        cases S k with
        | true =>
          simp only [cond_true, eff]
          rw [getB_insH_ne (fun q v e => hd (.inr ⟨q, v, e⟩))]
          exact getB_app_ne _ (fun p hp e => hd (.inl (by rw [← e]; exact hw k p hp)))
        | false => rfl
      rw [hs, hs]; exact ih

/-- Neither looks at what the other does. -/
def Apart (i j : Nat) : Prop :=
  (∀ t, R.dst i = some t → t ∉ R.looks j ∧ R.dst j ≠ some t) ∧ (∀ t, R.dst j = some t → t ∉ R.looks i) ∧
  (∀ id, R.Wr i id → id ∉ R.touch j) ∧ (∀ id, R.Wr j id → id ∉ R.touch i) ∧ (∀ id k v k' v', R.ins i = some (id, k, v) → R.ins j = some (id, k', v') → insApart k k' = true)
end Tr

def upd (S : Nat → Bool) (j : Nat) : Nat → Bool := fun i => bif Nat.beq i j then true else S i
theorem upd_self (S : Nat → Bool) (j : Nat) : upd S j j = true := by simp [upd]
theorem upd_ne (S : Nat → Bool) {i j : Nat} (h : i ≠ j) : upd S j i = S i := by
  have : Nat.beq i j = false := by
    cases hb : Nat.beq i j with
    | false => rfl
    | true => exact absurd (Nat.eq_of_beq_eq_true hb) h
  simp [upd, this]

namespace Tr
variable (R : Tr)

theorem cut {m : Nat} : ∀ S k, k ≤ m → R.replay (fun i => Nat.blt i k && S i) m = R.replay S k := fun S k hk => by
  have h1 : ∀ n, n ≤ k → R.replay (fun i => Nat.blt i k && S i) n = R.replay S n := fun n => by
    induction n with
    | zero => intro _; rfl
    | succ n ih =>
      intro hn
      have : Nat.blt n k = true := by simp [Nat.blt_eq]; omega
      simp only [replay, this, Bool.true_and, ih (by omega)]
  have h2 : ∀ d, R.replay (fun i => Nat.blt i k && S i) (k + d) = R.replay S k := fun d => by
    induction d with
    | zero => exact h1 k (Nat.le_refl _)
    | succ d ih =>
      have : Nat.blt (k + d) k = false := by
        cases hb : Nat.blt (k + d) k with
        | false => rfl
        | true => simp only [Nat.blt_eq] at hb; omega
      show R.replay _ (k + d + 1) = _
      simp only [replay, this, Bool.false_and, cond_false, ih]
  have := h2 (m - k)
  rwa [show k + (m - k) = m by omega] at this

/-- In whatever order: what op j looks at, behind those in S, is what it looks at in the text's order. -/
theorem same_looks (hw : ∀ i p, p ∈ R.wr i → p.1 ∈ R.wids i) (hwt : ∀ i id, id ∈ R.wids i → id ∈ R.touch i) {m j : Nat} {S : Nat → Bool} {Bf : Nat → Nat → Prop} (hj : j < m) (hSj : S j = false)
    (hap : ∀ i k, i < k → k < m → Bf i k ∨ R.Apart i k) (hin : ∀ i, Bf i j → S i = true) (hout : ∀ i, i < m → Bf j i → S i = false) :
    (∀ t, t ∈ R.looks j → get (R.replay S m).tm t = get (R.replay (fun _ => true) j).tm t) ∧ Agree (R.touch j) (R.replay (fun _ => true) j).h (R.replay S m).h := by
  have cut := R.cut (m := m)
  have hS : ∀ i, i < m → i ≠ j → ¬ R.Apart i j ∧ ¬ R.Apart j i → S i = (Nat.blt i j && true) := fun i hi hne ⟨hc1, hc2⟩ => by
    rcases Nat.lt_or_gt_of_ne hne with h | h
    · have : Nat.blt i j = true := by simpa [Nat.blt_eq] using h
      rw [this, hin i ((hap i j h hj).resolve_right hc1)]; rfl
    · have : Nat.blt i j = false := by
        cases hb : Nat.blt i j with
        | false => rfl
        | true => simp only [Nat.blt_eq] at hb; omega
      rw [this, hout i hi ((hap j i h hi).resolve_right hc2)]; rfl
  have hjj : S j = (Nat.blt j j && true) := by
    have : Nat.blt j j = false := by
      cases hb : Nat.blt j j with
      | false => rfl
      | true => simp only [Nat.blt_eq] at hb; omega
    rw [this, hSj]; rfl
  constructor
  · intro t ht
    rw [← cut (fun _ => true) j (Nat.le_of_lt hj)]
    refine R.get_replay m fun i hi hd => ?_
    by_cases hne : i = j
    · subst hne; exact hjj
    · exact hS i hi hne ⟨fun ha => (ha.1 t hd).1 ht, fun ha => ha.2.1 t hd ht⟩
  · intro id hid
    rw [← cut (fun _ => true) j (Nat.le_of_lt hj)]
    refine R.getB_replay hw m fun i hi hd => ?_
    by_cases hne : i = j
    · subst hne; exact hjj
    · exact hS i hi hne ⟨fun ha => ha.2.2.1 id hd hid, fun ha => ha.2.2.2.1 id hd hid⟩

/-- What op j does there, taken into the replay. -/
theorem replay_add (hw : ∀ i p, p ∈ R.wr i → p.1 ∈ R.wids i) (hwt : ∀ i id, id ∈ R.wids i → id ∈ R.touch i) {m j : Nat} {S : Nat → Bool} {Bf : Nat → Nat → Prop} (hj : j < m) (hSj : S j = false)
    (hap : ∀ i k, i < k → k < m → Bf i k ∨ R.Apart i k) (hout : ∀ i, i < m → Bf j i → S i = false) :
    (∀ t, get (R.replay (upd S j) m).tm t = get (R.eff j (R.replay S m)).tm t) ∧ (∀ id, getB (R.replay (upd S j) m).h id = getB (R.eff j (R.replay S m)).h id) := by
  have hlt : ∀ {i k : Nat}, i < k → Nat.blt i k = true := fun h => by simpa [Nat.blt_eq] using h
  have hge : ∀ {i k : Nat}, k ≤ i → Nat.blt i k = false := fun {i k} h => by
    cases hb : Nat.blt i k with
    | false => rfl
    | true => simp only [Nat.blt_eq] at hb; omega
  have hcut : R.replay (fun i => Nat.blt i (j + 1) && upd S j i) m = R.eff j (R.replay (upd S j) j) := by
    rw [R.cut _ _ (by omega)]
    simp only [replay, upd_self, cond_true]
  constructor
  · intro t
    by_cases hd : R.dst j = some t
    · have h1 : get (R.replay (upd S j) m).tm t = get (R.replay (fun i => Nat.blt i (j + 1) && upd S j i) m).tm t := R.get_replay m fun i hi hdi => by
        rcases Nat.lt_or_ge i (j + 1) with h | h
        · rw [hlt h]; rfl
        · rw [hge h, upd_ne S (by omega), hout i hi ((hap j i (by omega) hi).resolve_right fun ha => (ha.1 t hd).2 hdi)]; rfl
      rw [h1, hcut]
      simp only [eff, hd, get_setD_self]
    · have h1 : get (R.replay (upd S j) m).tm t = get (R.replay S m).tm t := R.get_replay m fun i hi hdi => upd_ne S (fun e => hd (e ▸ hdi))
      rw [h1]
      simp only [eff]
      exact (get_setD_ne hd).symm
  · intro id
    by_cases hd : id ∈ R.wids j
    · have hno : ∀ i, i < m → j < i → R.Wr i id → S i = false := fun i hi hji hdi => hout i hi ((hap j i hji hi).resolve_right fun ha => ha.2.2.2.1 id hdi (hwt j id hd))
      have h1 : getB (R.replay (upd S j) m).h id = getB (R.replay (fun i => Nat.blt i (j + 1) && upd S j i) m).h id := R.getB_replay hw m fun i hi hdi => by
        rcases Nat.lt_or_ge i (j + 1) with h | h
        · rw [hlt h]; rfl
        · rw [hge h, upd_ne S (by omega), hno i hi (by omega) hdi]; rfl
      have h2 : getB (R.replay S m).h id = getB (R.replay (fun i => Nat.blt i j && S i) m).h id := R.getB_replay hw m fun i hi hdi => by
        rcases Nat.lt_or_ge i j with h | h
        · rw [hlt h]; rfl
        · rw [hge h]
          rcases Nat.lt_or_eq_of_le h with h | h
          · rw [hno i hi h hdi]; rfl
          · rw [← h, hSj]; rfl
      have h3 : getB (R.replay (upd S j) j).h id = getB (R.replay S j).h id := R.getB_replay hw j fun i hi _ => upd_ne S (by omega)
      rw [h1, hcut]
      refine getB_insH_congr (getB_app_congr _ (by rw [length_replay, length_replay]) ?_)
      rw [h3, h2, R.cut _ _ (by omega)]
    · by_cases hi : ∃ k v, R.ins j = some (id, k, v)
      · obtain ⟨k, v, hins⟩ := hi
        have hw0 : ∀ h : Hp, getB (app (R.wr j) h) id = getB h id := fun h => getB_app_ne _ (fun p hp e => hd (by rw [← e]; exact hw j p hp))
        have main : ∀ d, j + 1 + d ≤ m → getB (R.replay (upd S j) (j + 1 + d)).h id = insB k v (getB (R.replay S (j + 1 + d)).h id) := fun d => by
          induction d with
          | zero =>
            intro _
            have h3 : getB (R.replay (upd S j) j).h id = getB (R.replay S j).h id := R.getB_replay hw j fun i hi _ => upd_ne S (by omega)
            simp only [Nat.add_zero, replay, upd_self, cond_true, hSj, cond_false, eff, hins]
            rw [getB_insH_self, hw0, h3]
          | succ d ih =>
            intro hle
            have ih := ih (by omega)
            show getB (R.replay (upd S j) (j + 1 + d + 1)).h id = insB k v (getB (R.replay S (j + 1 + d + 1)).h id)
            simp only [replay]
            rw [upd_ne S (by omega : j + 1 + d ≠ j)]
            cases hSd : S (j + 1 + d) with
            | false => simp only [cond_false]; exact ih
            | true =>
              simp only [cond_true, eff]
              have hap' := (hap j (j + 1 + d) (by omega) (by omega)).resolve_left fun hb => by
                have := hout _ (by omega) hb
                rw [hSd] at this; cases this
              have hnw : id ∉ R.wids (j + 1 + d) := fun hm => hap'.2.2.1 id (.inr ⟨k, v, hins⟩) (hwt _ id hm)
              have hw1 : ∀ h : Hp, getB (app (R.wr (j + 1 + d)) h) id = getB h id := fun h => getB_app_ne _ (fun p hp e => hnw (by rw [← e]; exact hw _ p hp))
              by_cases hi2 : ∃ k' v', R.ins (j + 1 + d) = some (id, k', v')
              · obtain ⟨k', v', hins'⟩ := hi2
                have hne := hap'.2.2.2.2 id k v k' v' hins hins'
                rw [hins', getB_insH_self, getB_insH_self, hw1, hw1, ih]
                refine insB_comm ?_ _
                simp only [insApart, Bool.and_eq_true, Bool.not_eq_true'] at hne
                exact fun e => by rw [e, Nat.beq_refl] at hne; cases hne.2
              · rw [getB_insH_ne (fun q u e => hi2 ⟨q, u, e⟩), getB_insH_ne (fun q u e => hi2 ⟨q, u, e⟩), hw1, hw1, ih]
        have := main (m - (j + 1)) (by omega)
        rw [show j + 1 + (m - (j + 1)) = m by omega] at this
        rw [this]
        simp only [eff, hins]
        rw [getB_insH_self, hw0]
      · have hnw : ¬ R.Wr j id := fun h => h.elim hd (fun ⟨k, v, e⟩ => hi ⟨k, v, e⟩)
        have h1 : getB (R.replay (upd S j) m).h id = getB (R.replay S m).h id := R.getB_replay hw m fun i _ hdi => upd_ne S (fun e => hnw (e ▸ hdi))
        rw [h1]
        simp only [eff]
        rw [getB_insH_ne (fun k v e => hi ⟨k, v, e⟩)]
        exact (getB_app_ne _ (fun p hp e => hd (by rw [← e]; exact hw j p hp))).symm

/-- Absent: every key there is another. -/
theorem absent_spec {key : PV} {b : Option Blk} : absent key b = true ↔ ∃ ks vs fz, b = some (.box [.mapp ks vs] fz) ∧ ∀ k ∈ ks, keyEq key k = some false := by
  have hm : ∀ (ks : List PV) (i : Nat), midx key ks i = some none ↔ ∀ k ∈ ks, keyEq key k = some false := fun ks => by
    induction ks with
    | nil => intro i; simp [midx]
    | cons k ks ih =>
      intro i
      simp only [midx, List.forall_mem_cons]
      cases hk : keyEq key k with
      | none => simp
      | some b => cases b <;> simp [ih]
  unfold absent
  constructor
  · intro h
    split at h
    · rename_i ks vs fz
      split at h
      · rename_i hq; exact ⟨ks, vs, fz, rfl, (hm ks 0).1 hq⟩
      · cases h
    · cases h
  · rintro ⟨ks, vs, fz, rfl, h⟩
    simp only [(hm ks 0).2 h]
theorem mem_insP {k v : PV} : ∀ (l : List (PV × PV)) (x : PV), x ∈ (insP k v l).map (·.1) ↔ x = k ∨ x ∈ l.map (·.1)
  | [], x => by simp [insP]
  | y :: r, x => by
    simp only [insP]
    cases Nat.blt (codeP k) (codeP y.1) with
    | true => simp
    | false =>
      simp only [cond_false, List.map_cons, List.mem_cons, mem_insP r x]
      constructor
      · rintro (h | h | h)
        · exact .inr (.inl h)
        · exact .inl h
        · exact .inr (.inr h)
      · rintro (h | h | h)
        · exact .inr (.inl h)
        · exact .inl h
        · exact .inr (.inr h)
/-- Absent, as the pairs say it. -/
def AbsZ (key : PV) (b : Option Blk) : Prop := ∃ ks vs fz, b = some (.box [.mapp ks vs] fz) ∧ ∀ x ∈ (ks.zip vs).map (·.1), keyEq key x = some false
theorem AbsZ.of {key : PV} {b : Option Blk} (h : absent key b = true) : AbsZ key b := by
  obtain ⟨ks, vs, fz, rfl, h'⟩ := absent_spec.1 h
  refine ⟨ks, vs, fz, rfl, fun x hx => ?_⟩
  obtain ⟨p, hp, rfl⟩ := List.mem_map.1 hx
  exact h' _ (List.of_mem_zip hp).1
theorem AbsZ.absent {key : PV} {b : Option Blk} (h : AbsZ key b) (hl : ∀ ks vs fz, b = some (.box [.mapp ks vs] fz) → ks.length = vs.length) : absent key b = true := by
  obtain ⟨ks, vs, fz, rfl, h⟩ := h
  refine absent_spec.2 ⟨ks, vs, fz, rfl, fun k hk => h k ?_⟩
  have hl := hl _ _ _ rfl
  rw [show (ks.zip vs).map (·.1) = ks from by
    have := List.map_fst_zip (l₁ := ks) (l₂ := vs) (by omega)
    exact this]
  exact hk
theorem AbsZ.ins {key k v : PV} {b : Option Blk} : AbsZ key (insB k v b) ↔ AbsZ key b ∧ (AbsZ key b → keyEq key k = some false) := by
  by_cases hm : ∃ ks vs fz, b = some (.box [.mapp ks vs] fz)
  · obtain ⟨ks, vs, fz, rfl⟩ := hm
    rw [insB_mapp]
    constructor
    · rintro ⟨ks', vs', fz', he, h⟩
      injection he with he; injection he with h1 h2; injection h1 with h1 _; injection h1 with h1 h3
      subst h1 h2 h3
      rw [zip_split] at h
      exact ⟨⟨ks, vs, fz, rfl, fun x hx => h x ((mem_insP _ _).2 (.inr hx))⟩, fun _ => h k ((mem_insP _ _).2 (.inl rfl))⟩
    · rintro ⟨h, hk⟩
      have hk := hk h
      obtain ⟨ks', vs', fz', he, h⟩ := h
      injection he with he; injection he with h1 h2; injection h1 with h1 _; injection h1 with h1 h3
      subst h1 h2 h3
      refine ⟨_, _, fz, rfl, fun x hx => ?_⟩
      rw [zip_split] at hx
      rcases (mem_insP _ _).1 hx with rfl | hx
      · exact hk
      · exact h x hx
  · rw [insB_other (fun ks vs fz e => hm ⟨ks, vs, fz, e⟩)]
    exact ⟨fun h => ⟨h, fun _ => absurd h (fun ⟨ks, vs, fz, e, _⟩ => hm ⟨ks, vs, fz, e⟩)⟩, fun h => h.1⟩

theorem app_either : ∀ (wr : List (Nat × Option Blk)) (id : Nat), (∃ x, ∀ h : Hp, id < h.length → getB (app wr h) id = x) ∨ (∀ h : Hp, getB (app wr h) id = getB h id)
  | [], id => .inr fun h => rfl
  | (p, b) :: r, id => by
    rcases app_either r id with ⟨x, hx⟩ | hx
    · exact .inl ⟨x, fun h hl => by rw [app]; exact hx _ (by rw [length_setB]; exact hl)⟩
    · by_cases e : p = id
      · subst e
        exact .inl ⟨b, fun h hl => by rw [app, hx, getB_setB_self _ _ _ hl]⟩
      · exact .inr fun h => by rw [app, hx, getB_setB_ne _ _ _ _ (Ne.symm e)]

/-- In whatever order: a key that is absent in the text's order is absent. -/
theorem ins_ok (hw : ∀ i p, p ∈ R.wr i → p.1 ∈ R.wids i) (hwt : ∀ i id, id ∈ R.wids i → id ∈ R.touch i) {m j : Nat} {S : Nat → Bool} {Bf : Nat → Nat → Prop} (hj : j < m) (hSj : S j = false)
    (hap : ∀ i k, i < k → k < m → Bf i k ∨ R.Apart i k) (hin : ∀ i, Bf i j → S i = true) (hout : ∀ i, i < m → Bf j i → S i = false) {id : Nat} {k v : PV} (hins : R.ins j = some (id, k, v))
    (h0 : AbsZ k (getB (R.replay (fun _ => true) j).h id)) : AbsZ k (getB (R.replay S m).h id) := by
  have hlt : id < R.st0.h.length := by
    obtain ⟨ks, vs, fz, he, _⟩ := h0
    have := getB_lt _ _ _ he
    rwa [length_replay] at this
  have step : ∀ (i : Nat) (h : Hp), h.length = R.st0.h.length → (∃ x, ∀ h2 : Hp, h2.length = R.st0.h.length → getB (insH (R.ins i) (app (R.wr i) h2)) id = x) ∨ (getB (insH (R.ins i) (app (R.wr i) h)) id = getB h id ∧ ∀ h2 : Hp, getB (insH (R.ins i) (app (R.wr i) h2)) id = getB h2 id) ∨ ∃ k' v', R.ins i = some (id, k', v') ∧ ∀ h2 : Hp, getB (app (R.wr i) h2) id = getB h2 id := by
    intro i h hl
    by_cases hi : ∃ k' v', R.ins i = some (id, k', v')
    · obtain ⟨k', v', hi⟩ := hi
      rcases app_either (R.wr i) id with ⟨x, hx⟩ | hx
      · left
        exact ⟨insB k' v' x, fun h2 hl2 => by rw [hi, getB_insH_self, hx h2 (by omega)]⟩
      · exact .inr (.inr ⟨k', v', hi, hx⟩)
    · rcases app_either (R.wr i) id with ⟨x, hx⟩ | hx
      · left
        exact ⟨x, fun h2 hl2 => by rw [getB_insH_ne (fun q u e => hi ⟨q, u, e⟩), hx h2 (by omega)]⟩
      · exact .inr (.inl ⟨by rw [getB_insH_ne (fun q u e => hi ⟨q, u, e⟩), hx], fun h2 => by rw [getB_insH_ne (fun q u e => hi ⟨q, u, e⟩), hx]⟩)
  -- up to j: what S's map knows, the text's knows
  have up : ∀ n, n ≤ j → AbsZ k (getB (R.replay (fun _ => true) n).h id) → AbsZ k (getB (R.replay S n).h id) := fun n => by
    induction n with
    | zero => intro _ h; exact h
    | succ n ih =>
      intro hn h
      have ih := ih (by omega)
      simp only [replay, cond_true] at h
      cases hSn : S n with
      | true =>
        simp only [replay, hSn, cond_true]
        simp only [eff] at h ⊢
        rcases step n _ (length_replay R S n) with ⟨x, hx⟩ | ⟨_, hx⟩ | ⟨k', v', hi, hx⟩
        · rw [hx _ (length_replay R _ n)] at h ⊢; exact h
        · rw [hx] at h ⊢; exact ih h
        · rw [hi, getB_insH_self, hx] at h ⊢
          obtain ⟨h1, h2⟩ := AbsZ.ins.1 h
          exact AbsZ.ins.2 ⟨ih h1, fun _ => h2 h1⟩
      | false =>
        simp only [replay, hSn, cond_false]
        have ha := (hap n j (by omega) hj).resolve_left fun hb => by have := hin n hb; rw [hSn] at this; cases this
        have hnw : id ∉ R.wids n := fun hm => ha.2.2.2.1 id (.inr ⟨k, v, hins⟩) (hwt n id hm)
        have hw1 : ∀ h : Hp, getB (app (R.wr n) h) id = getB h id := fun h => getB_app_ne _ (fun p hp e => hnw (by rw [← e]; exact hw _ p hp))
        simp only [eff] at h
        by_cases hi : ∃ k' v', R.ins n = some (id, k', v')
        · obtain ⟨k', v', hi⟩ := hi
          rw [hi, getB_insH_self, hw1] at h
          exact ih (AbsZ.ins.1 h).1
        · rw [getB_insH_ne (fun q u e => hi ⟨q, u, e⟩), hw1] at h
          exact ih h
  have hj0 := up j (Nat.le_refl _) h0
  have on : ∀ d, j + d ≤ m → AbsZ k (getB (R.replay S (j + d)).h id) := fun d => by
    induction d with
    | zero => intro _; exact hj0
    | succ d ih =>
      intro hle
      have ih := ih (by omega)
      show AbsZ k (getB (R.replay S (j + d + 1)).h id)
      cases hSd : S (j + d) with
      | false => simp only [replay, hSd, cond_false]; exact ih
      | true =>
        simp only [replay, hSd, cond_true, eff]
        have hne : j ≠ j + d := fun e => by rw [← e, hSj] at hSd; cases hSd
        have ha := (hap j (j + d) (by omega) (by omega)).resolve_left fun hb => by have := hout _ (by omega) hb; rw [hSd] at this; cases this
        have hnw : id ∉ R.wids (j + d) := fun hm => ha.2.2.1 id (.inr ⟨k, v, hins⟩) (hwt _ id hm)
        have hw1 : ∀ h : Hp, getB (app (R.wr (j + d)) h) id = getB h id := fun h => getB_app_ne _ (fun p hp e => hnw (by rw [← e]; exact hw _ p hp))
        by_cases hi : ∃ k' v', R.ins (j + d) = some (id, k', v')
        · obtain ⟨k', v', hi⟩ := hi
          rw [hi, getB_insH_self, hw1]
          refine AbsZ.ins.2 ⟨ih, fun _ => ?_⟩
          have := ha.2.2.2.2 id k v k' v' hins hi
          simp only [insApart, Bool.and_eq_true] at this
          have := this.1.1
          split at this
          · rename_i hq; exact hq
          · cases this
        · rw [getB_insH_ne (fun q u e => hi ⟨q, u, e⟩), hw1]
          exact ih
  have := on (m - j) (by omega)
  rwa [show j + (m - j) = m by omega] at this

/-! ### Listed -/
def cnt (S : Nat → Bool) : Nat → Nat
  | 0 => 0
  | k + 1 => (bif S k then 0 else 1) + cnt S k
theorem cnt_zero {S : Nat → Bool} : ∀ {k}, cnt S k = 0 → ∀ i, i < k → S i = true
  | 0, _, i, hi => absurd hi (Nat.not_lt_zero _)
  | k + 1, h, i, hi => by
    simp only [cnt] at h
    cases hs : S k with
    | false => rw [hs] at h; simp at h
    | true =>
      rw [hs] at h
      rcases Nat.lt_or_eq_of_le (Nat.le_of_lt_succ hi) with h' | h'
      · exact cnt_zero (by simpa using h) i h'
      · rw [h']; exact hs
theorem cnt_upd {S : Nat → Bool} {j : Nat} (hs : S j = false) : ∀ {k}, j < k → cnt (upd S j) k + 1 = cnt S k
  | 0, h => absurd h (Nat.not_lt_zero _)
  | k + 1, h => by
    simp only [cnt]
    rcases Nat.lt_or_eq_of_le (Nat.le_of_lt_succ h) with h' | h'
    · rw [upd_ne S (by omega : k ≠ j)]
      have := cnt_upd hs h'
      omega
    · subst h'
      rw [upd_self, hs]
      have : ∀ n, n ≤ j → cnt (upd S j) n = cnt S n := fun n => by
        induction n with
        | zero => intro _; rfl
        | succ n ih => intro hn; simp only [cnt]; rw [upd_ne S (by omega), ih (by omega)]
      rw [this j (Nat.le_refl _)]
      simp; omega
end Tr

section
variable {Tb : Tab} {E : Env Tb} {N B : Nat}

theorem Sim.same {F : Foot} {β : Nat → Nat} {st st' : AS} {a : Act} {w : World} (s : Sim E N B F β st a w) (ht : ∀ t, get st'.tm t = get st.tm t) (hh : ∀ id, getB st'.h id = getB st.h id) : Sim E N B F β st' a w := by
  have hev : HEv w β st.h w β st'.h := ⟨fun id cs fz hb => ⟨⟨cs, fz, by rw [hh]; exact hb⟩, rfl⟩, fun id e k pr xs fz hb => ⟨pr, xs, fz, by rw [hh]; exact hb, Nat.le_refl _, fun _ => ⟨rfl, fun arr ha => ⟨arr, ha, rfl⟩⟩⟩⟩
  exact ⟨s.gi, ⟨fun id b hb => by rw [hh] at hb; exact BlkRep.of (fun _ _ h => ⟨h, rfl⟩) hev rfl rfl (fun _ h => h) (s.sh.blk id b hb), fun i j bi bj hi hj => by rw [hh] at hi hj; exact s.sh.inj i j bi bj hi hj, s.sh.fin, fun id b hb => by rw [hh] at hb; exact s.sh.lo id b hb, s.sh.glo⟩,
    fun t => by rw [ht]; exact Rep.mono (fun _ _ h => ⟨h, rfl⟩) hev _ _ (s.tm t), s.sz, s.df⟩

/-- Op j, at every state that is like st where it looks, does what the trace says. -/
def Does {Tb : Tab} (E : Env Tb) (r : Option Nat) (N B : Nat) (ops : Array Oper) (Q : Exit → Act → World → Prop) (R : Tr) (j : Nat) (st : AS) : Prop :=
  ∀ st2 : AS, (∀ t, t ∈ R.looks j → get st2.tm t = get st.tm t) → Agree (R.touch j) st.h st2.h → st2.h.length = st.h.length → (∀ id k v, R.ins j = some (id, k, v) → Tr.AbsZ k (getB st2.h id)) → ∀ (F : Foot) (β : Nat → Nat) (a : Act) (w : World) (K : Act → World → Prop), Sim E N B F β st2 a w →
    (∀ a' w' F' β', Sim E N B F' β' (R.eff j st2) a' w' → Evo st2.h.length w F β st2.h w' F' β' (R.eff j st2).h → K a' w') → wpOpIn (fw r) 0 E.P ops Q j K a w

theorem reorder {r : Option Nat} {ops : Array Oper} {Q : Exit → Act → World → Prop} {R : Tr} {Bf : Nat → Nat → Prop} {n : Nat} {w0 : World} {F0 : Foot} {β0 : Nat → Nat}
    (hw : ∀ i p, p ∈ R.wr i → p.1 ∈ R.wids i) (hwt : ∀ i id, id ∈ R.wids i → id ∈ R.touch i)
    (hap : ∀ i k, i < k → k < ops.size → Bf i k ∨ R.Apart i k)
    (hedge : ∀ (j : Nat) (o : Oper), ops[j]? = some o → ∀ e ∈ o.after, Region.binds .any e = true → e.on < j)
    (hB : ∀ (j : Nat) (o : Oper), ops[j]? = some o → ∀ S : Nat → Bool, (∀ (k : Nat) (ok : Oper), S k = true → ops[k]? = some ok → ∀ e ∈ ok.after, Region.binds .any e = true → S e.on = true) → (∀ e ∈ o.after, Region.binds .any e = true → S e.on = true) → ∀ i, Bf i j → S i = true)
    (hins : ∀ j id k v, j < ops.size → R.ins j = some (id, k, v) → Tr.AbsZ k (getB (R.replay (fun _ => true) j).h id))
    (hdoes : ∀ j, j < ops.size → Does E r N B ops Q R j (R.replay (fun _ => true) j))
    (hQ : ∀ a w F β, Sim E N B F β (R.replay (fun _ => true) ops.size) a w → Evo n w0 F0 β0 R.st0.h w F β (R.replay (fun _ => true) ops.size).h → Q .normal a w) :
    ∀ (fuel : Nat) (listed : Array Bool) (S : Nat → Bool) (F : Foot) (β : Nat → Nat) (a : Act) (w : World), listed.size = ops.size → (∀ i, i < ops.size → listed[i]? = some (S i)) →
      (∀ (k : Nat) (ok : Oper), S k = true → ops[k]? = some ok → ∀ e ∈ ok.after, Region.binds .any e = true → S e.on = true) → Tr.cnt S ops.size ≤ fuel →
      Sim E N B F β (R.replay S ops.size) a w → Evo n w0 F0 β0 R.st0.h w F β (R.replay S ops.size).h → wpAnyIn (fw r) 0 E.P .any ops Q fuel listed a w := by
  have hall : ∀ S : Nat → Bool, (∀ i, i < ops.size → S i = true) → R.replay S ops.size = R.replay (fun _ => true) ops.size := fun S hs => by
    have : ∀ k, k ≤ ops.size → R.replay S k = R.replay (fun _ => true) k := fun k => by
      induction k with
      | zero => intro _; rfl
      | succ k ih => intro hk; simp only [Tr.replay, hs k (by omega), ih (by omega)]
    exact this _ (Nat.le_refl _)
  have hready : ∀ (listed : Array Bool) (S : Nat → Bool) (j : Nat), listed.size = ops.size → (∀ i, i < ops.size → listed[i]? = some (S i)) → j ∈ Region.ready .any ops listed → j < ops.size ∧ S j = false ∧ ∃ o, ops[j]? = some o ∧ ∀ e ∈ o.after, Region.binds .any e = true → S e.on = true := fun listed S j hsz hl hj => by
    obtain ⟨h0, o, ho, hall⟩ := mem_ready.1 hj
    have hlt : j < ops.size := (Array.getElem?_eq_some_iff.1 ho).1
    refine ⟨hlt, ?_, o, ho, fun e he hb => ?_⟩
    · rw [Array.getD_eq_getD_getElem?, hl j hlt] at h0; exact h0
    · have h1 := hall e he hb
      have h2 : e.on < ops.size := Nat.lt_trans (hedge j o ho e he hb) hlt
      rw [Array.getD_eq_getD_getElem?, hl e.on h2] at h1; exact h1
  intro fuel
  induction fuel with
  | zero =>
    intro listed S F β a w hsz hl hcl hc s ev
    have hs := Tr.cnt_zero (Nat.le_zero.1 hc)
    refine ⟨?_, ?_⟩
    · cases hr : Region.ready .any ops listed with
      | nil => rfl
      | cons j r =>
        obtain ⟨h1, h2, _⟩ := hready listed S j hsz hl (by rw [hr]; exact List.mem_cons_self ..)
        rw [hs j h1] at h2; cases h2
    · rw [hall S hs] at s ev
      exact hQ a w F β s ev
  | succ fuel ih =>
    intro listed S F β a w hsz hl hcl hc s ev
    refine ⟨fun hr => ?_, fun j hj => ?_⟩
    · have hs : ∀ i, i < ops.size → S i = true := fun i => by
        induction i using Nat.strongRecOn with
        | _ i ihi =>
          intro hi
          cases hS : S i with
          | true => rfl
          | false =>
            have : i ∈ Region.ready .any ops listed := by
              rw [mem_ready]
              have ho : ops[i]? = some ops[i] := Array.getElem?_eq_getElem hi
              refine ⟨by rw [Array.getD_eq_getD_getElem?, hl i hi, hS]; rfl, _, ho, fun e he hb => ?_⟩
              have h2 := hedge i _ ho e he hb
              rw [Array.getD_eq_getD_getElem?, hl e.on (by omega), ihi e.on h2 (by omega)]; rfl
            rw [hr] at this; cases this
      rw [hall S hs] at s ev
      exact hQ a w F β s ev
    · obtain ⟨hlt, hS, o, ho, hpre⟩ := hready listed S j hsz hl hj
      have hin : ∀ i, Bf i j → S i = true := hB j o ho S hcl hpre
      have hout : ∀ i, i < ops.size → Bf j i → S i = false := fun i hi hb => by
        cases hSi : S i with
        | false => rfl
        | true =>
          have hoi : ops[i]? = some ops[i] := Array.getElem?_eq_getElem hi
          have := hB i _ hoi S hcl (hcl i _ hSi hoi) j hb
          rw [hS] at this; cases this
      obtain ⟨hl1, hl2⟩ := R.same_looks hw hwt hlt hS hap hin hout
      refine hdoes j hlt (R.replay S ops.size) hl1 hl2 (by rw [R.length_replay, R.length_replay]) (fun id k v hi => R.ins_ok hw hwt hlt hS hap hin hout hi (hins j id k v hlt hi)) F β a w _ s ?_
      intro a' w' F' β' s' ev'
      obtain ⟨hr1, hr2⟩ := R.replay_add hw hwt hlt hS hap hout
      refine ih (listed.setIfInBounds j true) (upd S j) F' β' a' w' (by simpa using hsz) (fun i hi => ?_) (fun k ok hk hok e he hb => ?_) (by have := Tr.cnt_upd hS hlt; omega) (s'.same hr1 hr2) ?_
      · by_cases hij : i = j
        · subst hij
          rw [upd_self, Array.getElem?_setIfInBounds_self_of_lt (by omega)]
        · rw [upd_ne S hij, Array.getElem?_setIfInBounds_ne (Ne.symm hij)]; exact hl i hi
      · have hup : ∀ x, S x = true → upd S j x = true := fun x hx => by
          by_cases hxj : x = j
          · subst hxj; exact upd_self _ _
          · rw [upd_ne S hxj]; exact hx
        by_cases hkj : k = j
        · subst hkj
          rw [ho] at hok; cases hok
          exact hup _ (hpre e he hb)
        · rw [upd_ne S hkj] at hk
          exact hup _ (hcl k ok hk hok e he hb)
      · exact Evo.sameR (Evo.trans ev (ev'.any n)) (fun id => (hr2 id).symm)
end
end Go.Px

set_option linter.unusedVariables false
set_option linter.unusedSimpArgs false
set_option linter.unnecessarySimpa false
namespace Go.Px
open Go

/-- What takes one value and no other. -/
def Sing (f : (PV → Prop) → Prop) : Prop := ∀ K, f K → ∃ v, K v ∧ ∀ K2 : PV → Prop, K2 v → f K2

/-- What looks at these blocks alone. -/
def Loc (T W : List Nat) (h : Hp) (V : Hp → (PV → Hp → Prop) → Prop) (K : PV → Hp → Prop) : Prop :=
  ∃ v wr, (∀ p, p ∈ wr → p.1 ∈ W) ∧ K v (app wr h) ∧ ∀ h2, Agree T h h2 → ∀ K2 : PV → Hp → Prop, K2 v (app wr h2) → V h2 K2

section
variable {Tb : Tab} {E : Env Tb} {T W : List Nat} {h : Hp} {K : PV → Hp → Prop}

theorem Sing.loc {f : (PV → Prop) → Prop} (sg : Sing f) (hk : f fun v => K v h) : Loc T W h (fun h2 K2 => f fun v => K2 v h2) K := by
  obtain ⟨v, h1, h2⟩ := sg _ hk
  exact ⟨v, [], fun p hp => (nomatch hp), h1, fun h2' _ K2 hk2 => h2 _ hk2⟩

theorem sing_part {ag : Bool} {size : Nat} {cs : List PV} {off : Nat} : Sing (partK ag size cs off) := fun K hk => by
  unfold partK at hk ⊢
  cases ag with
  | true =>
    simp only [cond_true] at hk ⊢
    cases hb : Nat.ble (off + size) cs.length with
    | true => rw [hb] at hk; exact ⟨_, hk, fun K2 h2 => h2⟩
    | false => rw [hb] at hk; exact hk.elim
  | false =>
    simp only [cond_false] at hk ⊢
    cases hc : cs[off]? with
    | some c => rw [hc] at hk; exact ⟨c, hk, fun K2 h2 => h2⟩
    | none => rw [hc] at hk; exact hk.elim

theorem sing_intOp {op : BinOp} {k : IntKind} {a b : Int} : Sing (intOpK op k a b) := fun K hk => by
  cases op <;> simp only [intOpK] at hk ⊢ <;>
    first
      | exact hk.elim
      | (obtain ⟨h0, z, hz, hk⟩ := hk; exact ⟨_, hk, fun K2 h2 => ⟨h0, z, hz, h2⟩⟩)
      | (obtain ⟨z, hz, hk⟩ := hk; exact ⟨_, hk, fun K2 h2 => ⟨z, hz, h2⟩⟩)
      | exact ⟨_, hk, fun K2 h2 => h2⟩

theorem sing_strOp {op : BinOp} {a b : List UInt8} : Sing (strOpK op a b) := fun K hk => by
  cases op <;> simp only [strOpK] at hk ⊢ <;>
    first
      | exact hk.elim
      | (obtain ⟨h0, hk⟩ := hk; exact ⟨_, hk, fun K2 h2 => ⟨h0, h2⟩⟩)
      | exact ⟨_, hk, fun K2 h2 => h2⟩

theorem sing_bin {op : BinOp} {t : TypeId} {xo yo : Operand} {x y : PV} (hn : isConstNilS yo = false) : Sing (binK E op t xo yo x y) := fun K hk => by
  unfold binK at hk ⊢
  generalize unkb x = x' at *
  generalize unkb y = y' at *
  split at hk
  · obtain ⟨h0, z, hz, hk⟩ := hk; exact ⟨_, hk, fun K2 h2 => ⟨h0, z, hz, h2⟩⟩
  · obtain ⟨h0, z, hz, hk⟩ := hk; exact ⟨_, hk, fun K2 h2 => ⟨h0, z, hz, h2⟩⟩
  · rename_i op k a k' b n1 n2
    cases hb : decide (k = k') with
    | false => rw [hb] at hk; exact hk.elim
    | true =>
      rw [hb] at hk
      obtain ⟨v, h1, h2⟩ := sing_intOp _ hk
      exact ⟨v, h1, fun K2 hk2 => h2 K2 hk2⟩
  · obtain ⟨v, h1, h2⟩ := sing_strOp _ hk
    exact ⟨v, h1, fun K2 hk2 => h2 K2 hk2⟩
  all_goals
    try (simp only [nilK, hn, cond_false] at hk; done)
  all_goals
    try simp only [cond_eq_ite] at hk ⊢
    repeat' (split at hk)
  all_goals first
    | exact hk.elim
    | exact ⟨_, hk, fun K2 h2 => by simp_all⟩

theorem sing_pick {c a b : PV} : Sing (pickK c a b) := fun K hk => by
  unfold pickK at hk ⊢
  repeat' (split at hk)
  all_goals first
    | exact hk.elim
    | exact ⟨_, hk, fun K2 h2 => by simp_all⟩
theorem sing_un {op : UnOp} {x : PV} : Sing (unK op x) := fun K hk => by
  unfold unK at hk ⊢
  repeat' (split at hk)
  · exact ⟨_, hk, fun K2 h2 => by simp_all⟩
  · obtain ⟨z, hz, hk⟩ := hk; exact ⟨_, hk, fun K2 h2 => by simp_all⟩
  · obtain ⟨z, hz, hk⟩ := hk; exact ⟨_, hk, fun K2 h2 => by simp_all⟩
  · exact hk.elim
theorem sing_conv {s d : TypeId} {x : PV} : Sing (convK E s d x) := fun K hk => by
  unfold convK at hk ⊢
  repeat' (split at hk)
  all_goals first
    | exact hk.elim
    | (obtain ⟨z, hz, hk⟩ := hk; exact ⟨_, hk, fun K2 h2 => by simp_all⟩)
    | exact ⟨_, hk, fun K2 h2 => by simp_all⟩
theorem sing_field {s : TypeId} {x : PV} {f : Nat} : Sing (fieldK E s x f) := fun K hk => by
  unfold fieldK at hk ⊢
  repeat' (split at hk)
  · obtain ⟨v, h1, h2⟩ := sing_part _ hk
    exact ⟨v, h1, fun K2 hk2 => by simp_all⟩
  all_goals exact hk.elim
theorem sing_index {t : TypeId} {x i : PV} : Sing (indexK E t x i) := fun K hk => by
  unfold indexK at hk ⊢
  repeat' (split at hk)
  · obtain ⟨b, hb, h0, hk⟩ := hk
    exact ⟨_, hk, fun K2 hk2 => by simp_all⟩
  all_goals exact hk.elim
theorem sing_extract {x : PV} {i : Nat} : Sing (extractK x i) := fun K hk => by
  unfold extractK at hk ⊢
  repeat' (split at hk)
  all_goals first
    | exact hk.elim
    | exact ⟨_, hk, fun K2 h2 => by simp_all⟩
theorem sing_len {t : TypeId} {x : PV} : Sing (lenK E t x) := fun K hk => by
  unfold lenK at hk ⊢
  repeat' (split at hk)
  all_goals first
    | exact hk.elim
    | exact ⟨_, hk, fun K2 h2 => by simp_all⟩
theorem sing_build {t : TypeId} {ps : List (Nat × PV)} : Sing (buildK E t ps) := fun K hk => by
  unfold buildK at hk ⊢
  repeat' (split at hk)
  all_goals first
    | exact hk.elim
    | exact ⟨_, hk, fun K2 h2 => by simp_all⟩

theorem nin {T : List Nat} : ∀ p : Nat × Option Blk, p ∈ ([] : List (Nat × Option Blk)) → p.1 ∈ T := fun p hp => (nomatch hp)
theorem one {T : List Nat} {id : Nat} {b : Option Blk} (h : id ∈ T) : ∀ p : Nat × Option Blk, p ∈ [(id, b)] → p.1 ∈ T := fun p hp => by
  simp at hp; subst hp; exact h

theorem loc_load {t : TypeId} {p : PV} (hT : ∀ id, id ∈ idTop p → id ∈ T) (hk : loadK E t p h K) : Loc T W h (fun h2 K2 => loadK E t p h2 K2) K := by
  unfold loadK at hk
  split at hk
  · exact hk.elim
  · rename_i i hi
    split at hk
    · rename_i id off
      split at hk
      · rename_i cs fz hb
        cases hnm : notMap cs with
        | false => rw [hnm] at hk; exact hk.elim
        | true =>
          rw [hnm] at hk
          simp only [cond_true] at hk
          obtain ⟨v, h1, h3⟩ := sing_part _ hk
          exact ⟨v, [], nin, h1, fun h2 ag K2 hk2 => by simp only [loadK, hi, ag id (hT id (by simp [idTop])), hb, hnm, cond_true]; exact h3 _ hk2⟩
      · exact hk.elim
    · rename_i id n j off
      split at hk
      · rename_i e k pr xs fz hb
        obtain ⟨hn, x, hx, hk⟩ := hk
        obtain ⟨v, h1, h3⟩ := sing_part _ hk
        exact ⟨v, [], nin, h1, fun h2 ag K2 hk2 => by simp only [loadK, hi, ag id (hT id (by simp [idTop])), hb]; exact ⟨hn, x, hx, h3 _ hk2⟩⟩
      · exact hk.elim
    · obtain ⟨v, h1, h3⟩ := sing_part _ hk
      exact ⟨v, [], nin, h1, fun h2 ag K2 hk2 => by simp only [loadK, hi]; exact h3 _ hk2⟩
    · split at hk
      · rename_i cs hg
        obtain ⟨v, h1, h3⟩ := sing_part _ hk
        exact ⟨v, [], nin, h1, fun h2 ag K2 hk2 => by simp only [loadK, hi, hg]; exact h3 _ hk2⟩
      · exact hk.elim
    · exact hk.elim

theorem loc_store {t : TypeId} {p v : PV} (hT : ∀ id, id ∈ idTop p → id ∈ T) (hW : ∀ id, id ∈ idTop p → id ∈ W) (hk : storeK E t p v h K) : Loc T W h (fun h2 K2 => storeK E t p v h2 K2) K := by
  unfold storeK at hk
  split at hk
  · exact hk.elim
  · rename_i i hi
    cases hc : (faith v && Nat.beq v.cells.length i.size && v.cells.all isCell) with
    | false => rw [hc] at hk; exact hk.elim
    | true =>
      rw [hc] at hk
      simp only [cond_true] at hk
      split at hk
      · rename_i id off
        split at hk
        · rename_i cs hb
          cases hle : (notMap cs && Nat.ble (off + i.size) cs.length) with
          | false => rw [hle] at hk; exact hk.elim
          | true =>
            rw [hle] at hk
            exact ⟨.undef, [(id, _)], one (hW id (by simp [idTop])), hk, fun h2 ag K2 hk2 => by simp only [storeK, hi, hc, cond_true, ag id (hT id (by simp [idTop])), hb, hle]; exact hk2⟩
        · exact hk.elim
      · rename_i id n j off
        split at hk
        · rename_i e k pr xs fz hb
          obtain ⟨hn, hf, x, hx, hl, hk⟩ := hk
          cases hp : (!pr || v.cells.all pureC) with
          | false => rw [hp] at hk; exact hk.elim
          | true =>
            rw [hp] at hk
            exact ⟨.undef, [(id, _)], one (hW id (by simp [idTop])), hk, fun h2 ag K2 hk2 => by simp only [storeK, hi, hc, cond_true, ag id (hT id (by simp [idTop])), hb]; exact ⟨hn, hf, x, hx, hl, by rw [hp]; exact hk2⟩⟩
        · exact hk.elim
      · exact hk.elim

theorem loc_nilCheck {x : PV} (hT : ∀ id, id ∈ idTop x → id ∈ T) (hk : nilCheckK x h fun v => K v h) : Loc T W h (fun h2 K2 => nilCheckK x h2 fun v => K2 v h2) K := by
  unfold nilCheckK at hk
  split at hk
  · rename_i id off
    split at hk
    · rename_i cs fz hb
      exact ⟨_, [], nin, hk, fun h2 ag K2 hk2 => by simp only [nilCheckK, ag id (hT id (by simp [idTop])), hb]; exact hk2⟩
    · exact hk.elim
  · rename_i id n j off
    split at hk
    · rename_i e k pr xs fz hb
      exact ⟨_, [], nin, hk.2, fun h2 ag K2 hk2 => by simp only [nilCheckK, ag id (hT id (by simp [idTop])), hb]; exact ⟨hk.1, hk2⟩⟩
    · exact hk.elim
  · exact ⟨_, [], nin, hk, fun h2 ag K2 hk2 => hk2⟩
  · exact ⟨_, [], nin, hk, fun h2 ag K2 hk2 => hk2⟩
  · exact ⟨_, [], nin, hk, fun h2 ag K2 hk2 => hk2⟩
  · exact hk.elim

theorem loc_faddr {s : TypeId} {x : PV} {f : Nat} (hT : ∀ id, id ∈ idTop x → id ∈ T) (hk : faddrK E s x f h K) : Loc T W h (fun h2 K2 => faddrK E s x f h2 K2) K := by
  unfold faddrK at hk
  split at hk
  · rename_i o size ag hf
    cases hc : Nat.ble 1 size with
    | false => rw [hc] at hk; exact hk.elim
    | true =>
      rw [hc] at hk
      simp only [cond_true] at hk
      split at hk
      · rename_i id off
        split at hk
        · rename_i cs fz hb
          exact ⟨_, [], nin, hk, fun h2 ag K2 hk2 => by simp only [faddrK, hf, hc, cond_true, ag id (hT id (by simp [idTop])), hb]; exact hk2⟩
        · exact hk.elim
      · rename_i id n j off
        split at hk
        · rename_i e k pr xs fz hb
          exact ⟨_, [], nin, hk.2, fun h2 ag K2 hk2 => by simp only [faddrK, hf, hc, cond_true, ag id (hT id (by simp [idTop])), hb]; exact ⟨hk.1, hk2⟩⟩
        · exact hk.elim
      · exact ⟨_, [], nin, hk, fun h2 ag K2 hk2 => by simp only [faddrK, hf, hc, cond_true]; exact hk2⟩
      · exact ⟨_, [], nin, hk, fun h2 ag K2 hk2 => by simp only [faddrK, hf, hc, cond_true]; exact hk2⟩
      · exact hk.elim
  · exact hk.elim

theorem loc_box {v : PV} {nid : Nat} (hT : nid ∈ W) (hk : boxK v h nid K) : Loc T W h (fun h2 K2 => boxK v h2 nid K2) K := by
  unfold boxK at hk
  cases hc : (faith v && v.cells.all isCell) with
  | false => rw [hc] at hk; exact hk.elim
  | true => rw [hc] at hk; exact ⟨_, [(nid, _)], one hT, hk, fun h2 ag K2 hk2 => by simp only [boxK, hc]; exact hk2⟩

theorem loc_iaddr {t : TypeId} {x i : PV} (hT : ∀ id, id ∈ idTop x → id ∈ T) (hk : iaddrK E t x i h K) : Loc T W h (fun h2 K2 => iaddrK E t x i h2 K2) K := by
  unfold iaddrK at hk
  split at hk
  · rename_i k0 i
    split at hk
    · rename_i xs
      split at hk
      · rename_i e size he
        obtain ⟨y, hy, h0, hl, hk⟩ := hk
        exact ⟨_, [], nin, hk, fun h2 ag K2 hk2 => by simp only [iaddrK, he]; exact ⟨y, hy, h0, hl, hk2⟩⟩
      · exact hk.elim
    · rename_i id n
      split at hk
      · rename_i e size he
        split at hk
        · rename_i e' k pr xs fz hb
          obtain ⟨hn, h0, h1, hk⟩ := hk
          cases hs : Nat.beq k size with
          | false => rw [hs] at hk; exact hk.elim
          | true =>
            rw [hs] at hk
            exact ⟨_, [], nin, hk, fun h2 ag K2 hk2 => by simp only [iaddrK, he, ag id (hT id (by simp [idTop])), hb]; exact ⟨hn, h0, h1, by rw [hs]; exact hk2⟩⟩
        · exact hk.elim
      · exact hk.elim
    · repeat' (split at hk)
      all_goals first
        | exact hk.elim
        | (obtain ⟨h0, h1, hk⟩ := hk; exact ⟨_, [], nin, hk, fun h2 ag K2 hk2 => by simp_all [iaddrK, app]⟩)
    · rename_i id off
      split at hk
      · rename_i ti hti
        split at hk
        · rename_i len e hu
          split at hk
          · rename_i ei hei
            split at hk
            · rename_i cs fz hb
              obtain ⟨h0, h1, hk⟩ := hk
              exact ⟨_, [], nin, hk, fun h2 ag K2 hk2 => by simp only [iaddrK, hti, hu, hei, ag id (hT id (by simp [idTop])), hb]; exact ⟨h0, h1, hk2⟩⟩
            · exact hk.elim
          · exact hk.elim
        · exact hk.elim
      · exact hk.elim
    · repeat' (split at hk)
      all_goals first
        | exact hk.elim
        | (obtain ⟨h0, h1, hk⟩ := hk; exact ⟨_, [], nin, hk, fun h2 ag K2 hk2 => by simp_all [iaddrK, app]⟩)
    · exact hk.elim
  · exact hk.elim

theorem loc_makeSlice {t : TypeId} {l c : PV} {nid : Nat} (hT : nid ∈ W) (hk : makeSliceK E t l c h nid K) : Loc T W h (fun h2 K2 => makeSliceK E t l c h2 nid K2) K := by
  unfold makeSliceK at hk
  split at hk
  · split at hk
    · rename_i e size he
      split at hk
      · rename_i ie hie
        cases hc : (Nat.ble 1 size && okE size (zeroE ie)) with
        | false => rw [hc] at hk; exact hk.elim
        | true =>
          rw [hc] at hk
          obtain ⟨h0, h1, h2, h3, hk⟩ := hk
          exact ⟨_, [(nid, _)], one hT, hk, fun h2' ag K2 hk2 => by simp only [makeSliceK, he, hie, hc]; exact ⟨h0, h1, h2, h3, hk2⟩⟩
      · exact hk.elim
    · exact hk.elim
  · exact hk.elim

theorem sing_bnd {o : Option PV} {d : Nat} {f : Nat → (PV → Prop) → Prop} (hf : ∀ n, Sing (f n)) : Sing (fun K => bndK o d fun n => f n K) := fun K hk => by
  unfold bndK at hk ⊢
  split at hk
  · exact hf _ K hk
  · obtain ⟨h0, hk⟩ := hk
    obtain ⟨v, h1, h2⟩ := hf _ K hk
    exact ⟨v, h1, fun K2 hk2 => ⟨h0, h2 K2 hk2⟩⟩
  · exact hk.elim
theorem sing_and {A : Prop} {f : (PV → Prop) → Prop} (hf : Sing f) : Sing (fun K => A ∧ f K) := fun K ⟨ha, hk⟩ => by
  obtain ⟨v, h1, h2⟩ := hf K hk
  exact ⟨v, h1, fun K2 hk2 => ⟨ha, h2 K2 hk2⟩⟩
theorem sing_it {v : PV} : Sing (fun K => K v) := fun K hk => ⟨v, hk, fun K2 hk2 => hk2⟩

theorem loc_slice {t : TypeId} {x : PV} {lo hi mx : Option PV} (hT : ∀ id, id ∈ idTop x → id ∈ T) (hW : ∀ id, id ∈ idTop x → id ∈ W) (hk : sliceK E t x lo hi mx h K) : Loc T W h (fun h2 K2 => sliceK E t x lo hi mx h2 K2) K := by
  unfold sliceK at hk
  split at hk
  · split at hk
    · rename_i l
      split at hk
      · rename_i i hi'
        split at hk
        · rename_i hu
          obtain ⟨v, h1, h2⟩ := (sing_bnd fun b => sing_bnd fun a => sing_and (A := b ≤ l.length) <| sing_and (A := a ≤ b) <| sing_it (v := .str ((l.take b).drop a))) (fun v => K v h) hk
          exact ⟨v, [], nin, h1, fun h2' ag K2 hk2 => by simp only [sliceK, hi', hu]; exact h2 (fun v => K2 v h2') hk2⟩
        · exact hk.elim
      · exact hk.elim
    · rename_i xs
      split at hk
      · rename_i e size he
        obtain ⟨v, h1, h2⟩ := (sing_and (A := ∀ x ∈ xs, x.cells.length = size) <| sing_bnd fun b => sing_bnd fun a => sing_and (A := b ≤ xs.length) <| sing_and (A := a ≤ b) <| sing_it (v := .sl ((xs.take b).drop a))) (fun v => K v h) hk
        exact ⟨v, [], nin, h1, fun h2' ag K2 hk2 => by simp only [sliceK, he]; exact h2 (fun v => K2 v h2') hk2⟩
      · exact hk.elim
    · rename_i id n
      split at hk
      · rename_i e size he
        split at hk
        · rename_i e' k xs fz hb
          obtain ⟨hn, hk⟩ := hk
          cases hs : Nat.beq k size with
          | false => rw [hs] at hk; exact hk.elim
          | true =>
            rw [hs] at hk
            simp only [cond_true] at hk
            obtain ⟨v, h1, h2⟩ := (sing_bnd fun b => sing_bnd fun a => sing_and (A := b ≤ xs.length) <| sing_and (A := a ≤ b) <| sing_it (v := .sl ((xs.take b).drop a))) (fun v => K v (setB h id (some (.row e' k true xs xs.length)))) hk
            exact ⟨v, [(id, _)], one (hW id (by simp [idTop])), h1, fun h2' ag K2 hk2 => by
              simp only [sliceK, he, ag id (hT id (by simp [idTop])), hb, hs, cond_true]
              exact ⟨hn, h2 (fun v => K2 v (setB h2' id (some (.row e' k true xs xs.length)))) hk2⟩⟩
        · exact hk.elim
      · exact hk.elim
    · split at hk
      · rename_i e size he
        obtain ⟨v, h1, h2⟩ := (sing_bnd fun b => sing_bnd fun a => sing_and (A := b ≤ 0) <| sing_and (A := a ≤ b) <| sing_it (v := .nils)) (fun v => K v h) hk
        exact ⟨v, [], nin, h1, fun h2' ag K2 hk2 => by simp only [sliceK, he]; exact h2 (fun v => K2 v h2') hk2⟩
      · exact hk.elim
    · rename_i id off
      split at hk
      · rename_i cs hcs
        have hag : ∀ h2, Agree T h h2 → arrCs E t off h2 id = some cs := fun h2 ag => by
          rw [← hcs]
          simp only [arrCs, ag id (hT id (by simp [idTop]))]
        obtain ⟨v, h1, h2⟩ := (sing_bnd fun b => sing_bnd fun a => sing_and (A := b ≤ cs.length) <| sing_and (A := a ≤ b) <| sing_it (v := .sl ((cs.take b).drop a))) (fun v => K v (setB h id (some (.box cs true)))) hk
        exact ⟨v, [(id, _)], one (hW id (by simp [idTop])), h1, fun h2' ag K2 hk2 => by
          simp only [sliceK, hag h2' ag]
          exact h2 (fun v => K2 v (setB h2' id (some (.box cs true)))) hk2⟩
      · exact hk.elim
    · exact hk.elim
  · split at hk
    · rename_i e he
      split at hk
      all_goals first
        | exact hk.elim
        | exact ⟨_, [], nin, hk, fun h2' ag K2 hk2 => by simp only [sliceK, he]; exact hk2⟩
    · exact hk.elim
  · exact hk.elim

theorem src_loc {size : Nat} {x : PV} {P : List PV → Prop} (hT : ∀ id, id ∈ idTop x → id ∈ T) (hk : srcK size x h P) : ∃ ys, P ys ∧ ∀ h2, Agree T h h2 → ∀ P2 : List PV → Prop, P2 ys → srcK size x h2 P2 := by
  unfold srcK at hk
  split at hk
  · rename_i id m
    split at hk
    · rename_i e k xs fz hb
      obtain ⟨hn, hk⟩ := hk
      cases hs : Nat.beq k size with
      | false => rw [hs] at hk; exact hk.elim
      | true =>
        rw [hs] at hk
        exact ⟨xs, hk, fun h2 ag P2 hp => by simp only [srcK, ag id (hT id (by simp [idTop])), hb]; exact ⟨hn, by rw [hs]; exact hp⟩⟩
    · exact hk.elim
  · exact ⟨_, hk.2, fun h2 ag P2 hp => ⟨hk.1, hp⟩⟩
  · exact ⟨_, hk, fun h2 ag P2 hp => hp⟩
  · exact hk.elim

theorem loc_append {t : TypeId} {s x : PV} {nid : Nat} (hT : ∀ id, id ∈ idTop x → id ∈ T) (hT' : ∀ id, id ∈ idTop s → id ∈ T) (hW : ∀ id, id ∈ idTop s → id ∈ W) (hN : nid ∈ W) (hk : appendK E t s x h nid K) : Loc T W h (fun h2 K2 => appendK E t s x h2 nid K2) K := by
  unfold appendK at hk
  split at hk
  · rename_i e size he
    split at hk
    · rename_i ie hie
      cases hc : (Nat.ble 1 size && Nat.ble 1 ie.bytes) with
      | false => rw [hc] at hk; exact hk.elim
      | true =>
        rw [hc] at hk
        simp only [cond_true] at hk
        obtain ⟨ys, hk, hs⟩ := src_loc hT hk
        split at hk
        · cases ys with
          | nil => exact ⟨_, [], nin, hk, fun h2 ag K2 hk2 => by simp only [appendK, he, hie, hc, cond_true]; exact hs h2 ag _ hk2⟩
          | cons y ys => exact ⟨_, [(nid, _)], one hN, hk.2, fun h2 ag K2 hk2 => by simp only [appendK, he, hie, hc, cond_true]; exact hs h2 ag _ ⟨hk.1, hk2⟩⟩
        · rename_i id n hk0
          split at hk
          · rename_i e' k xs fz hb
            obtain ⟨hn, hk⟩ := hk
            cases hq : (Nat.beq e' e && Nat.beq k size) with
            | false => rw [hq] at hk; exact hk.elim
            | true =>
              rw [hq] at hk
              exact ⟨_, [(id, _)], one (hW id (by simp [idTop])), hk.2, fun h2 ag K2 hk2 => by
                simp only [appendK, he, hie, hc, cond_true]
                refine hs h2 ag _ ?_
                show (match getB h2 id with | some (.row e' k true xs fz) => _ | _ => False)
                rw [ag id (hT' id (by simp [idTop])), hb]
                exact ⟨hn, by rw [hq]; exact ⟨hk.1, hk2⟩⟩⟩
          · exact hk.elim
        · exact hk.elim
    · exact hk.elim
  · exact hk.elim

theorem loc_makeMap {t : TypeId} {r : Option PV} {nid : Nat} (hN : nid ∈ W) (hk : makeMapK E t r h nid K) : Loc T W h (fun h2 K2 => makeMapK E t r h2 nid K2) K := by
  unfold makeMapK at hk
  split at hk
  · exact ⟨_, [(nid, _)], one hN, hk, fun h2 ag K2 hk2 => hk2⟩
  · split at hk
    · rename_i ti hti
      split at hk
      · rename_i hu
        exact ⟨_, [(nid, _)], one hN, hk, fun h2 ag K2 hk2 => by simp only [makeMapK, hti, hu]; exact hk2⟩
      · exact hk.elim
    · exact hk.elim
  · exact hk.elim
theorem loc_lookup {t : TypeId} {x key : PV} {ok : Bool} (hT : ∀ id, id ∈ idTop x → id ∈ T) (hk : lookupK E t x key ok h K) : Loc T W h (fun h2 K2 => lookupK E t x key ok h2 K2) K := by
  unfold lookupK at hk
  split at hk
  · rename_i ti hti
    split at hk
    · rename_i kt et hu
      split at hk
      · rename_i ik ie hik hie
        cases hkk : keyKind ik.und key with
        | false => rw [hkk] at hk; exact hk.elim
        | true =>
          rw [hkk] at hk
          simp only [cond_true] at hk
          split at hk
          · rename_i id
            split at hk
            · rename_i ks vs fz hb
              obtain ⟨r, hm, hk⟩ := hk
              cases r with
              | some i =>
                obtain ⟨v, hv, hk⟩ := hk
                exact ⟨_, [], nin, hk, fun h2 ag K2 hk2 => by simp only [lookupK, hti, hu, hik, hie, hkk, cond_true, ag id (hT id (by simp [idTop])), hb]; exact ⟨some i, hm, v, hv, hk2⟩⟩
              | none => exact ⟨_, [], nin, hk, fun h2 ag K2 hk2 => by simp only [lookupK, hti, hu, hik, hie, hkk, cond_true, ag id (hT id (by simp [idTop])), hb]; exact ⟨none, hm, hk2⟩⟩
            · exact hk.elim
          · exact hk.elim
      · exact hk.elim
    · exact hk.elim
  · exact hk.elim
theorem loc_mapUpdate {t : TypeId} {x key v : PV} (hT : ∀ id, id ∈ idTop x → id ∈ T) (hW : ∀ id, id ∈ idTop x → id ∈ W) (hk : mapUpdateK E t x key v h K) : Loc T W h (fun h2 K2 => mapUpdateK E t x key v h2 K2) K := by
  unfold mapUpdateK at hk
  split at hk
  · rename_i ti hti
    split at hk
    · rename_i kt et hu
      split at hk
      · rename_i ik hik
        cases hkk : keyKind ik.und key with
        | false => rw [hkk] at hk; exact hk.elim
        | true =>
          rw [hkk] at hk
          simp only [cond_true] at hk
          split at hk
          · rename_i id
            split at hk
            · rename_i ks vs fz hb
              obtain ⟨r, hm, hk⟩ := hk
              cases r with
              | some i => exact ⟨_, [(id, _)], one (hW id (by simp [idTop])), hk, fun h2 ag K2 hk2 => by simp only [mapUpdateK, hti, hu, hik, hkk, cond_true, ag id (hT id (by simp [idTop])), hb]; exact ⟨some i, hm, hk2⟩⟩
              | none => exact ⟨_, [(id, _)], one (hW id (by simp [idTop])), hk, fun h2 ag K2 hk2 => by simp only [mapUpdateK, hti, hu, hik, hkk, cond_true, ag id (hT id (by simp [idTop])), hb]; exact ⟨none, hm, hk2⟩⟩
            · exact hk.elim
          · exact hk.elim
      · exact hk.elim
    · exact hk.elim
  · exact hk.elim
end
end Go.Px

set_option linter.unusedVariables false
set_option linter.unusedSimpArgs false
set_option linter.unnecessarySimpa false
namespace Go.Px
open Go

theorem fzL_eq {f : Hp → PV → (PV → Hp → Prop) → Prop} {p : PV → Bool} (hf : ∀ h v K, p v = true → f h v K = K v h) : ∀ (xs : List PV) (h : Hp) (K : List PV → Hp → Prop), xs.all p = true → fzLK f h xs K = K xs h
  | [], h, K, _ => rfl
  | x :: xs, h, K, hp => by
    simp only [List.all_cons, Bool.and_eq_true] at hp
    simp only [fzLK]
    rw [hf h x _ hp.1, fzL_eq hf xs h _ hp.2]
theorem fz_eq : ∀ (d : Nat) (h : Hp) (v : PV) (K : PV → Hp → Prop), pureN d v = true → fzK d h v K = K v h
  | 0, h, v, K, hp => by simp [pureN] at hp
  | d + 1, h, v, K, hp => by
    have ih := fz_eq d
    cases v with
    | agg cs => exact fzL_eq ih _ h _ hp
    | tup cs => exact fzL_eq ih _ h _ hp
    | fn g a b =>
      simp only [pureN, Bool.and_eq_true] at hp
      simp only [fzK]
      rw [fzL_eq ih _ h _ hp.1, fzL_eq ih _ h _ hp.2]
    | own _ _ => exact absurd hp (by simp [pureN])
    | ptr _ _ => exact absurd hp (by simp [pureN])
    | rp _ _ _ _ => exact absurd hp (by simp [pureN])
    | fresh _ _ => exact absurd hp (by simp [pureN])
    | mapo _ => exact absurd hp (by simp [pureN])
    | mapp _ _ => exact absurd hp (by simp [pureN])
    | yl _ => exact absurd hp (by simp [pureN])
    | itp _ _ => exact absurd hp (by simp [pureN])
    | loopp _ _ _ _ _ => exact absurd hp (by simp [pureN])
    | _ => rfl

section
variable {Tb : Tab} {E : Env Tb} {T W : List Nat} {h : Hp} {K : PV → Hp → Prop}

theorem loc_call {g : FuncId} {args : List PV} {nid : Nat} (hN : nid ∈ W) (hk : callD E g args h nid K) : Loc T W h (fun h2 K2 => callK E g args h2 nid K2) K := by
  unfold callD at hk
  cases hp : args.all (pureN 6) with
  | false => rw [hp] at hk; exact hk.elim
  | true =>
    rw [hp] at hk
    simp only [cond_true] at hk
    cases hc : E.fok g with
    | true =>
      rw [hc] at hk
      simp only [cond_true] at hk
      rcases hk with ⟨r, ha, hk⟩ | ⟨e, k, xs, ha, hk⟩
      · exact ⟨r, [], nin, hk, fun h2 ag K2 hk2 => by simp only [callK, hc, cond_true]; exact .inl (by rw [fzL_eq (fz_eq 6) _ h2 _ hp]; exact ⟨r, ha, hk2⟩)⟩
      · exact ⟨_, [(nid, _)], one hN, hk, fun h2 ag K2 hk2 => by simp only [callK, hc, cond_true]; exact .inr (.inl (by rw [fzL_eq (fz_eq 6) _ h2 _ hp]; exact ⟨e, k, xs, ha, hk2⟩))⟩
    | false =>
      rw [hc] at hk
      simp only [cond_false] at hk
      obtain ⟨r, ha, hk⟩ := hk
      exact ⟨r, [], nin, hk, fun h2 ag K2 hk2 => by simp only [callK, hc, cond_false]; rw [fzL_eq (fz_eq 6) _ h2 _ hp]; exact ⟨r, ha, hk2⟩⟩

theorem loc_buildSlice {t : TypeId} {len : Nat} {ps : List (Nat × PV)} {nid : Nat} (hN : nid ∈ W) (hp : ((ps.map (·.2)).all (pureN 6) || (ps.map (·.2)).any hasPtr) = true) (hk : buildSliceK E t len ps h nid K) : Loc T W h (fun h2 K2 => buildSliceK E t len ps h2 nid K2) K := by
  unfold buildSliceK at hk
  split at hk
  · rename_i e size he
    cases hc : (inOrder 0 ps && Nat.beq ps.length len && Nat.ble 1 size && Nat.ble (len * size) 16777216) with
    | false => rw [hc] at hk; exact hk.elim
    | true =>
      rw [hc] at hk
      simp only [cond_true] at hk
      cases ha : (ps.map (·.2)).any hasPtr with
      | true =>
        rw [ha] at hk
        simp only [cond_true] at hk
        cases hb : (ps.map (·.2)).all (okE size) with
        | false => rw [hb] at hk; exact hk.elim
        | true => rw [hb] at hk; exact ⟨_, [(nid, _)], one hN, hk, fun h2 ag K2 hk2 => by simp only [buildSliceK, he, hc, ha, hb, cond_true]; exact hk2⟩
      | false =>
        rw [ha] at hk hp
        simp only [Bool.or_false] at hp
        simp only [cond_false] at hk
        rw [fzL_eq (fz_eq 6) _ h _ hp] at hk
        cases hb : (ps.map (·.2)).all (okE size) with
        | false => rw [hb] at hk; exact hk.elim
        | true =>
          rw [hb] at hk
          exact ⟨_, [(nid, _)], one hN, hk, fun h2 ag K2 hk2 => by
            simp only [buildSliceK, he, hc, ha, cond_true, cond_false]
            rw [fzL_eq (fz_eq 6) _ h2 _ hp, hb]; exact hk2⟩
  · exact hk.elim

theorem loc_val {op : Op} {arg : Operand → PV} {nid : Nat} (hT : ∀ id, id ∈ touch op arg nid → id ∈ T) (hW : ∀ id, id ∈ wids op arg nid → id ∈ W) (hk : vcValD E op arg h nid K) : Loc T W h (fun h2 K2 => vcVal E op arg h2 nid K2) K := by
  have hR : ∀ x, x ∈ reads op → ∀ id, id ∈ idTop (arg x) → id ∈ T := fun x hx id hid => hT _ (by simp only [touch, List.mem_cons, List.mem_flatMap]; exact .inr ⟨x, hx, hid⟩)
  cases op <;> simp only [vcValD, vcVal] at hk ⊢ <;> try exact hk.elim
  case move x => exact ⟨_, [], nin, hk, fun h2 _ K2 hk2 => hk2⟩
  case assign x => exact ⟨_, [], nin, hk, fun h2 _ K2 hk2 => hk2⟩
  case pick c a b => exact sing_pick.loc hk
  case alloc t =>
    cases ht : E.ty t with
    | none => rw [ht] at hk; exact hk.elim
    | some i => rw [ht] at hk; exact ⟨_, [(nid, _)], one (hW _ (by simp [wids])), hk, fun h2 _ K2 hk2 => hk2⟩
  case box t x => exact loc_box (hW _ (by simp [wids])) hk
  case build t parts => exact sing_build.loc hk
  case buildSlice t len parts =>
    cases hp : ((parts.toList.map fun p => unkb (arg p.2)).all (pureN 6) || (parts.toList.map fun p => unkb (arg p.2)).any hasPtr) with
    | false => rw [hp] at hk; exact hk.elim
    | true =>
      rw [hp] at hk
      refine loc_buildSlice (hW _ (by simp [wids])) ?_ hk
      rw [← hp]
      simp only [List.map_map]
      rfl
  case makeMap t r => exact loc_makeMap (hW _ (by simp [wids])) hk
  case lookup t x ix ok => exact loc_lookup (hR x (by simp [reads])) hk
  case mapUpdate t m k x => exact loc_mapUpdate (hR m (by simp [reads])) (fun id h => hW id h) hk
  case insert t m k x => exact loc_mapUpdate (hR m (by simp [reads])) (fun id h => hW id h) hk
  case load t a => exact loc_load (hR a (by simp [reads])) hk
  case store t a v => exact loc_store (hR a (by simp [reads])) (fun id h => hW id h) hk
  case nilCheck x => exact loc_nilCheck (hR x (by simp [reads])) hk
  case binOp op t x y z =>
    cases hp : isConstNilS y with
    | true => rw [hp] at hk; exact hk.elim
    | false => rw [hp] at hk; exact (sing_bin hp).loc hk
  case unOp op t x => exact sing_un.loc hk
  case convert s d x => exact sing_conv.loc hk
  case makeFunc fn first cap => exact ⟨_, [], nin, hk, fun h2 _ K2 hk2 => hk2⟩
  case makeSlice t l c => exact loc_makeSlice (hW _ (by simp [wids])) hk
  case slice t x lo hi mx => exact loc_slice (hR x (by simp [reads])) (fun id h => hW id h) hk
  case fieldAddr s x f => exact loc_faddr (hR x (by simp [reads])) hk
  case field s x f => exact sing_field.loc hk
  case indexAddr t x i => exact loc_iaddr (hR x (by simp [reads])) hk
  case index t x i => exact sing_index.loc hk
  case extract x i => exact sing_extract.loc hk
  case call c =>
    cases hcal : c.callee with
    | value fo =>
      rw [hcal] at hk
      simp only at hk
      split at hk
      · rename_i g first cap hf
        obtain ⟨v, wr, h1, h2, h3⟩ := loc_call (hW _ (by simp [wids])) hk
        exact ⟨v, wr, h1, h2, fun h2' ag K2 hk2 => by simp only [callOpK, hcal, hf]; exact h3 h2' ag K2 hk2⟩
      · exact hk.elim
    | invoke r m => rw [hcal] at hk; exact hk.elim
    | builtin b =>
      rw [hcal] at hk
      simp only [callOpK, hcal] at hk
      cases b <;> simp only at hk <;> try exact hk.elim
      case len =>
        split at hk
        · rename_i x t h1 h2
          obtain ⟨v, wr, h3, h4, h5⟩ := (sing_len (E := E)).loc hk
          exact ⟨v, wr, h3, h4, fun h2' ag K2 hk2 => by simp only [callOpK, hcal, h1, h2]; exact h5 h2' ag K2 hk2⟩
        · exact hk.elim
      case append =>
        split at hk
        · rename_i s x t t' h1 h2
          cases hb : Nat.beq t t' with
          | false => rw [hb] at hk; exact hk.elim
          | true =>
            rw [hb] at hk
            obtain ⟨v, wr, h3, h4, h5⟩ := loc_append (hR x (by simp [reads, h1])) (hR s (by simp [reads, h1])) (fun id h => hW id (by simp only [wids, h1, List.mem_cons, List.mem_flatMap]; exact .inr ⟨s, .inl rfl, h⟩)) (hW _ (by simp [wids])) hk
            exact ⟨v, wr, h3, h4, fun h2' ag K2 hk2 => by simp only [callOpK, hcal, h1, h2, hb, cond_true]; exact h5 h2' ag K2 hk2⟩
        · exact hk.elim
      case max =>
        split at hk
        · rename_i x y h1
          split at hk
          · rename_i h2 h3
            exact ⟨_, [], nin, hk, fun h2' ag K2 hk2 => by simp only [callOpK, hcal, h1, h2, h3]; exact hk2⟩
          · exact hk.elim
        · exact hk.elim
      case min =>
        split at hk
        · rename_i x y h1
          split at hk
          · rename_i h2 h3
            exact ⟨_, [], nin, hk, fun h2' ag K2 hk2 => by simp only [callOpK, hcal, h1, h2, h3]; exact hk2⟩
          · exact hk.elim
        · exact hk.elim
end
end Go.Px

set_option linter.unusedVariables false
set_option linter.unusedSimpArgs false
set_option linter.unnecessarySimpa false
namespace Go.Px
open Go

theorem MapEq.trans {a1 a2 b1 b2 c1 c2 : List PV} (m : MapEq a1 a2 b1 b2) (n : MapEq b1 b2 c1 c2) : MapEq a1 a2 c1 c2 := by
  refine ⟨m.1, n.2.1, fun key r hr => ?_⟩
  obtain ⟨r1, h1, h2, h3⟩ := m.2.2 key r hr
  obtain ⟨r2, h4, h5, h6⟩ := n.2.2 key r1 h1
  refine ⟨r2, h4, fun e => h5 (h2 e), fun i hi => ?_⟩
  obtain ⟨i1, rfl, h7⟩ := h3 i hi
  obtain ⟨i2, rfl, h8⟩ := h6 i1 rfl
  exact ⟨i2, rfl, h8.trans h7⟩

theorem midx_cons_false {q x : PV} {l : List PV} (h : keyEq q x = some false) : midx q (x :: l) 0 = (midx q l 0).map fun r => r.map (· + 1) := by
  simp only [midx, h]
  exact midx_shift q l 0 1
theorem midx_cons_true {q x : PV} {l : List PV} (h : keyEq q x = some true) : midx q (x :: l) 0 = some (some 0) := by simp only [midx, h]
theorem midx_cons_none {q x : PV} {l : List PV} (h : keyEq q x = none) : midx q (x :: l) 0 = none := by simp only [midx, h]

/-- An entry laid at its place answers as one laid behind. -/
theorem ins_midx {k v q : PV} : ∀ (l : List (PV × PV)) (r : Option Nat), (∀ x ∈ l.map (·.1), keyEq k x = some false) → midx q ((insP k v l).map (·.1)) 0 = some r →
    ∃ r', midx q (l.map (·.1) ++ [k]) 0 = some r' ∧ (r = none → r' = none) ∧ ∀ i, r = some i → ∃ i', r' = some i' ∧ (l.map (·.2) ++ [v])[i']? = ((insP k v l).map (·.2))[i]?
  | [], r, _, hr => ⟨r, hr, fun e => e, fun i hi => ⟨i, hi, rfl⟩⟩
  | x :: l, r, ha, hr => by
    simp only [insP] at hr ⊢
    cases hb : Nat.blt (codeP k) (codeP x.1) with
    | true =>
      simp only [hb, cond_true, List.map_cons] at hr ⊢
      cases hq : keyEq q k with
      | none => rw [midx_cons_none hq] at hr; cases hr
      | some b =>
        cases b with
        | true =>
          rw [midx_cons_true hq] at hr
          injection hr with hr
          subst hr
          have hqk := keyEq_true hq
          subst hqk
          have hnone : midx q (x.1 :: l.map (·.1)) 0 = some none := by
            have := (Tr.absent_spec (key := q) (b := some (.box [.mapp ((x :: l).map (·.1)) []] false))).2 ⟨_, _, _, rfl, ha⟩
            simp only [absent] at this
            split at this
            · rename_i h; exact h
            · cases this
          have := midx_append_new (x := q) hnone
          rw [hq] at this
          refine ⟨_, this, fun e => (nomatch e), fun i hi => ?_⟩
          cases hi
          exact ⟨_, rfl, by simp⟩
        | false =>
          rw [midx_cons_false hq] at hr
          obtain ⟨r1, h1, rfl⟩ := Option.map_eq_some_iff.1 hr
          cases r1 with
          | none =>
            have := midx_append_new (x := k) h1
            rw [hq] at this
            exact ⟨none, this, fun _ => rfl, fun i hi => (nomatch hi)⟩
          | some i1 =>
            have hlt := (List.getElem?_eq_some_iff.1 (midx_some h1)).1
            refine ⟨some i1, midx_append_old h1, fun e => (nomatch e), fun i hi => ?_⟩
            simp only [Option.map_some, Option.some.injEq] at hi
            subst hi
            refine ⟨i1, rfl, ?_⟩
            simp only [List.length_cons, List.length_map] at hlt
            rw [List.getElem?_append_left (by simpa using hlt)]
            simp
    | false =>
      simp only [hb, cond_false, List.map_cons, List.cons_append] at hr ⊢
      cases hq : keyEq q x.1 with
      | none => rw [midx_cons_none hq] at hr; cases hr
      | some b =>
        cases b with
        | true =>
          rw [midx_cons_true hq] at hr ⊢
          exact ⟨some 0, rfl, fun e => (by rw [e] at hr; cases hr), fun i hi => ⟨0, rfl, by rw [hi] at hr; injection hr with hr; injection hr with hr; subst hr; simp⟩⟩
        | false =>
          rw [midx_cons_false hq] at hr ⊢
          obtain ⟨r1, h1, rfl⟩ := Option.map_eq_some_iff.1 hr
          obtain ⟨r2, h2, h3, h4⟩ := ins_midx l r1 (fun y hy => ha y (List.mem_cons_of_mem _ hy)) h1
          refine ⟨r2.map (· + 1), by rw [h2]; rfl, fun e => ?_, fun i hi => ?_⟩
          · cases r1 with
            | none => rw [h3 rfl]; rfl
            | some _ => cases e
          · cases r1 with
            | none => cases hi
            | some i1 =>
              obtain ⟨i2, rfl, h5⟩ := h4 i1 rfl
              simp only [Option.map_some, Option.some.injEq] at hi
              subst hi
              exact ⟨i2 + 1, rfl, by simpa using h5⟩

theorem MapEq.ins {ks vs : List PV} {k v : PV} (hl : ks.length = vs.length) (ha : ∀ x ∈ ks, keyEq k x = some false) : MapEq ((insP k v (ks.zip vs)).map (·.1)) ((insP k v (ks.zip vs)).map (·.2)) (ks ++ [k]) (vs ++ [v]) := by
  have h1 : (ks.zip vs).map (·.1) = ks := List.map_fst_zip (by omega)
  have h2 : (ks.zip vs).map (·.2) = vs := List.map_snd_zip (by omega)
  refine ⟨by simp, by simp [hl], fun q r hr => ?_⟩
  have := ins_midx (ks.zip vs) r (by rw [h1]; exact ha) hr
  rwa [h1, h2] at this

/-- Alike but for maps that answer alike. -/
def HMap (h3 h4 : Hp) : Prop :=
  ∀ id, getB h4 id = getB h3 id ∨ ∃ ks vs ks' vs' fz, getB h3 id = some (.box [.mapp ks vs] fz) ∧ getB h4 id = some (.box [.mapp ks' vs'] fz) ∧ MapEq ks' vs' ks vs
theorem HMap.refl (h : Hp) : HMap h h := fun _ => .inl rfl

section
variable {w : World} {F : Foot} {β : Nat → Nat} {h3 h4 : Hp}
theorem HMap.back (m : HMap h3 h4) {id : Nat} {b : Blk} (hb : getB h4 id = some b) : ∃ b0, getB h3 id = some b0 := by
  rcases m id with h | ⟨ks, vs, ks', vs', fz, h, _⟩
  · exact ⟨b, by rw [← h]; exact hb⟩
  · exact ⟨_, h⟩
theorem HMap.hev (m : HMap h3 h4) : HEv w β h3 w β h4 := by
  refine ⟨fun id cs fz hb => ⟨?_, rfl⟩, fun id e k pr xs fz hb => ?_⟩
  · rcases m id with h | ⟨ks, vs, ks', vs', fz', h, h', _⟩
    · exact ⟨cs, fz, by rw [h]; exact hb⟩
    · exact ⟨_, _, h'⟩
  · rcases m id with h | ⟨ks, vs, ks', vs', fz', h, _⟩
    · exact ⟨pr, xs, fz, by rw [h]; exact hb, Nat.le_refl _, fun _ => ⟨rfl, fun arr ha => ⟨arr, ha, rfl⟩⟩⟩
    · rw [hb] at h; cases h
theorem HMap.simH {G : Nat} (m : HMap h3 h4) (hs : SimH G w F β h3) : SimH G w F β h4 := by
  refine ⟨fun id b hb => ?_, fun i j bi bj hi hj he => ?_, hs.fin, fun id b hb => ?_, hs.glo⟩
  · rcases m id with h | ⟨ks, vs, ks', vs', fz, h, h', hm⟩
    · rw [h] at hb
      exact BlkRep.of (fun _ _ h => ⟨h, rfl⟩) m.hev rfl rfl (fun _ h => h) (hs.blk id b hb)
    · rw [h'] at hb
      injection hb with hb
      subst hb
      rcases hs.blk id _ h with ⟨hnm, _⟩ | ⟨x, hx, ho, hF⟩
      · simp [notMap] at hnm
      · injection hx with hx _
        subst hx
        obtain ⟨k0, v0, es, c, hme, he, hr1, hr2⟩ := ho
        exact .inr ⟨_, rfl, ⟨k0, v0, es, c, hm.trans hme, he, ReL.mono (fun _ _ h => ⟨h, rfl⟩) m.hev _ _ hr1, ReL.mono (fun _ _ h => ⟨h, rfl⟩) m.hev _ _ hr2⟩, hF⟩
  · obtain ⟨b1, g1⟩ := m.back hi
    obtain ⟨b2, g2⟩ := m.back hj
    exact hs.inj i j _ _ g1 g2 he
  · obtain ⟨b1, g1⟩ := m.back hb
    exact hs.lo _ _ g1
theorem HMap.evo {n : Nat} {w0 : World} {F0 : Foot} {β0 : Nat → Nat} {h0 : Hp} (m : HMap h3 h4) (e : Evo n w0 F0 β0 h0 w F β h3) : Evo n w0 F0 β0 h0 w F β h4 := by
  refine ⟨e.size, e.keep, e.tape, e.os, e.output, e.cell, e.org, fun b ⟨id, blk, h1, h2⟩ => ?_, fun id cs fz hi hb => ?_, fun id el k pr xs fz hi hb => ?_⟩
  · obtain ⟨b0, g0⟩ := m.back h1
    exact e.own b ⟨id, b0, g0, h2⟩
  · obtain ⟨⟨cs', fz', h1⟩, h2⟩ := e.box id cs fz hi hb
    exact ⟨((m.hev (w := w) (β := β)).box id cs' fz' h1).1, h2⟩
  · obtain ⟨pr', xs', fz', h1, h2⟩ := e.row id el k pr xs fz hi hb
    rcases m id with h | ⟨ks, vs, ks', vs', fz', h, _⟩
    · exact ⟨pr', xs', fz', by rw [h]; exact h1, h2⟩
    · rw [h1] at h; cases h
end
end Go.Px
