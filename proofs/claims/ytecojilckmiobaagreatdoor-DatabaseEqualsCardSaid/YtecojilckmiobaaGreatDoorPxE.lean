/- Shows closed calls by evaluation; no condition. -/
import Derived.Test.YtecojilckmiobaaGreatDoorPxD
import Derived.Test.YtecojilckmiobaaGreatDoorPxC
set_option linter.unusedVariables false
set_option linter.unusedSimpArgs false
set_option linter.unnecessarySimpa false
namespace Go.Px
open Go

/-! ### The operations, reckoned -/
def okIf {α : Type} (b : Bool) (v : Option α) : Option α := bif b then v else none
theorem okIf_some {α : Type} {b : Bool} {v : Option α} {r : α} (h : okIf b v = some r) : b = true ∧ v = some r := by
  cases b with
  | true => exact ⟨rfl, h⟩
  | false => cases h

def xPart (ag : Bool) (size : Nat) (cs : List PV) (off : Nat) : Option PV :=
  bif ag then (bif Nat.ble (off + size) cs.length then some (.agg ((cs.drop off).take size)) else none) else cs[off]?
theorem part_of {ag : Bool} {size : Nat} {cs : List PV} {off : Nat} {v : PV} {K : PV → Prop} (h : xPart ag size cs off = some v) (hk : K v) : partK ag size cs off K := by
  unfold xPart at h
  unfold partK
  cases ag with
  | true =>
    simp only [cond_true] at h ⊢
    cases hb : Nat.ble (off + size) cs.length with
    | true => rw [hb] at h; simp only [cond_true, Option.some.injEq] at h ⊢; subst h; exact hk
    | false => rw [hb] at h; cases h
  | false =>
    simp only [cond_false] at h ⊢
    rw [h]; exact hk

def xInt (op : BinOp) (k : IntKind) (a b : Int) : Option PV :=
  match op with
  | .add => some (.int k (k.wrap (a + b)))
  | .sub => some (.int k (k.wrap (a - b)))
  | .mul => some (.int k (k.wrap (a * b)))
  | .quo => okIf (!(b == 0)) (some (.int k (k.wrap (a.tdiv b))))
  | .rem => okIf (!(b == 0)) (some (.int k (a.tmod b)))
  | .eql => some (.bool (decide (a = b)))
  | .neq => some (.bool (decide (a ≠ b)))
  | .lss => some (.bool (decide (a < b)))
  | .leq => some (.bool (decide (a ≤ b)))
  | .gtr => some (.bool (decide (b < a)))
  | .geq => some (.bool (decide (b ≤ a)))
  | .and => some (.int k (k.wrap ((BitVec.ofInt k.bits a &&& BitVec.ofInt k.bits b).toNat : Int)))
  | .or => some (.int k (k.wrap ((BitVec.ofInt k.bits a ||| BitVec.ofInt k.bits b).toNat : Int)))
  | .xor => some (.int k (k.wrap ((BitVec.ofInt k.bits a ^^^ BitVec.ofInt k.bits b).toNat : Int)))
  | .andNot => some (.int k (k.wrap ((BitVec.ofInt k.bits a &&& ~~~BitVec.ofInt k.bits b).toNat : Int)))
  | _ => none
theorem int_of {op : BinOp} {k : IntKind} {a b : Int} {v : PV} {K : PV → Prop} (h : xInt op k a b = some v) (hk : K v) : intOpK op k a b K := by
  cases op <;> simp only [xInt] at h <;> (try cases h; done) <;> simp only [intOpK] <;> first
    | (injection h with h; subst h; exact hk)
    | (injection h with h; subst h; exact ⟨_, rfl, hk⟩)
    | (obtain ⟨h0, h⟩ := okIf_some h; injection h with h; subst h; exact ⟨by simpa using h0, _, rfl, hk⟩)

def xStr (op : BinOp) (a b : List UInt8) : Option PV :=
  match op with
  | .add => okIf (Nat.ble (a.length + b.length) 9223372036854775807) (some (.str (a ++ b)))
  | .eql => some (.bool (decide (a = b)))
  | .neq => some (.bool (decide (a ≠ b)))
  | .lss => some (.bool (Op.bytesLess a b))
  | .leq => some (.bool (Op.bytesLess a b || decide (a = b)))
  | .gtr => some (.bool (!(Op.bytesLess a b || decide (a = b))))
  | .geq => some (.bool (!Op.bytesLess a b))
  | _ => none
theorem str_of {op : BinOp} {a b : List UInt8} {v : PV} {K : PV → Prop} (h : xStr op a b = some v) (hk : K v) : strOpK op a b K := by
  cases op <;> simp only [xStr] at h <;> (try cases h; done) <;> simp only [strOpK] <;> first
    | (injection h with h; subst h; exact hk)
    | (obtain ⟨h0, h⟩ := okIf_some h; injection h with h; subst h; exact ⟨Nat.le_of_ble_eq_true h0, hk⟩)

section
variable {Tb : Tab} (E : Env Tb)

def xBin (op : BinOp) (t : TypeId) (xo yo : Operand) (x y : PV) : Option PV :=
  match op, unkb x, unkb y with
  | .shl, .int k a, .int _ b => okIf (decide (0 ≤ b)) (some (.int k (k.wrap (a * 2 ^ (min b.toNat k.bits)))))
  | .shr, .int k a, .int _ b => okIf (decide (0 ≤ b)) (some (.int k (a.fdiv (2 ^ (min b.toNat k.bits)))))
  | op, .int k a, .int k' b => okIf (decide (k = k')) (xInt op k a b)
  | op, .str a, .str b => xStr op a b
  | .eql, .bool a, .bool b => match E.ty t with
    | some i => match i.und with
      | .bool => some (.bool (decide (a = b)))
      | _ => none
    | none => none
  | .neq, .bool a, .bool b => match E.ty t with
    | some i => match i.und with
      | .bool => some (.bool (decide (a ≠ b)))
      | _ => none
    | none => none
  | .eql, .agg a, .agg b => match E.ty t with
    | some i => okIf (E.eqt t (a.map kOf) && Nat.beq a.length i.size) ((eqCs a b).map .bool)
    | none => none
  | .neq, .agg a, .agg b => match E.ty t with
    | some i => okIf (E.eqt t (a.map kOf) && Nat.beq a.length i.size) ((eqCs a b).map fun r => .bool (!r))
    | none => none
  | .eql, .err, .nili => match E.ty t with
    | some i => match i.und with
      | .interface _ => some (.bool false)
      | _ => none
    | none => none
  | .neq, .err, .nili => match E.ty t with
    | some i => match i.und with
      | .interface _ => some (.bool true)
      | _ => none
    | none => none
  | .eql, .nili, .nili => okIf (isConstNil yo) (match E.ty t with
    | some i => match i.und with
      | .interface _ => some (.bool true)
      | _ => none
    | none => none)
  | .neq, .nili, .nili => okIf (isConstNil yo) (match E.ty t with
    | some i => match i.und with
      | .interface _ => some (.bool false)
      | _ => none
    | none => none)
  | _, _, _ => none
variable {E}
theorem bin_of {op : BinOp} {t : TypeId} {xo yo : Operand} {x y v : PV} {K : PV → Prop} (h : xBin E op t xo yo x y = some v) (hk : K v) : binK E op t xo yo x y K := by
  unfold xBin at h
  unfold binK
  generalize unkb x = x' at *
  generalize unkb y = y' at *
  split at h
  · obtain ⟨h0, h⟩ := okIf_some h; injection h with h; subst h; exact ⟨by simpa using h0, _, rfl, hk⟩
  · obtain ⟨h0, h⟩ := okIf_some h; injection h with h; subst h; exact ⟨by simpa using h0, _, rfl, hk⟩
  · obtain ⟨h0, h⟩ := okIf_some h; simp only [h0, cond_true]; exact int_of h hk
  · cases op <;> exact str_of h hk
  all_goals
    repeat' (split at h)
  all_goals first
    | (cases h; done)
    | (injection h with h; subst h; simp_all; done)
    | (obtain ⟨h0, h⟩ := okIf_some h
       obtain ⟨r, hr, h⟩ := Option.map_eq_some_iff.1 h
       subst h; simp_all; done)
    | (obtain ⟨h0, h⟩ := okIf_some h
       repeat' (split at h)
       all_goals first
         | (cases h; done)
         | (injection h with h; subst h; simp_all; done))

def xPick (c a b : PV) : Option PV :=
  match c with
  | .kb true => some a
  | .kb false => some b
  | .bool t => match unkb a, unkb b with
    | .bool x, .bool y => some (.bool (bif t then x else y))
    | _, _ => none
  | _ => none
theorem pick_of {c a b v : PV} {K : PV → Prop} (h : xPick c a b = some v) (hk : K v) : pickK c a b K := by
  unfold xPick at h
  unfold pickK
  repeat' (split at h)
  all_goals first
    | (cases h; done)
    | (injection h with h; subst h; simp_all; done)
def xUn (op : UnOp) (x : PV) : Option PV :=
  match op, unkb x with
  | .not, .bool b => some (.bool (!b))
  | .neg, .int k n => some (.int k (k.wrap (0 - n)))
  | .xor, .int k n => some (.int k (k.wrap ((BitVec.ofInt k.bits (onesK k) ^^^ BitVec.ofInt k.bits n).toNat : Int)))
  | _, _ => none
theorem un_of {op : UnOp} {x v : PV} {K : PV → Prop} (h : xUn op x = some v) (hk : K v) : unK op x K := by
  unfold xUn at h
  unfold unK
  generalize unkb x = x' at *
  repeat' (split at h)
  all_goals first
    | (cases h; done)
    | (injection h with h; subst h; first | exact hk | exact ⟨_, rfl, hk⟩)
variable (E) in
def xConv (s d : TypeId) (x : PV) : Option PV :=
  match E.ty s, E.ty d with
  | some si, some di =>
    match di.und, x with
    | .int k, .int _ n => some (.int k (k.wrap n))
    | .string, .str l => some (.str l)
    | .string, .sl xs => match si.und with
      | .slice e => match E.ty e with
        | some ei => match ei.und with
          | .int .u8 => (bytesOf xs).map .str
          | _ => none
        | none => none
      | _ => none
    | _, _ => none
  | _, _ => none
theorem conv_of {s d : TypeId} {x v : PV} {K : PV → Prop} (h : xConv E s d x = some v) (hk : K v) : convK E s d x K := by
  unfold xConv at h
  unfold convK
  repeat' (split at h)
  all_goals first
    | (cases h; done)
    | (injection h with h; subst h; simp_all; done)
    | (obtain ⟨l, hl, h⟩ := Option.map_eq_some_iff.1 h; subst h; simp_all; done)
variable (E) in
def xField (s : TypeId) (x : PV) (f : Nat) : Option PV :=
  match fld E s f with
  | some (o, size, ag) =>
    match x with
    | .agg cs => xPart ag size cs o
    | _ => none
  | none => none
theorem field_of {s : TypeId} {x v : PV} {f : Nat} {K : PV → Prop} (h : xField E s x f = some v) (hk : K v) : fieldK E s x f K := by
  unfold xField at h
  unfold fieldK
  split at h
  · rename_i hf
    simp only [hf]
    split at h
    · exact part_of h hk
    · cases h
  · cases h
variable (E) in
def xIndex (t : TypeId) (x i : PV) : Option PV :=
  match E.ty t with
  | some ti =>
    match ti.und, x, i with
    | .string, .str l, .int _ i => okIf (decide (0 ≤ i)) ((l[i.toNat]?).map fun b => .int .u8 b.toNat)
    | _, _, _ => none
  | none => none
theorem index_of {t : TypeId} {x i v : PV} {K : PV → Prop} (h : xIndex E t x i = some v) (hk : K v) : indexK E t x i K := by
  unfold xIndex at h
  unfold indexK
  split at h
  · rename_i hti
    simp only [hti]
    split at h
    · rename_i hu
      obtain ⟨h0, h⟩ := okIf_some h
      obtain ⟨b, hb, h⟩ := Option.map_eq_some_iff.1 h
      subst h
      simp only [hu]
      exact ⟨b, hb, by simpa using h0, hk⟩
    · cases h
  · cases h
def xExtract (x : PV) (i : Nat) : Option PV :=
  match x with
  | .tup vs => nth? vs i
  | _ => none
theorem extract_of {x v : PV} {i : Nat} {K : PV → Prop} (h : xExtract x i = some v) (hk : K v) : extractK x i K := by
  unfold xExtract at h
  unfold extractK
  split at h
  · simp only [h]; exact hk
  · cases h
variable (E) in
def xLen (t : TypeId) (x : PV) : Option PV :=
  match E.ty t with
  | some ti =>
    match ti.und, x with
    | .string, .str l => some (.int .i64 l.length)
    | .slice _, .sl xs => some (.int .i64 xs.length)
    | .slice _, .own _ n => some (.int .i64 n)
    | .slice _, .nils => some (.int .i64 0)
    | .array n _, _ => some (.int .i64 n)
    | _, _ => none
  | none => none
theorem len_of {t : TypeId} {x v : PV} {K : PV → Prop} (h : xLen E t x = some v) (hk : K v) : lenK E t x K := by
  unfold xLen at h
  unfold lenK
  repeat' (split at h)
  all_goals first
    | (cases h; done)
    | (injection h with h; subst h; simp_all; done)
variable (E) in
def xBuild (t : TypeId) (ps : List (Nat × PV)) : Option PV :=
  match E.ty t with
  | some i =>
    match i.und with
    | .struct fs =>
      match placesP E fs.toList with
      | some pl => (fillP (nth? pl) (zcells i) ps).map .agg
      | none => none
    | .array _ e =>
      match E.ty e with
      | some j => (fillP (fun k => some (k * j.size, j.size)) (zcells i) ps).map .agg
      | none => none
    | _ => none
  | none => none
theorem build_of {t : TypeId} {ps : List (Nat × PV)} {v : PV} {K : PV → Prop} (h : xBuild E t ps = some v) (hk : K v) : buildK E t ps K := by
  unfold xBuild at h
  unfold buildK
  repeat' (split at h)
  all_goals first
    | (cases h; done)
    | (obtain ⟨cs, hcs, h⟩ := Option.map_eq_some_iff.1 h
       subst h; simp_all; done)
variable (E) in
def xLoad (t : TypeId) (p : PV) (h : Hp) : Option PV :=
  match E.ty t with
  | none => none
  | some i =>
    match p with
    | .ptr id off =>
      match getB h id with
      | some (.box cs _) => okIf (notMap cs) (xPart (isAggD i.und) i.size cs off)
      | _ => none
    | .rp id n j off =>
      match getB h id with
      | some (.row _ _ _ xs _) => okIf (Nat.beq n xs.length) (match xs[j]? with
        | some x => xPart (isAggD i.und) i.size x.cells off
        | none => none)
      | _ => none
    | .pp cs off => xPart (isAggD i.und) i.size cs off
    | .gp g off =>
      match E.glob g with
      | some cs => xPart (isAggD i.und) i.size cs off
      | none => none
    | _ => none
theorem load_of {t : TypeId} {p v : PV} {hp : Hp} {K : PV → Hp → Prop} (h : xLoad E t p hp = some v) (hk : K v hp) : loadK E t p hp K := by
  unfold xLoad at h
  unfold loadK
  split at h
  · cases h
  · rename_i hi
    simp only [hi]
    split at h
    · split at h
      · rename_i hb; obtain ⟨h0, h⟩ := okIf_some h; simp only [hb, h0, cond_true]; exact part_of h hk
      · cases h
    · split at h
      · rename_i hb
        simp only [hb]
        obtain ⟨h0, h⟩ := okIf_some h
        refine ⟨Nat.eq_of_beq_eq_true h0, ?_⟩
        split at h
        · rename_i x hx; exact ⟨x, hx, part_of h hk⟩
        · cases h
      · cases h
    · exact part_of h hk
    · split at h
      · rename_i hg; simp only [hg]; exact part_of h hk
      · cases h
    · cases h

variable (E) in
def xStore (t : TypeId) (p v : PV) (h : Hp) : Option Hp :=
  match E.ty t with
  | none => none
  | some i =>
    okIf (faith v && Nat.beq v.cells.length i.size && v.cells.all isCell) (
      match p with
      | .ptr id off =>
        match getB h id with
        | some (.box cs false) => okIf (notMap cs && Nat.ble (off + i.size) cs.length) (some (setB h id (some (.box (splice cs off v.cells) false))))
        | _ => none
      | .rp id n j off =>
        match getB h id with
        | some (.row e k pr xs fz) => okIf (Nat.beq n xs.length && Nat.ble fz j) (match xs[j]? with
          | some x => okIf (Nat.ble (off + v.cells.length) x.cells.length && (!pr || v.cells.all pureC)) (some (setB h id (some (.row e k pr (xs.set j (updE x off v.cells)) fz))))
          | none => none)
        | _ => none
      | _ => none)
theorem store_of {t : TypeId} {p v : PV} {hp h' : Hp} {K : PV → Hp → Prop} (h : xStore E t p v hp = some h') (hk : K .undef h') : storeK E t p v hp K := by
  unfold xStore at h
  unfold storeK
  split at h
  · cases h
  · rename_i i hi
    simp only [hi]
    obtain ⟨h0, h⟩ := okIf_some h
    simp only [h0, cond_true]
    split at h
    · split at h
      · rename_i hb
        simp only [hb]
        obtain ⟨h1, h⟩ := okIf_some h
        injection h with h
        subst h
        simp only [h1, cond_true]; exact hk
      · cases h
    · split at h
      · rename_i hb
        simp only [hb]
        obtain ⟨h1, h⟩ := okIf_some h
        rw [Bool.and_eq_true] at h1
        refine ⟨Nat.eq_of_beq_eq_true h1.1, Nat.le_of_ble_eq_true h1.2, ?_⟩
        split at h
        · rename_i x hx
          obtain ⟨h2, h⟩ := okIf_some h
          rw [Bool.and_eq_true] at h2
          injection h with h
          subst h
          exact ⟨x, hx, Nat.le_of_ble_eq_true h2.1, by rw [h2.2]; exact hk⟩
        · cases h
      · cases h
    · cases h

def xNil (x : PV) (h : Hp) : Bool :=
  match x with
  | .ptr id off => match getB h id with
    | some (.box _ _) => true
    | _ => false
  | .rp id n _ _ => match getB h id with
    | some (.row _ _ _ xs _) => Nat.beq n xs.length
    | _ => false
  | .pp _ _ | .gp _ _ | .fn (.func _) _ _ => true
  | _ => false
theorem nil_of {x : PV} {hp : Hp} {K : PV → Prop} (h : xNil x hp = true) (hk : K x) : nilCheckK x hp K := by
  unfold xNil at h
  unfold nilCheckK
  split at h
  · split at h
    · rename_i hb; simp only [hb]; exact hk
    · cases h
  · split at h
    · rename_i hb; simp only [hb]; exact ⟨Nat.eq_of_beq_eq_true h, hk⟩
    · cases h
  · exact hk
  · exact hk
  · exact hk
  · cases h
variable (E) in
def xFaddr (s : TypeId) (x : PV) (f : Nat) (h : Hp) : Option PV :=
  match fld E s f with
  | some (o, size, _) =>
    okIf (Nat.ble 1 size) (
      match x with
      | .ptr id off => match getB h id with
        | some (.box _ _) => some (.ptr id (off + o))
        | _ => none
      | .rp id n j off => match getB h id with
        | some (.row _ _ _ xs _) => okIf (Nat.beq n xs.length) (some (.rp id n j (off + o)))
        | _ => none
      | .pp cs off => some (.pp cs (off + o))
      | .gp g off => some (.gp g (off + o))
      | _ => none)
  | none => none
theorem faddr_of {s : TypeId} {x v : PV} {f : Nat} {hp : Hp} {K : PV → Hp → Prop} (h : xFaddr E s x f hp = some v) (hk : K v hp) : faddrK E s x f hp K := by
  unfold xFaddr at h
  unfold faddrK
  split at h
  · rename_i hf
    simp only [hf]
    obtain ⟨h0, h⟩ := okIf_some h
    simp only [h0, cond_true]
    split at h
    · split at h
      · rename_i hb; simp only [hb]; injection h with h; subst h; exact hk
      · cases h
    · split at h
      · rename_i hb; simp only [hb]; obtain ⟨h1, h⟩ := okIf_some h; injection h with h; subst h; exact ⟨Nat.eq_of_beq_eq_true h1, hk⟩
      · cases h
    · injection h with h; subst h; exact hk
    · injection h with h; subst h; exact hk
    · cases h
  · cases h
variable (E) in
def xIaddr (t : TypeId) (x i : PV) (h : Hp) : Option PV :=
  match i with
  | .int _ i =>
    match x with
    | .sl xs => match elemTy E t with
      | some (_, size) => match xs[i.toNat]? with
        | some y => okIf (decide (0 ≤ i) && Nat.beq y.cells.length size) (some (.pp y.cells 0))
        | none => none
      | none => none
    | .own id n => match elemTy E t with
      | some (_, size) =>
        match getB h id with
        | some (.row _ k _ xs _) => okIf (Nat.beq n xs.length && decide (0 ≤ i) && decide (i < (n : Int)) && Nat.beq k size) (some (.rp id n i.toNat 0))
        | _ => none
      | none => none
    | .gp g off => match E.ty t with
      | some ti => match ti.und with
        | .array len e => match E.ty e with
          | some ei => okIf (decide (0 ≤ i) && decide (i < (len : Int))) (some (.gp g (off + i.toNat * ei.size)))
          | none => none
        | _ => none
      | none => none
    | .ptr id off => match E.ty t with
      | some ti => match ti.und with
        | .array len e => match E.ty e with
          | some ei => match getB h id with
            | some (.box _ _) => okIf (decide (0 ≤ i) && decide (i < (len : Int))) (some (.ptr id (off + i.toNat * ei.size)))
            | _ => none
          | none => none
        | _ => none
      | none => none
    | .pp cs off => match E.ty t with
      | some ti => match ti.und with
        | .array len e => match E.ty e with
          | some ei => okIf (decide (0 ≤ i) && decide (i < (len : Int))) (some (.pp cs (off + i.toNat * ei.size)))
          | none => none
        | _ => none
      | none => none
    | _ => none
  | _ => none
theorem iaddr_of {t : TypeId} {x i v : PV} {hp : Hp} {K : PV → Hp → Prop} (h : xIaddr E t x i hp = some v) (hk : K v hp) : iaddrK E t x i hp K := by
  unfold xIaddr at h
  unfold iaddrK
  split at h
  · simp only
    split at h
    · split at h
      · rename_i he
        split at h
        · rename_i y hy
          obtain ⟨h0, h⟩ := okIf_some h
          rw [Bool.and_eq_true] at h0
          injection h with h; subst h
          simp only [he]
          exact ⟨y, hy, by simpa using h0.1, Nat.eq_of_beq_eq_true h0.2, hk⟩
        · cases h
      · cases h
    · split at h
      · rename_i he
        split at h
        · rename_i hb
          obtain ⟨h0, h⟩ := okIf_some h
          rw [Bool.and_eq_true, Bool.and_eq_true, Bool.and_eq_true] at h0
          injection h with h; subst h
          simp only [he, hb]
          exact ⟨Nat.eq_of_beq_eq_true h0.1.1.1, by simpa using h0.1.1.2, by simpa using h0.1.2, by rw [h0.2]; exact hk⟩
        · cases h
      · cases h
    · repeat' (split at h)
      all_goals first
        | (cases h; done)
        | (obtain ⟨h0, h⟩ := okIf_some h
           rw [Bool.and_eq_true] at h0
           injection h with h; subst h; simp_all)
    · repeat' (split at h)
      all_goals first
        | (cases h; done)
        | (obtain ⟨h0, h⟩ := okIf_some h
           rw [Bool.and_eq_true] at h0
           injection h with h; subst h; simp_all)
    · repeat' (split at h)
      all_goals first
        | (cases h; done)
        | (obtain ⟨h0, h⟩ := okIf_some h
           rw [Bool.and_eq_true] at h0
           injection h with h; subst h; simp_all)
    · cases h
  · cases h
end
end Go.Px

set_option linter.unusedVariables false
set_option linter.unusedSimpArgs false
set_option linter.unnecessarySimpa false
namespace Go.Px
open Go
section
variable {Tb : Tab} {E : Env Tb}

def xBnd (o : Option PV) (d : Nat) : Option Nat :=
  match o with
  | none => some d
  | some (.int _ i) => okIf (decide (0 ≤ i)) (some i.toNat)
  | _ => none
theorem bnd_of {o : Option PV} {d n : Nat} {K : Nat → Prop} (h : xBnd o d = some n) (hk : K n) : bndK o d K := by
  unfold xBnd at h
  unfold bndK
  split at h
  · injection h with h; subst h; exact hk
  · obtain ⟨h0, h⟩ := okIf_some h; injection h with h; subst h; exact ⟨by simpa using h0, hk⟩
  · cases h
def xCut {α : Type} (lo hi : Option PV) (l : List α) : Option (List α) :=
  match xBnd hi l.length with
  | some b => match xBnd lo 0 with
    | some a => okIf (Nat.ble b l.length && Nat.ble a b) (some ((l.take b).drop a))
    | none => none
  | none => none
theorem cut_of {α : Type} {lo hi : Option PV} {l r : List α} {K : List α → Prop} (h : xCut lo hi l = some r) (hk : K r) : bndK hi l.length fun b => bndK lo 0 fun a => b ≤ l.length ∧ a ≤ b ∧ K ((l.take b).drop a) := by
  unfold xCut at h
  split at h
  · rename_i b hb
    split at h
    · rename_i a ha
      obtain ⟨h0, h⟩ := okIf_some h
      rw [Bool.and_eq_true] at h0
      injection h with h; subst h
      exact bnd_of hb (bnd_of ha ⟨Nat.le_of_ble_eq_true h0.1, Nat.le_of_ble_eq_true h0.2, hk⟩)
    · cases h
  · cases h

variable (E) in
def xSlice (t : TypeId) (x : PV) (lo hi mx : Option PV) (h : Hp) : Option (PV × Hp) :=
  match mx with
  | none =>
    match x with
    | .str l => match E.ty t with
      | some i => match i.und with
        | .string => (xCut lo hi l).map fun r => (.str r, h)
        | _ => none
      | none => none
    | .sl xs => match elemTy E t with
      | some (_, size) => okIf (xs.all fun x => Nat.beq x.cells.length size) ((xCut lo hi xs).map fun r => (.sl r, h))
      | none => none
    | .own id n => match elemTy E t with
      | some (_, size) =>
        match getB h id with
        | some (.row e k true xs _) => okIf (Nat.beq n xs.length && Nat.beq k size) ((xCut lo hi xs).map fun r => (.sl r, setB h id (some (.row e k true xs xs.length))))
        | _ => none
      | none => none
    | .nils => match elemTy E t with
      | some (_, size) => (xCut lo hi ([] : List PV)).map fun _ => (.nils, h)
      | none => none
    | .ptr id off => match arrCs E t off h id with
      | some cs => (xCut lo hi cs).map fun r => (.sl r, setB h id (some (.box cs true)))
      | none => none
    | _ => none
  | some (.int _ 0) =>
    match hi, lo, elemTy E t with
    | some (.int _ 0), none, some _ =>
      match x with
      | .sl _ | .own _ _ | .nils => some (.nils, h)
      | _ => none
    | _, _, _ => none
  | some _ => none
theorem slice_of {t : TypeId} {x v : PV} {lo hi mx : Option PV} {hp h' : Hp} {K : PV → Hp → Prop} (h : xSlice E t x lo hi mx hp = some (v, h')) (hk : K v h') : sliceK E t x lo hi mx hp K := by
  unfold xSlice at h
  unfold sliceK
  split at h
  · simp only
    split at h
    · split at h
      · rename_i hti
        split at h
        · rename_i hu
          obtain ⟨r, hr, h⟩ := Option.map_eq_some_iff.1 h
          injection h with h1 h2; subst h1 h2
          simp only [hti, hu]
          exact cut_of (K := fun r => K (.str r) _) hr hk
        · cases h
      · cases h
    · split at h
      · rename_i he
        obtain ⟨h0, h⟩ := okIf_some h
        obtain ⟨r, hr, h⟩ := Option.map_eq_some_iff.1 h
        injection h with h1 h2; subst h1 h2
        simp only [he]
        exact ⟨fun x hx => Nat.eq_of_beq_eq_true (List.all_eq_true.1 h0 x hx), cut_of (K := fun r => K (.sl r) _) hr hk⟩
      · cases h
    · split at h
      · rename_i he
        split at h
        · rename_i hb
          obtain ⟨h0, h⟩ := okIf_some h
          rw [Bool.and_eq_true] at h0
          obtain ⟨r, hr, h⟩ := Option.map_eq_some_iff.1 h
          injection h with h1 h2; subst h1 h2
          simp only [he, hb]
          exact ⟨Nat.eq_of_beq_eq_true h0.1, by rw [h0.2]; exact cut_of (K := fun r => K (.sl r) _) hr hk⟩
        · cases h
      · cases h
    · split at h
      · rename_i he
        obtain ⟨r, hr, h⟩ := Option.map_eq_some_iff.1 h
        injection h with h1 h2; subst h1 h2
        simp only [he]
        exact cut_of (l := ([] : List PV)) (K := fun r => K .nils _) hr hk
      · cases h
    · split at h
      · rename_i cs hcs
        obtain ⟨r, hr, h⟩ := Option.map_eq_some_iff.1 h
        injection h with h1 h2; subst h1 h2
        simp only [hcs]
        exact cut_of (K := fun r => K (.sl r) _) hr hk
      · cases h
    · cases h
  · split at h
    · rename_i he
      split at h
      all_goals first
        | (cases h; done)
        | (injection h with h; injection h with h1 h2; subst h1 h2; simp_all)
    · cases h
  · cases h

variable (E) in
def xMakeSlice (t : TypeId) (l c : PV) (h : Hp) (nid : Nat) : Option (PV × Hp) :=
  match l, c with
  | .int _ a, .int _ b =>
    match elemTy E t with
    | some (e, size) =>
      match E.ty e with
      | some ie =>
        okIf (Nat.ble 1 size && okE size (zeroE ie)) (okIf (decide (0 ≤ a) && decide (a ≤ b) && decide (b * ie.bytes ≤ 140737488355328) && decide (b ≤ 140737488355328))
          (some (.own nid (List.replicate a.toNat (zeroE ie)).length, setB h nid (some (.row e size true (List.replicate a.toNat (zeroE ie)) 0)))))
      | none => none
    | none => none
  | _, _ => none
theorem makeSlice_of {t : TypeId} {l c v : PV} {hp h' : Hp} {nid : Nat} {K : PV → Hp → Prop} (h : xMakeSlice E t l c hp nid = some (v, h')) (hk : K v h') : makeSliceK E t l c hp nid K := by
  unfold xMakeSlice at h
  unfold makeSliceK
  split at h
  · split at h
    · rename_i he
      split at h
      · rename_i hie
        obtain ⟨h0, h⟩ := okIf_some h
        obtain ⟨h1, h⟩ := okIf_some h
        injection h with h; injection h with h2 h3; subst h2 h3
        simp only [Bool.and_eq_true, decide_eq_true_eq] at h1
        simp only [he, hie, h0, cond_true]
        exact ⟨h1.1.1.1, h1.1.1.2, h1.1.2, h1.2, hk⟩
      · cases h
    · cases h
  · cases h

def xSrc (size : Nat) (x : PV) (h : Hp) : Option (List PV) :=
  match x with
  | .own id m =>
    match getB h id with
    | some (.row _ k true xs _) => okIf (Nat.beq m xs.length && Nat.beq k size) (some xs)
    | _ => none
  | .sl xs => okIf (xs.all fun x => Nat.beq x.cells.length size) (some xs)
  | .nils => some []
  | _ => none
theorem src_of {size : Nat} {x : PV} {hp : Hp} {xs : List PV} {K : List PV → Prop} (h : xSrc size x hp = some xs) (hk : K xs) : srcK size x hp K := by
  unfold xSrc at h
  unfold srcK
  split at h
  · split at h
    · rename_i hb
      obtain ⟨h0, h⟩ := okIf_some h
      rw [Bool.and_eq_true] at h0
      injection h with h; subst h
      simp only [hb]
      exact ⟨Nat.eq_of_beq_eq_true h0.1, by rw [h0.2]; exact hk⟩
    · cases h
  · obtain ⟨h0, h⟩ := okIf_some h
    injection h with h; subst h
    exact ⟨fun x hx => Nat.eq_of_beq_eq_true (List.all_eq_true.1 h0 x hx), hk⟩
  · injection h with h; subst h; exact hk
  · cases h
variable (E) in
def xAppend (t : TypeId) (s x : PV) (h : Hp) (nid : Nat) : Option (PV × Hp) :=
  match elemTy E t with
  | some (e, size) =>
    match E.ty e with
    | some ie =>
      okIf (Nat.ble 1 size && Nat.ble 1 ie.bytes) (match xSrc size x h with
        | none => none
        | some ys =>
          match s with
          | .nils =>
            match ys with
            | [] => some (.nils, h)
            | y :: ys => okIf (Nat.ble ((y :: ys).length * ie.bytes) 140737488355328) (some (.own nid (y :: ys).length, setB h nid (some (.row e size true (y :: ys) 0))))
          | .own id n =>
            match getB h id with
            | some (.row e' k true xs fz) => okIf (Nat.beq n xs.length && (Nat.beq e' e && Nat.beq k size) && Nat.ble ((xs.length + ys.length) * ie.bytes) 140737488355328) (some (.own id (xs ++ ys).length, setB h id (some (.row e' k true (xs ++ ys) fz))))
            | _ => none
          | _ => none)
    | none => none
  | none => none
theorem append_of {t : TypeId} {s x v : PV} {hp h' : Hp} {nid : Nat} {K : PV → Hp → Prop} (h : xAppend E t s x hp nid = some (v, h')) (hk : K v h') : appendK E t s x hp nid K := by
  unfold xAppend at h
  unfold appendK
  split at h
  · rename_i he
    split at h
    · rename_i hie
      obtain ⟨h0, h⟩ := okIf_some h
      simp only [he, hie, h0, cond_true]
      split at h
      · cases h
      · rename_i ys hys
        refine src_of hys ?_
        split at h
        · split at h
          · injection h with h; injection h with h1 h2; subst h1 h2; exact hk
          · obtain ⟨h3, h⟩ := okIf_some h
            injection h with h; injection h with h1 h2; subst h1 h2
            exact ⟨Nat.le_of_ble_eq_true h3, hk⟩
        · split at h
          · rename_i hb
            obtain ⟨h3, h⟩ := okIf_some h
            rw [Bool.and_eq_true, Bool.and_eq_true] at h3
            injection h with h; injection h with h1 h2; subst h1 h2
            simp only [hb]
            exact ⟨Nat.eq_of_beq_eq_true h3.1.1, by rw [h3.1.2]; exact ⟨Nat.le_of_ble_eq_true h3.2, hk⟩⟩
          · cases h
        · cases h
    · cases h
  · cases h

def xFzL (f : Hp → PV → Option (PV × Hp)) : Hp → List PV → Option (List PV × Hp)
  | h, [] => some ([], h)
  | h, x :: xs => match f h x with
    | some (x', h') => match xFzL f h' xs with
      | some (xs', h'') => some (x' :: xs', h'')
      | none => none
    | none => none
def xFz : Nat → Hp → PV → Option (PV × Hp)
  | 0, _, _ => none
  | d + 1, h, v =>
    match v with
    | .own id n =>
      match getB h id with
      | some (.row e k true xs _) => okIf (Nat.beq n xs.length) (some (.sl xs, setB h id (some (.row e k true xs xs.length))))
      | _ => none
    | .ptr id off =>
      match getB h id with
      | some (.box cs _) => match xFzL (xFz d) h cs with
        | some (cs', h') => some (.pp cs' off, setB h' id (some (.box cs true)))
        | none => none
      | _ => none
    | .agg cs => match xFzL (xFz d) h cs with
      | some (cs', h') => some (.agg cs', h')
      | none => none
    | .tup cs => match xFzL (xFz d) h cs with
      | some (cs', h') => some (.tup cs', h')
      | none => none
    | .fn f fi ca => match xFzL (xFz d) h fi with
      | some (fi', h') => match xFzL (xFz d) h' ca with
        | some (ca', h'') => some (.fn f fi' ca', h'')
        | none => none
      | none => none
    | .rp _ _ _ _ | .fresh _ _ | .mapo _ | .mapp _ _ | .yl _ | .itp _ _ | .loopp _ _ _ _ _ => none
    | v => some (v, h)
theorem fzL_of {f : Hp → PV → Option (PV × Hp)} {g : Hp → PV → (PV → Hp → Prop) → Prop} (hf : ∀ h v v' h' (K : PV → Hp → Prop), f h v = some (v', h') → K v' h' → g h v K) : ∀ (xs : List PV) (h : Hp) (xs' : List PV) (h' : Hp) (K : List PV → Hp → Prop), xFzL f h xs = some (xs', h') → K xs' h' → fzLK g h xs K
  | [], h, xs', h', K, he, hk => by simp only [xFzL, Option.some.injEq, Prod.mk.injEq] at he; obtain ⟨rfl, rfl⟩ := he; exact hk
  | x :: xs, h, xs', h', K, he, hk => by
    simp only [xFzL] at he
    split at he
    · rename_i x' h1 hx
      split at he
      · rename_i ys h2 hys
        simp only [Option.some.injEq, Prod.mk.injEq] at he; obtain ⟨rfl, rfl⟩ := he
        exact hf _ _ _ _ _ hx (fzL_of hf _ _ _ _ _ hys hk)
      · cases he
    · cases he
theorem fz_of : ∀ (d : Nat) (h : Hp) (v v' : PV) (h' : Hp) (K : PV → Hp → Prop), xFz d h v = some (v', h') → K v' h' → fzK d h v K
  | 0, h, v, v', h', K, he, hk => by cases he
  | d + 1, h, v, v', h', K, he, hk => by
    have ih := fz_of d
    cases v with
    | own id n =>
      simp only [xFz] at he
      simp only [fzK]
      split at he
      · rename_i hb
        obtain ⟨h0, he⟩ := okIf_some he
        simp only [Option.some.injEq, Prod.mk.injEq] at he; obtain ⟨rfl, rfl⟩ := he
        simp only [hb]
        exact ⟨Nat.eq_of_beq_eq_true h0, hk⟩
      · cases he
    | ptr id off =>
      simp only [xFz] at he
      simp only [fzK]
      split at he
      · rename_i hb
        simp only [hb]
        split at he
        · rename_i cs' h1 hcs
          simp only [Option.some.injEq, Prod.mk.injEq] at he; obtain ⟨rfl, rfl⟩ := he
          exact fzL_of ih _ _ _ _ _ hcs hk
        · cases he
      · cases he
    | agg cs =>
      simp only [xFz] at he
      split at he
      · rename_i cs' h1 hcs
        simp only [Option.some.injEq, Prod.mk.injEq] at he; obtain ⟨rfl, rfl⟩ := he
        exact fzL_of ih _ _ _ _ _ hcs hk
      · cases he
    | tup cs =>
      simp only [xFz] at he
      split at he
      · rename_i cs' h1 hcs
        simp only [Option.some.injEq, Prod.mk.injEq] at he; obtain ⟨rfl, rfl⟩ := he
        exact fzL_of ih _ _ _ _ _ hcs hk
      · cases he
    | fn f fi ca =>
      simp only [xFz] at he
      split at he
      · rename_i fi' h1 hfi
        split at he
        · rename_i ca' h2 hca
          simp only [Option.some.injEq, Prod.mk.injEq] at he; obtain ⟨rfl, rfl⟩ := he
          exact fzL_of ih _ _ _ _ _ hfi (fzL_of ih _ _ _ _ _ hca hk)
        · cases he
      · cases he
    | rp _ _ _ _ => cases he
    | fresh _ _ => cases he
    | mapo _ => cases he
    | mapp _ _ => cases he
    | yl _ => cases he
    | itp _ _ => cases he
    | loopp _ _ _ _ _ => cases he
    | _ => simp only [xFz, Option.some.injEq, Prod.mk.injEq] at he; obtain ⟨rfl, rfl⟩ := he; exact hk
variable (E) in
def xBuildSlice (t : TypeId) (len : Nat) (ps : List (Nat × PV)) (h : Hp) (nid : Nat) : Option (PV × Hp) :=
  match elemTy E t with
  | some (e, size) =>
    okIf (inOrder 0 ps && Nat.beq ps.length len && Nat.ble 1 size && Nat.ble (len * size) 16777216) (
      bif (ps.map (·.2)).any hasPtr then
        okIf ((ps.map (·.2)).all (okE size)) (some (.own nid len, setB h nid (some (.row e size false (ps.map (·.2)) 0))))
      else match xFzL (xFz 6) h (ps.map (·.2)) with
        | some (xs, h') => okIf (xs.all (okE size)) (some (.own nid xs.length, setB h' nid (some (.row e size true xs 0))))
        | none => none)
  | none => none
theorem buildSlice_of {t : TypeId} {len : Nat} {ps : List (Nat × PV)} {hp h' : Hp} {nid : Nat} {v : PV} {K : PV → Hp → Prop} (h : xBuildSlice E t len ps hp nid = some (v, h')) (hk : K v h') : buildSliceK E t len ps hp nid K := by
  unfold xBuildSlice at h
  unfold buildSliceK
  split at h
  · rename_i he
    simp only [he]
    obtain ⟨h0, h⟩ := okIf_some h
    simp only [h0, cond_true]
    cases ha : (ps.map (·.2)).any hasPtr with
    | true =>
      simp only [ha, cond_true] at h ⊢
      obtain ⟨h1, h⟩ := okIf_some h
      simp only [Option.some.injEq, Prod.mk.injEq] at h; obtain ⟨rfl, rfl⟩ := h
      simp only [h1, cond_true]; exact hk
    | false =>
      simp only [ha, cond_false] at h ⊢
      split at h
      · rename_i xs h1 hxs
        obtain ⟨h2, h⟩ := okIf_some h
        simp only [Option.some.injEq, Prod.mk.injEq] at h; obtain ⟨rfl, rfl⟩ := h
        exact fzL_of (fz_of 6) _ _ _ _ _ hxs (by simp only [h2, cond_true]; exact hk)
      · cases h
  · cases h

variable (E) in
def xMakeMap (t : TypeId) (r : Option PV) (h : Hp) (nid : Nat) : Option (PV × Hp) :=
  match r with
  | none => some (.mapo nid, setB h nid (some (.box [.mapp [] []] false)))
  | some (.int _ _) =>
    match E.ty t with
    | some ti =>
      match ti.und with
      | .map _ _ => some (.mapo nid, setB h nid (some (.box [.mapp [] []] false)))
      | _ => none
    | none => none
  | _ => none
theorem makeMap_of {t : TypeId} {r : Option PV} {hp h' : Hp} {nid : Nat} {v : PV} {K : PV → Hp → Prop} (h : xMakeMap E t r hp nid = some (v, h')) (hk : K v h') : makeMapK E t r hp nid K := by
  unfold xMakeMap at h
  unfold makeMapK
  split at h
  · simp only [Option.some.injEq, Prod.mk.injEq] at h; obtain ⟨rfl, rfl⟩ := h; exact hk
  · split at h
    · rename_i ti hti
      split at h
      · rename_i hu; simp only [Option.some.injEq, Prod.mk.injEq] at h; obtain ⟨rfl, rfl⟩ := h; simp only [hti, hu]; exact hk
      · cases h
    · cases h
  · cases h
variable (E) in
def xLookup (t : TypeId) (x key : PV) (ok : Bool) (h : Hp) : Option PV :=
  match E.ty t with
  | some ti =>
    match ti.und with
    | .map kt et =>
      match E.ty kt, E.ty et with
      | some ik, some ie =>
        okIf (keyKind ik.und key) (
          match x with
          | .mapo id =>
            match getB h id with
            | some (.box [.mapp ks vs] _) => match midx key ks 0 with
              | some (some i) => (vs[i]?).map fun v => bif ok then .tup [v, .bool true] else v
              | some none => some (bif ok then .tup [zVal ie.zero, .bool false] else zVal ie.zero)
              | none => none
            | _ => none
          | _ => none)
      | _, _ => none
    | _ => none
  | none => none
theorem lookup_of {t : TypeId} {x key v : PV} {ok : Bool} {hp : Hp} {K : PV → Hp → Prop} (h : xLookup E t x key ok hp = some v) (hk : K v hp) : lookupK E t x key ok hp K := by
  unfold xLookup at h
  unfold lookupK
  split at h
  · rename_i ti hti
    split at h
    · rename_i kt et hu
      split at h
      · rename_i ik ie hik hie
        obtain ⟨h0, h⟩ := okIf_some h
        simp only [hti, hu, hik, hie, h0, cond_true]
        split at h
        · split at h
          · rename_i hb
            simp only [hb]
            split at h
            · rename_i i hm
              obtain ⟨u, hu, h⟩ := Option.map_eq_some_iff.1 h
              subst h
              exact ⟨some i, hm, u, hu, hk⟩
            · rename_i hm
              injection h with h
              subst h
              exact ⟨none, hm, hk⟩
            · cases h
          · cases h
        · cases h
      · cases h
    · cases h
  · cases h
variable (E) in
def xMapUpdate (t : TypeId) (x key v : PV) (h : Hp) : Option Hp :=
  match E.ty t with
  | some ti =>
    match ti.und with
    | .map kt _ =>
      match E.ty kt with
      | some ik =>
        okIf (keyKind ik.und key) (
          match x with
          | .mapo id =>
            match getB h id with
            | some (.box [.mapp ks vs] fz) => match midx key ks 0 with
              | some (some i) => some (setB h id (some (.box [.mapp ks (vs.set i v)] fz)))
              | some none => some (setB h id (some (.box [.mapp (ks ++ [key]) (vs ++ [v])] fz)))
              | none => none
            | _ => none
          | _ => none)
      | none => none
    | _ => none
  | none => none
theorem mapUpdate_of {t : TypeId} {x key v : PV} {hp h' : Hp} {K : PV → Hp → Prop} (h : xMapUpdate E t x key v hp = some h') (hk : K .undef h') : mapUpdateK E t x key v hp K := by
  unfold xMapUpdate at h
  unfold mapUpdateK
  split at h
  · rename_i ti hti
    split at h
    · rename_i kt et hu
      split at h
      · rename_i ik hik
        obtain ⟨h0, h⟩ := okIf_some h
        simp only [hti, hu, hik, h0, cond_true]
        split at h
        · split at h
          · rename_i hb
            simp only [hb]
            split at h
            · rename_i i hm
              injection h with h
              subst h
              exact ⟨some i, hm, hk⟩
            · rename_i hm
              injection h with h
              subst h
              exact ⟨none, hm, hk⟩
            · cases h
          · cases h
        · cases h
      · cases h
    · cases h
  · cases h
end
end Go.Px

set_option linter.unusedVariables false
set_option linter.unusedSimpArgs false
set_option linter.unnecessarySimpa false
namespace Go.Px
open Go

/-- A function, as a run takes it. -/
structure AFn where
  K : Option (List (List Nat))
  n : Nat
  res : List ResultVar
  code : ACode

section
variable {Tb : Tab} (E : Env Tb) (cl : Fn → List PV → Hp → Option (PV × Hp))

def xCallOp (c : Call) (arg : Operand → PV) (h : Hp) (nid : Nat) : Option (PV × Hp) :=
  match c.callee with
  | .value fo =>
    match arg fo with
    | .fn (.func g) first cap => cl (.func g) (first ++ c.args.toList.map (fun x => unkb (arg x)) ++ cap) h
    | .yl id => cl (.yield id) (c.args.toList.map fun x => unkb (arg x)) h
    | _ => none
  | .builtin .len =>
    match c.args.toList, c.argTypes.toList with
    | [x], [t] => (xLen E t (arg x)).map fun v => (v, h)
    | _, _ => none
  | .builtin .append =>
    match c.args.toList, c.argTypes.toList with
    | [s, x], [t, t'] => okIf (Nat.beq t t') (xAppend E t (arg s) (arg x) h nid)
    | _, _ => none
  | .builtin .max =>
    match c.args.toList with
    | [x, y] => match arg x, arg y with
      | .int k a, .int _ b => some (.int k (max a b), h)
      | _, _ => none
    | _ => none
  | .builtin .min =>
    match c.args.toList with
    | [x, y] => match arg x, arg y with
      | .int k a, .int _ b => some (.int k (min a b), h)
      | _, _ => none
    | _ => none
  | _ => none

def xRangeS (t : TypeId) (x : PV) (h : Hp) (nid : Nat) : Option (PV × Hp) :=
  match E.ty t with
  | some i => match i.und, x with
    | .string, .str l => some (.ptr nid 0, setB h nid (some (.box [.itp l 0] false)))
    | _, _ => none
  | none => none
def xNextS (isS : Bool) (x : PV) (h : Hp) : Option (PV × Hp) :=
  match isS, x with
  | true, .ptr id 0 => match getB h id with
    | some (.box [.itp l pos] fz) =>
      bif Nat.blt pos l.length then some (.tup [.bool true, .int .i64 pos, .int .i32 (Utf8.decode ⟨⟨l⟩⟩ pos).1], setB h id (some (.box [.itp l (pos + (Utf8.decode ⟨⟨l⟩⟩ pos).2)] fz))) else some (.tup [.bool false], h)
    | _ => none
  | _, _ => none

def xVal (o : Op) (arg : Operand → PV) (h : Hp) (nid : Nat) : Option (PV × Hp) :=
  match o with
  | .move x | .assign x => some (arg x, h)
  | .pick c a b => (xPick (arg c) (arg a) (arg b)).map fun v => (v, h)
  | .alloc t =>
    match E.ty t with
    | some i => some (.ptr nid 0, setB h nid (some (.box (zcells i) false)))
    | none => none
  | .box _ x => okIf (faith (unkb (arg x)) && (unkb (arg x)).cells.all isCell) (some (.ptr nid 0, setB h nid (some (.box (unkb (arg x)).cells false))))
  | .build t parts => (xBuild E t (parts.toList.map fun p => (p.1, unkb (arg p.2)))).map fun v => (v, h)
  | .buildSlice t len parts => xBuildSlice E t len (parts.toList.map fun p => (p.1, unkb (arg p.2))) h nid
  | .load t a => (xLoad E t (arg a) h).map fun v => (v, h)
  | .store t a v => (xStore E t (arg a) (unkb (arg v)) h).map fun h' => (.undef, h')
  | .nilCheck x => okIf (xNil (arg x) h) (some (arg x, h))
  | .binOp op t x y _ => (xBin E op t x y (arg x) (arg y)).map fun v => (v, h)
  | .unOp op _ x => (xUn op (arg x)).map fun v => (v, h)
  | .convert s d x => (xConv E s d (arg x)).map fun v => (v, h)
  | .makeFunc fn first cap => some (.fn fn (first.toList.map fun x => unkb (arg x)) (cap.toList.map fun x => unkb (arg x)), h)
  | .makeSlice t l c => xMakeSlice E t (arg l) (arg c) h nid
  | .slice t x lo hi mx => xSlice E t (arg x) (lo.map arg) (hi.map arg) (mx.map arg) h
  | .fieldAddr s x f => (xFaddr E s (arg x) f h).map fun v => (v, h)
  | .field s x f => (xField E s (arg x) f).map fun v => (v, h)
  | .indexAddr t x i => (xIaddr E t (arg x) (arg i) h).map fun v => (v, h)
  | .index t x i => (xIndex E t (arg x) (arg i)).map fun v => (v, h)
  | .extract x i => (xExtract (arg x) i).map fun v => (v, h)
  | .call c => xCallOp E cl c arg h nid
  | .makeMap t r => xMakeMap E t (r.map arg) h nid
  | .lookup t x ix ok => (xLookup E t (arg x) (unkb (arg ix)) ok h).map fun v => (v, h)
  | .mapUpdate t m k x => (xMapUpdate E t (arg m) (unkb (arg k)) (unkb (arg x)) h).map fun h' => (.undef, h')
  | .range t x => xRangeS E t (arg x) h nid
  | .next it isS => xNextS isS (arg it) h
  | .insert t m k x => (xMapUpdate E t (arg m) (unkb (arg k)) (unkb (arg x)) h).map fun h' => (.undef, h')
  | _ => none

variable {E} {cl}
theorem map_pv {o : Option PV} {h h' : Hp} {v : PV} (he : (o.map fun v => (v, h)) = some (v, h')) : o = some v ∧ h' = h := by
  obtain ⟨r, hr, he⟩ := Option.map_eq_some_iff.1 he
  injection he with h1 h2
  subst h1 h2
  exact ⟨hr, rfl⟩

def ClOk {Tb : Tab} (E : Env Tb) (cl : Fn → List PV → Hp → Option (PV × Hp)) : Prop :=
  (∀ (g : FuncId) (args : List PV) (h : Hp) (v : PV) (h' : Hp), cl (.func g) args h = some (v, h') → ∀ (nid : Nat) (K : PV → Hp → Prop), K v h' → callK E g args h nid K) ∧
  ∀ (id : Nat) (args : List PV) (h : Hp) (v : PV) (h' : Hp), cl (.yield id) args h = some (v, h') → ∀ (K : PV → Hp → Prop), K v h' → yieldK E id args h K

theorem val_of (hcl : ClOk E cl) {o : Op} {arg : Operand → PV} {h h' : Hp} {nid : Nat} {v : PV} {K : PV → Hp → Prop} (he : xVal E cl o arg h nid = some (v, h')) (hk : K v h') : vcVal E o arg h nid K := by
  cases o <;> simp only [xVal] at he <;> (try cases he; done) <;> simp only [vcVal]
  case move x => injection he with he; injection he with h1 h2; subst h1 h2; exact hk
  case assign x => injection he with he; injection he with h1 h2; subst h1 h2; exact hk
  case pick => obtain ⟨h1, rfl⟩ := map_pv he; exact pick_of h1 hk
  case alloc t =>
    split at he
    · rename_i hi; simp only [hi]; injection he with he; injection he with h1 h2; subst h1 h2; exact hk
    · cases he
  case box t x =>
    obtain ⟨h0, he⟩ := okIf_some he
    injection he with he; injection he with h1 h2; subst h1 h2
    simp only [boxK, h0, cond_true]; exact hk
  case build => obtain ⟨h1, rfl⟩ := map_pv he; exact build_of h1 hk
  case buildSlice => exact buildSlice_of he hk
  case load => obtain ⟨h1, rfl⟩ := map_pv he; exact load_of h1 hk
  case store =>
    obtain ⟨r, hr, he⟩ := Option.map_eq_some_iff.1 he
    injection he with h1 h2; subst h1 h2
    exact store_of hr hk
  case makeMap => exact makeMap_of he hk
  case range =>
    unfold xRangeS at he
    unfold rangeSK
    split at he
    · rename_i hi
      simp only [hi]
      split at he
      · rename_i hu hx
        simp only [hu, hx]
        injection he with he; injection he with h1 h2; subst h1 h2; exact hk
      · cases he
    · cases he
  case next =>
    unfold xNextS at he
    unfold nextSK
    split at he
    · rename_i hx
      simp only [hx]
      split at he
      · rename_i hb
        simp only [hb]
        cases hp : Nat.blt _ _ with
        | true => rw [hp] at he; injection he with he; injection he with h1 h2; subst h1 h2; exact hk
        | false => rw [hp] at he; injection he with he; injection he with h1 h2; subst h1 h2; exact hk
      · cases he
    · cases he
  case lookup => obtain ⟨h1, rfl⟩ := map_pv he; exact lookup_of h1 hk
  case mapUpdate =>
    obtain ⟨r, hr, he⟩ := Option.map_eq_some_iff.1 he
    injection he with h1 h2; subst h1 h2
    exact mapUpdate_of hr hk
  case insert =>
    obtain ⟨r, hr, he⟩ := Option.map_eq_some_iff.1 he
    injection he with h1 h2; subst h1 h2
    exact mapUpdate_of hr hk
  case nilCheck =>
    obtain ⟨h0, he⟩ := okIf_some he
    injection he with he; injection he with h1 h2; subst h1 h2
    exact nil_of h0 hk
  case binOp => obtain ⟨h1, rfl⟩ := map_pv he; exact bin_of h1 hk
  case unOp => obtain ⟨h1, rfl⟩ := map_pv he; exact un_of h1 hk
  case convert => obtain ⟨h1, rfl⟩ := map_pv he; exact conv_of h1 hk
  case makeFunc => injection he with he; injection he with h1 h2; subst h1 h2; exact hk
  case makeSlice => exact makeSlice_of he hk
  case slice => exact slice_of he hk
  case fieldAddr => obtain ⟨h1, rfl⟩ := map_pv he; exact faddr_of h1 hk
  case field => obtain ⟨h1, rfl⟩ := map_pv he; exact field_of h1 hk
  case indexAddr => obtain ⟨h1, rfl⟩ := map_pv he; exact iaddr_of h1 hk
  case index => obtain ⟨h1, rfl⟩ := map_pv he; exact index_of h1 hk
  case extract => obtain ⟨h1, rfl⟩ := map_pv he; exact extract_of h1 hk
  case call c =>
    unfold xCallOp at he
    unfold callOpK
    cases hc : c.callee with
    | value fo =>
      rw [hc] at he
      simp only at he ⊢
      split at he
      · rename_i hf
        simp only [hf]
        exact hcl.1 _ _ _ _ _ he _ _ hk
      · rename_i hf
        simp only [hf]
        exact hcl.2 _ _ _ _ _ he _ hk
      · cases he
    | invoke r m => rw [hc] at he; cases he
    | builtin b =>
      rw [hc] at he
      cases b <;> simp only at he <;> (try cases he; done) <;> simp only
      case len =>
        split at he
        · rename_i h1 h2; simp only [h1, h2]; obtain ⟨h3, rfl⟩ := map_pv he; exact len_of h3 hk
        · cases he
      case append =>
        split at he
        · rename_i h1 h2; obtain ⟨h0, he⟩ := okIf_some he; simp only [h1, h2, h0, cond_true]; exact append_of he hk
        · cases he
      case max =>
        split at he
        · rename_i h1
          split at he
          · rename_i h2 h3; simp only [h1, h2, h3]; injection he with he; injection he with h4 h5; subst h4 h5; exact hk
          · cases he
        · cases he
      case min =>
        split at he
        · rename_i h1
          split at he
          · rename_i h2 h3; simp only [h1, h2, h3]; injection he with he; injection he with h4 h5; subst h4 h5; exact hk
          · cases he
        · cases he
end
end Go.Px

set_option linter.unusedVariables false
namespace Go.Px
open Go

/-! ### What a run hands on is reckoned first: each of these is 'k x' -/
universe u v
def fN {α : Type u} (n : Nat) (k : Nat → α) : α :=
  match n with
  | 0 => k 0
  | .succ m => k (.succ m)
def fI {α : Type u} (z : Int) (k : Int → α) : α :=
  match z with
  | .ofNat n => fN n fun n => k (.ofNat n)
  | .negSucc n => fN n fun n => k (.negSucc n)
def fB {α : Type u} (b : Bool) (k : Bool → α) : α :=
  match b with
  | true => k true
  | false => k false
noncomputable def fL {α : Type u} {β : Type v} (f : β → (β → α) → α) (l : List β) : (List β → α) → α :=
  List.rec (motive := fun _ => (List β → α) → α) (fun k => k []) (fun x _ ih k => f x fun x => ih fun xs => k (x :: xs)) l
def fId {α : Type u} {β : Type v} (x : β) (k : β → α) : α := k x
noncomputable def fV0 {α : Type u} (v : PV) (k : PV → α) : α :=
  match v with
  | .int kk n => fI n fun n => k (.int kk n)
  | .bool b => fB b fun b => k (.bool b)
  | .kb b => fB b fun b => k (.kb b)
  | .str l => fL fId l fun l => k (.str l)
  | .own id n => fN id fun id => fN n fun n => k (.own id n)
  | .ptr id n => fN id fun id => fN n fun n => k (.ptr id n)
  | .rp id n i off => fN id fun id => fN n fun n => fN i fun i => fN off fun off => k (.rp id n i off)
  | .gp g off => fN off fun off => k (.gp g off)
  | .mapo id => fN id fun id => k (.mapo id)
  | .yl id => fN id fun id => k (.yl id)
  | .itp l pos => fN pos fun pos => k (.itp l pos)
  | v => k v
noncomputable def fV {α : Type u} (v : PV) (k : PV → α) : α :=
  match v with
  | .agg cs => fL fV0 cs fun cs => k (.agg cs)
  | .tup cs => fL fV0 cs fun cs => k (.tup cs)
  | .sl cs => fL fV0 cs fun cs => k (.sl cs)
  | .pp cs off => fL fV0 cs fun cs => fN off fun off => k (.pp cs off)
  | .fn f a b => fL fV0 a fun a => fL fV0 b fun b => k (.fn f a b)
  | .mapp a b => fL fV0 a fun a => fL fV0 b fun b => k (.mapp a b)
  | v => fV0 v k
noncomputable def fBk {α : Type u} (b : Option Blk) (k : Option Blk → α) : α :=
  match b with
  | none => k none
  | some (.box cs fz) => fL fV cs fun cs => fB fz fun fz => k (some (.box cs fz))
  | some (.row e m pr xs fz) => fL fV xs fun xs => fN fz fun fz => fB pr fun pr => k (some (.row e m pr xs fz))
noncomputable def fH {α : Type u} (h : Hp) (k : Hp → α) : α := fL fBk h k
def fHV {α : Type u} (v : PV) (k : PV → α) : α :=
  match v with
  | .undef => k .undef
  | .int a b => k (.int a b)
  | .bool a => k (.bool a)
  | .kb a => k (.kb a)
  | .str a => k (.str a)
  | .nili => k .nili
  | .nilf => k .nilf
  | .err => k .err
  | .sl a => k (.sl a)
  | .agg a => k (.agg a)
  | .tup a => k (.tup a)
  | .nils => k .nils
  | .own a b => k (.own a b)
  | .ptr a b => k (.ptr a b)
  | .rp a b c d => k (.rp a b c d)
  | .pp a b => k (.pp a b)
  | .fn a b c => k (.fn a b c)
  | .fresh a b => k (.fresh a b)
  | .gp a b => k (.gp a b)
  | .mapo a => k (.mapo a)
  | .mapp a b => k (.mapp a b)
  | .yl a => k (.yl a)
  | .itp a b => k (.itp a b)
  | .loopp a b c d e => k (.loopp a b c d e)
noncomputable def fTm {α : Type u} (p : Nat × PV) (k : Nat × PV → α) : α :=
  match p with
  | (t, v) => fHV v fun v => k (t, v)
def fHd {α : Type u} {β : Type v} (l : List β) (k : List β → α) : α :=
  match l with
  | [] => k []
  | x :: r => k (x :: r)
def fWh {α : Type u} (b : Option Blk) (k : Option Blk → α) : α :=
  match b with
  | none => k none
  | some (.box cs fz) => k (some (.box cs fz))
  | some (.row e m pr xs fz) => k (some (.row e m pr xs fz))
def memN (i : Nat) : List Nat → Bool
  | [] => false
  | j :: r => bif Nat.beq i j then true else memN i r
noncomputable def fHw {α : Type u} (ids : List Nat) (h : Hp) : Nat → (Hp → α) → α :=
  List.rec (motive := fun _ => Nat → (Hp → α) → α) (fun _ k => k []) (fun b _ ih i k => bif memN i ids then fBk b fun b => fN (Nat.succ i) fun i => ih i fun r => k (b :: r) else fWh b fun b => fN (Nat.succ i) fun i => ih i fun r => k (b :: r)) h
noncomputable def fS {α : Type u} (wr : Option (List Nat)) (st : AS) (k : AS → α) : α :=
  match st with
  | ⟨tm, h⟩ => fHd tm fun tm => match wr with
    | some ids => fHw ids h 0 fun h => k ⟨tm, h⟩
    | none => fHd h fun h => k ⟨tm, h⟩
noncomputable def fT {α : Type u} (tm : List (Nat × PV)) (k : List (Nat × PV) → α) : α := fL fTm tm k
theorem fN_eq {α : Type u} (n : Nat) (k : Nat → α) : fN n k = k n := by cases n <;> rfl
theorem fI_eq {α : Type u} (n : Int) (k : Int → α) : fI n k = k n := by cases n <;> simp only [fI, fN_eq]
theorem fB_eq {α : Type u} (n : Bool) (k : Bool → α) : fB n k = k n := by cases n <;> rfl
theorem fL_eq {α : Type u} {β : Type v} {f : β → (β → α) → α} (hf : ∀ x k, f x k = k x) : ∀ (l : List β) (k : List β → α), fL f l k = k l
  | [], k => rfl
  | x :: xs, k => by
    show f x (fun x => fL f xs fun xs => k (x :: xs)) = _
    simp only [hf, fL_eq hf xs]
theorem fV0_eq {α : Type u} (v : PV) (k : PV → α) : fV0 v k = k v := by cases v <;> simp only [fV0, fI_eq, fB_eq, fN_eq, fL_eq (f := fId) (fun x k => rfl)]
theorem fV_eq {α : Type u} (v : PV) (k : PV → α) : fV v k = k v := by cases v <;> simp only [fV, fV0_eq, fN_eq, fL_eq (f := fV0) fV0_eq]
theorem fBk_eq {α : Type u} (b : Option Blk) (k : Option Blk → α) : fBk b k = k b := by
  cases b with
  | none => rfl
  | some b => cases b <;> simp only [fBk, fL_eq (f := fV) fV_eq, fB_eq, fN_eq]
theorem fH_eq {α : Type u} (h : Hp) (k : Hp → α) : fH h k = k h := fL_eq fBk_eq h k
theorem fHV_eq {α : Type u} (v : PV) (k : PV → α) : fHV v k = k v := by cases v <;> rfl
theorem fTm_eq {α : Type u} (p : Nat × PV) (k : Nat × PV → α) : fTm p k = k p := by obtain ⟨t, v⟩ := p; simp only [fTm, fHV_eq]
theorem fHd_eq {α : Type u} {β : Type v} (l : List β) (k : List β → α) : fHd l k = k l := by cases l <;> rfl
theorem fWh_eq {α : Type u} (b : Option Blk) (k : Option Blk → α) : fWh b k = k b := by
  cases b with
  | none => rfl
  | some b => cases b <;> rfl
theorem fHw_eq {α : Type u} (ids : List Nat) : ∀ (h : Hp) (i : Nat) (k : Hp → α), fHw ids h i k = k h
  | [], i, k => rfl
  | b :: h, i, k => by
    show (bif memN i ids then fBk b fun b => fN (Nat.succ i) fun i => fHw ids h i fun r => k (b :: r) else fWh b fun b => fN (Nat.succ i) fun i => fHw ids h i fun r => k (b :: r)) = _
    cases memN i ids <;> simp only [cond_true, cond_false, fBk_eq, fWh_eq, fN_eq, fHw_eq ids h]
theorem fS_eq {α : Type u} (wr : Option (List Nat)) (st : AS) (k : AS → α) : fS wr st k = k st := by
  cases wr <;> simp only [fS, fHw_eq, fHd_eq]
theorem fT_eq {α : Type u} (tm : List (Nat × PV)) (k : List (Nat × PV) → α) : fT tm k = k tm := fL_eq fTm_eq tm k

def fOpt {α : Type u} {β : Type v} (o : Option β) (k : Option β → α) : α :=
  match o with
  | none => k none
  | some x => k (some x)
def fOp {α : Type u} (o : AOp) (k : AOp → α) : α :=
  match o with
  | ⟨d, op, g⟩ => fOpt d fun d => fOpt g fun g => k ⟨d, op, g⟩
noncomputable def fAC {α : Type u} (c : ACode) : (ACode → α) → α :=
  ACode.rec (motive := fun _ => (ACode → α) → α) (fun k => k .skip) (fun ops k => fL fOp ops fun ops => k (.reg ops)) (fun ops ancs k => fL fOp ops fun ops => fL fN ancs fun ancs => k (.draw ops ancs))
    (fun _ _ iha ihb k => iha fun a => ihb fun b => k (.seq a b)) (fun c _ _ iha ihb k => iha fun a => ihb fun b => k (.cond c a b)) (fun id _ ih k => ih fun c => k (.block id c)) (fun _ ih k => ih fun c => k (.loop c))
    (fun id k => k (.exit id)) (fun k => k .ret) (fun _ ih k => ih fun c => k (.scope c)) (fun ks _ ih k => ih fun c => k (.keep ks c)) (fun n K f ps _ _ iha ihb k => iha fun a => ihb fun b => k (.rangeF n K f ps a b)) (fun k => k .bad) c
theorem fOpt_eq {α : Type u} {β : Type v} (o : Option β) (k : Option β → α) : fOpt o k = k o := by cases o <;> rfl
theorem fOp_eq {α : Type u} (o : AOp) (k : AOp → α) : fOp o k = k o := by obtain ⟨d, op, g⟩ := o; simp only [fOp, fOpt_eq]
theorem fAC_eq {α : Type u} (c : ACode) : ∀ (k : ACode → α), fAC c k = k c := by
  induction c with
  | skip => exact fun k => rfl
  | reg ops => exact fun k => fL_eq fOp_eq _ _
  | draw ops ancs => 
    intro k
    show fL fOp ops (fun ops => fL fN ancs fun ancs => k (.draw ops ancs)) = _
    rw [fL_eq fOp_eq, fL_eq (f := fN) (fun x k => fN_eq x k)]
  | seq a b iha ihb => 
    intro k
    show fAC a (fun a => fAC b fun b => k (.seq a b)) = _
    rw [iha, ihb]
  | cond c a b iha ihb => 
    intro k
    show fAC a (fun a => fAC b fun b => k (.cond c a b)) = _
    rw [iha, ihb]
  | block id c ih => 
    intro k
    show fAC c (fun c => k (.block id c)) = _
    rw [ih]
  | loop c ih => 
    intro k
    show fAC c (fun c => k (.loop c)) = _
    rw [ih]
  | exit id => exact fun k => rfl
  | ret => exact fun k => rfl
  | scope c ih => 
    intro k
    show fAC c (fun c => k (.scope c)) = _
    rw [ih]
  | keep ks c ih => 
    intro k
    show fAC c (fun c => k (.keep ks c)) = _
    rw [ih]
  | rangeF n K f ps a b iha ihb => 
    intro k
    show fAC a (fun a => fAC b fun b => k (.rangeF n K f ps a b)) = _
    rw [iha, ihb]
  | bad => exact fun k => rfl

noncomputable def fDi {α : Type u} (d : DInfo) (k : DInfo → α) : α :=
  match d with
  | ⟨a, b, c, e, f⟩ => fOpt a fun a => fL fN b fun b => fL fN c fun c => fL fN e fun e => fOpt f fun f => k ⟨a, b, c, e, f⟩
theorem fDi_eq {α : Type u} (d : DInfo) (k : DInfo → α) : fDi d k = k d := by obtain ⟨a, b, c, e, f⟩ := d; simp only [fDi, fOpt_eq, fL_eq (f := fN) fN_eq]

/-! ### The check on pairs, quicker -/
theorem memN_eq (i : Nat) : ∀ l : List Nat, memN i l = l.contains i
  | [] => rfl
  | j :: r => by
    simp only [memN, List.contains_cons, memN_eq i r]
    cases hb : Nat.beq i j with
    | true => have := Nat.eq_of_beq_eq_true hb; subst this; simp
    | false =>
      have : (i == j) = false := by
        rw [beq_eq_false_iff_ne]; intro e; subst e; rw [Nat.beq_refl] at hb; cases hb
      simp [this]
def anyN : List Nat → List Nat → Bool
  | [], _ => false
  | i :: r, l => bif memN i l then true else anyN r l
theorem anyN_eq (l : List Nat) : ∀ k : List Nat, anyN k l = k.any fun i => l.contains i
  | [] => rfl
  | i :: r => by
    simp only [anyN, List.any_cons, memN_eq, anyN_eq l r]
    cases l.contains i <;> rfl
def dstN (a : Option Nat) (looks : List Nat) (b : Option Nat) : Bool :=
  match a with
  | none => false
  | some d => bif memN d looks then true else match b with
    | some e => Nat.beq e d
    | none => false
def confF (x y : DInfo) : Bool :=
  bif dstN x.dst y.looks y.dst then true else bif dstN y.dst x.looks none then true else bif anyN x.wids y.touch then true else bif anyN y.wids x.touch then true else (confI x y || confI y x)
theorem natBeq (i j : Nat) : Nat.beq i j = (i == j) := by
  cases hb : Nat.beq i j with
  | true => have := Nat.eq_of_beq_eq_true hb; subst this; simp
  | false =>
    symm
    rw [beq_eq_false_iff_ne]; intro e; subst e; rw [Nat.beq_refl] at hb; cases hb
theorem confF_eq (x y : DInfo) : confF x y = conf x y := by
  obtain ⟨xd, xl, xt, xw, xi⟩ := x
  obtain ⟨yd, yl, yt, yw, yi⟩ := y
  have bif_or : ∀ a b : Bool, (bif a then true else b) = (a || b) := fun a b => by cases a <;> rfl
  simp only [confF, conf, bif_or, anyN_eq]
  cases xd <;> cases yd <;> simp only [dstN, memN_eq, bif_or, natBeq, Option.some_beq_some, Option.none_beq_some, Bool.false_or, Bool.or_false, Bool.or_assoc]
def okAgF (anc : Nat) (x : DInfo) : Nat → List DInfo → Bool
  | _, [] => true
  | i, y :: r => bif (bif confF y x then Nat.testBit anc i else true) then fN (Nat.succ i) fun i => okAgF anc x i r else false
theorem okAgF_eq (anc : Nat) (x : DInfo) : ∀ (l : List DInfo) (i : Nat), okAgF anc x i l = okAgainst anc x i l
  | [], i => rfl
  | y :: r, i => by
    simp only [okAgF, okAgainst, confF_eq, fN_eq, okAgF_eq anc x r]
    cases conf y x <;> cases Nat.testBit anc i <;> simp
noncomputable def okPairsF : List Nat → List DInfo → List DInfo → Bool
  | _, _, [] => true
  | an :: ans, pre, x :: r => bif okAgF an x 0 pre then fL fId (pre ++ [x]) fun pre => okPairsF ans pre r else false
  | [], _, _ :: _ => false
theorem okPairsF_eq : ∀ (ans : List Nat) (pre l : List DInfo), okPairsF ans pre l = okPairs ans pre l
  | ans, pre, [] => by simp [okPairsF, okPairs]
  | [], pre, x :: r => by simp [okPairsF, okPairs]
  | an :: ans, pre, x :: r => by
    simp only [okPairsF, okPairs, okAgF_eq, fL_eq (f := fId) (fun x k => rfl), okPairsF_eq ans]
    cases okAgainst an x 0 pre <;> rfl

/-- What an operation leaves unreckoned in the own memory. -/
def dirty (op : Op) (arg : Operand → PV) (nid : Nat) : Option (List Nat) :=
  match op with
  | .range _ _ => some [nid]
  | .next it _ => some (idTop (arg it))
  | .alloc _ | .box _ _ | .buildSlice _ _ _ | .makeSlice _ _ _ | .makeMap _ _ | .store _ _ _ | .mapUpdate _ _ _ _ | .insert _ _ _ _ | .slice _ _ _ _ _ => some (wids op arg nid)
  | .call c => match c.callee with
    | .value _ => some []
    | _ => some (wids op arg nid)
  | _ => none
end Go.Px

set_option linter.unusedVariables false
set_option linter.unusedSimpArgs false
set_option linter.unnecessarySimpa false
namespace Go.Px
open Go

noncomputable section
variable {Tb : Tab} (E : Env Tb) (cl : Fn → List PV → Hp → Option (PV × Hp))

def xOp (o : AOp) (st : AS) : Option AS :=
  match st with
  | ⟨tm, h⟩ =>
    bif allocs o.op then match xVal E cl o.op (opd tm) (h ++ [none]) h.length with
      | some (v, h') => fV v fun v => some ⟨setD o.dst v tm, trim h'⟩
      | none => none
    else match xVal E cl o.op (opd tm) h 0 with
      | some (v, h') => fV v fun v => some ⟨setD o.dst v tm, h'⟩
      | none => none

/-- Yes, no, or unknown. -/
def xGuard (tm : List (Nat × PV)) (g : Option (Nat × Bool)) : Option Bool :=
  match g with
  | none => some true
  | some (g, want) =>
    match get tm g with
    | .kb b => some (cond want b (not b))
    | .tup [] => some false
    | .bool b => some (cond want b (not b))
    | _ => none

/-- An open Bool is known, where it is a guard. -/
def kbT (tm : List (Nat × PV)) (g : Option (Nat × Bool)) : List (Nat × PV) :=
  match g with
  | none => tm
  | some (g, want) =>
    match get tm g with
    | .bool b => setD (some g) (.kb b) tm
    | _ => tm

def xOps : List AOp → AS → Option AS
  | [], st => some st
  | o :: r, st =>
    match st with
    | ⟨tm, h⟩ =>
      match xGuard tm o.guard with
      | some true => fHd (kbT tm o.guard) fun tm => match xOp E cl o ⟨tm, h⟩ with
        | some st' => fS (dirty o.op (opd tm) h.length) st' fun st' => xOps r st'
        | none => none
      | some false => fS none ⟨setD o.dst (.tup []) (kbT tm o.guard), h⟩ fun st' => xOps r st'
      | none => none

variable {E} {cl}
theorem op_of (hcl : ClOk E cl) {o : AOp} {st st' : AS} {K : AS → Prop} (h : xOp E cl o st = some st') (hk : K st') : vcOp E o st K := by
  obtain ⟨tm, hp⟩ := st
  unfold xOp at h
  simp only [fV_eq] at h
  unfold vcOp
  cases ha : allocs o.op with
  | true =>
    simp only [ha, cond_true] at h ⊢
    split at h
    · rename_i v h' hv
      injection h with h; subst h
      exact val_c (val_of hcl hv hk)
    · cases h
  | false =>
    simp only [ha, cond_false] at h ⊢
    split at h
    · rename_i v h' hv
      injection h with h; subst h
      exact val_c (val_of hcl hv hk)
    · cases h

theorem guard_of {st : AS} {g : Option (Nat × Bool)} {b : Bool} {y n : AS → Prop} (h : xGuard st.tm g = some b) (hy : b = true → y ⟨kbT st.tm g, st.h⟩) (hn : b = false → n ⟨kbT st.tm g, st.h⟩) : guardK st g y n := by
  unfold xGuard at h
  unfold guardK
  obtain ⟨tm, hp⟩ := st
  cases g with
  | none => injection h with h; subst h; exact hy rfl
  | some gw =>
    obtain ⟨g, want⟩ := gw
    simp only [kbT] at h hy hn ⊢
    cases hg : get tm g <;> simp only [hg] at h hy hn ⊢ <;> (try cases h; done)
    case bool c =>
      injection h with h
      cases want <;> cases c <;> simp at h <;> subst h
      · exact ⟨fun e => hy rfl, fun e => by cases e⟩
      · exact ⟨fun e => by (cases e), fun e => hn rfl⟩
      · exact ⟨fun e => by (cases e), fun e => hn rfl⟩
      · exact ⟨fun e => hy rfl, fun e => by cases e⟩
    case kb c =>
      injection h with h
      rw [h]
      cases b with
      | true => exact hy rfl
      | false => exact hn rfl
    case tup l =>
      cases l with
      | nil => injection h with h; subst h; exact hn rfl
      | cons _ _ => cases h

theorem ops_of (hcl : ClOk E cl) : ∀ (l : List AOp) (st st' : AS) (K : AS → Prop), xOps E cl l st = some st' → K st' → vcOps E l st K
  | [], st, st', K, h, hk => by injection h with h; subst h; exact hk
  | o :: r, st, st', K, h, hk => by
    obtain ⟨tm, hp⟩ := st
    simp only [xOps, fS_eq, fHd_eq] at h
    simp only [vcOps]
    cases hg : xGuard tm o.guard with
    | none => rw [hg] at h; cases h
    | some b =>
      rw [hg] at h
      cases b with
      | true =>
        simp only at h
        split at h
        · rename_i st1 h1
          exact guard_of hg (fun _ => op_of hcl h1 (ops_of hcl r st1 st' K h hk)) (fun e => nomatch e)
        · cases h
      | false => exact guard_of hg (fun e => nomatch e) (fun _ => ops_of hcl r _ st' K h hk)
end
end Go.Px

set_option linter.unusedVariables false
set_option linter.unusedSimpArgs false
set_option linter.unnecessarySimpa false
namespace Go.Px
open Go

noncomputable section
variable {Tb : Tab} (E : Env Tb) (cd : FuncId → List PV → Option PV)

def xGuardD (tm : List (Nat × PV)) (g : Option (Nat × Bool)) : Option Bool :=
  match g with
  | none => some true
  | some (g, want) =>
    match get tm g with
    | .kb b => some (cond want b (not b))
    | .tup [] => some false
    | _ => none
def freeB (al : Bool) (h : Hp) (id : Nat) : Bool :=
  bif al then (match getB h id with
    | none => true
    | some _ => false) else true
def xSplit (g : Bool) (v : PV) : PV :=
  match g, v with
  | true, .bool b => .kb b
  | _, v => v

def xValD (o : Op) (arg : Operand → PV) (h : Hp) (nid : Nat) : Option (PV × Hp) :=
  match o with
  | .buildSlice t len parts => okIf ((parts.toList.map fun p => unkb (arg p.2)).all (pureN 6) || (parts.toList.map fun p => unkb (arg p.2)).any hasPtr) (xVal E (fun _ _ _ => none) o arg h nid)
  | .call c =>
    match c.callee with
    | .value fo =>
      match arg fo with
      | .fn (.func g) first cap => okIf ((first ++ c.args.toList.map (fun x => unkb (arg x)) ++ cap).all (pureN 6)) ((cd g (first ++ c.args.toList.map (fun x => unkb (arg x)) ++ cap)).map fun r => (r, h))
      | _ => none
    | .builtin _ => xVal E (fun _ _ _ => none) o arg h nid
    | _ => none
  | .binOp op t x y z => okIf (!isConstNilS y) (xVal E (fun _ _ _ => none) o arg h nid)
  | .range _ _ => none
  | .next _ _ => none
  | o => xVal E (fun _ _ _ => none) o arg h nid

def xLine (gs : Option Nat → Bool) (n0 : Nat) : List AOp → Nat → AS → List DInfo → Option (AS × List DInfo)
  | [], _, st, acc => some (st, acc)
  | o :: r, i, st, acc =>
    match xGuardD st.tm o.guard with
    | some true => (match insOf o.op (opd st.tm) with
      | some (id, key, val) => okIf (insTy E o.op key && absent key (getB st.h id)) (fS (some [id]) ⟨setD o.dst .undef st.tm, insH (some (id, key, val)) st.h⟩ fun st' => fDi ⟨o.dst, looksOf o, [n0 + i], [], some (id, key, val)⟩ fun d => fL fId (acc ++ [d]) fun acc => fN (Nat.succ i) fun i => xLine gs n0 r i st' acc)
      | none => okIf (freeB (allocs o.op) st.h (n0 + i)) (match xValD E cd o.op (opd st.tm) st.h (n0 + i) with
      | some (v, h') => fV (xSplit (gs o.dst) v) fun v => fS (dirty o.op (opd st.tm) (n0 + i)) ⟨setD o.dst v st.tm, h'⟩ fun st' => fDi ⟨o.dst, looksOf o, touch o.op (opd st.tm) (n0 + i), wids o.op (opd st.tm) (n0 + i), none⟩ fun d => fL fId (acc ++ [d]) fun acc => fN (Nat.succ i) fun i => xLine gs n0 r i st' acc
      | none => none))
    | some false => fS none ⟨setD o.dst (.tup []) st.tm, st.h⟩ fun st' => fDi ⟨o.dst, looksOf o, [], [], none⟩ fun d => fL fId (acc ++ [d]) fun acc => fN (Nat.succ i) fun i => xLine gs n0 r i st' acc
    | none => none
def xDraw (ops : List AOp) (ancs : List Nat) (st : AS) : Option AS :=
  match xLine E cd (isG ops) st.h.length ops 0 ⟨st.tm, st.h ++ nones ops.length⟩ [] with
  | some (st', acc) => okIf (okPairsF ancs [] acc) (some ⟨st'.tm, trim st'.h⟩)
  | none => none

variable {E} {cd}
theorem guardD_of {st : AS} {g : Option (Nat × Bool)} {b : Bool} {y n : Prop} (h : xGuardD st.tm g = some b) (hy : b = true → y) (hn : b = false → n) : guardD st g y n := by
  unfold xGuardD at h
  unfold guardD
  cases g with
  | none => injection h with h; subst h; exact hy rfl
  | some gw =>
    obtain ⟨g, want⟩ := gw
    simp only at h ⊢
    split at h
    · rename_i c hc
      injection h with h
      simp only [hc, h]
      cases b with
      | true => exact hy rfl
      | false => exact hn rfl
    · rename_i hc; injection h with h; subst h; simp only [hc]; exact hn rfl
    · cases h
theorem split_of {g : Bool} {v : PV} {K : PV → Prop} (hk : K (xSplit g v)) : splitB g v K := by
  unfold splitB
  split
  · rename_i b
    cases b with
    | true => exact ⟨fun _ => hk, fun e => (nomatch e)⟩
    | false => exact ⟨fun e => (nomatch e), fun _ => hk⟩
  · rename_i h
    cases g with
    | false => exact hk
    | true =>
      cases v <;> first
        | exact hk
        | exact absurd rfl (h _ rfl)

theorem valD_of (hcd : ∀ g args r, cd g args = some r → CF E g args r) {o : Op} {arg : Operand → PV} {h h' : Hp} {nid : Nat} {v : PV} {K : PV → Hp → Prop} (he : xValD E cd o arg h nid = some (v, h')) (hk : K v h') : vcValDX E o arg h nid K := by
  have hno : ClOk E (fun _ _ _ => none) := ⟨fun g args h v h' he => (by cases he), fun id args h v h' he => (by cases he)⟩
  cases o <;> simp only [xValD] at he <;> simp only [vcValDX] <;> (try cases he; done) <;> (try exact val_c (val_of hno he hk))
  case binOp op t x y z =>
    obtain ⟨h0, he⟩ := okIf_some he
    have h1 : isConstNilS y = false := by simpa using h0
    simp only [h1, cond_false]
    exact val_c (val_of hno he hk)
  case buildSlice t len parts =>
    obtain ⟨h0, he⟩ := okIf_some he
    simp only [h0, cond_true]
    exact val_c (val_of hno he hk)
  case call c =>
    cases hc : c.callee with
    | value fo =>
      rw [hc] at he
      simp only at he ⊢
      split at he
      · rename_i hf
        obtain ⟨h0, he⟩ := okIf_some he
        obtain ⟨r, hr, he⟩ := Option.map_eq_some_iff.1 he
        injection he with h1 h2; subst h1 h2
        simp only [hf, callD, h0, cond_true]
        rcases hcd _ _ _ hr with ⟨hfok, hA⟩ | ⟨hfok, hA⟩
        · simp only [hfok, cond_true]; exact .inl ⟨_, hA, hk⟩
        · simp only [hfok, cond_false]; exact ⟨_, hA, hk⟩
      · cases he
    | invoke r m => rw [hc] at he; cases he
    | builtin b => rw [hc] at he; exact val_c (val_of hno he hk)

theorem line_of (hcd : ∀ g args r, cd g args = some r → CF E g args r) {gs : Option Nat → Bool} {n0 : Nat} {K : AS → List DInfo → Prop} : ∀ (l : List AOp) (i : Nat) (st st' : AS) (acc acc' : List DInfo), xLine E cd gs n0 l i st acc = some (st', acc') → K st' acc' → vcLine E gs n0 l i st acc K
  | [], i, st, st', acc, acc', h, hk => by
    simp only [xLine, Option.some.injEq, Prod.mk.injEq] at h
    obtain ⟨rfl, rfl⟩ := h
    exact hk
  | o :: r, i, st, st', acc, acc', h, hk => by
    simp only [xLine, fV_eq, fS_eq, fDi_eq, fL_eq (f := fId) (β := DInfo) (fun x k => rfl), fN_eq, Nat.succ_eq_add_one] at h
    simp only [vcLine]
    cases hg : xGuardD st.tm o.guard with
    | none => rw [hg] at h; cases h
    | some b =>
      rw [hg] at h
      cases b with
      | true =>
        simp only at h
        cases hins : insOf o.op (opd st.tm) with
        | some q =>
          obtain ⟨id, key, val⟩ := q
          rw [hins] at h
          simp only at h
          obtain ⟨h0, h⟩ := okIf_some h
          refine guardD_of hg (fun _ => ?_) (fun e => nomatch e)
          simp only [h0, cond_true]
          exact line_of hcd r (i + 1) _ st' _ acc' h hk
        | none =>
        rw [hins] at h
        simp only at h
        obtain ⟨h0, h⟩ := okIf_some h
        split at h
        · rename_i v h1 hv
          refine guardD_of hg (fun _ => ?_) (fun e => nomatch e)
          simp only
          have hfree : ∀ P : Prop, P → freeK (allocs o.op) st.h (n0 + i) P := fun P hp => by
            unfold freeB at h0
            unfold freeK
            cases ha : allocs o.op with
            | false => exact hp
            | true =>
              simp only [ha, cond_true] at h0 ⊢
              split at h0
              · rename_i hn; simp only [hn]; exact hp
              · cases h0
          exact hfree _ (valD_of hcd hv (split_of (line_of hcd r (i + 1) _ st' _ acc' h hk)))
        · cases h
      | false => exact guardD_of hg (fun e => nomatch e) (fun _ => line_of hcd r (i + 1) _ st' _ acc' h hk)
theorem draw_of (hcd : ∀ g args r, cd g args = some r → CF E g args r) {ops : List AOp} {ancs : List Nat} {st st' : AS} {K : AS → Prop} (h : xDraw E cd ops ancs st = some st') (hk : K st') : vcDraw E ops ancs st K := by
  unfold xDraw at h
  unfold vcDraw
  split at h
  · rename_i st1 acc hl
    obtain ⟨h0, h⟩ := okIf_some h
    injection h with h; subst h
    rw [okPairsF_eq] at h0
    exact ⟨line_of hcd ops 0 _ _ _ _ hl ⟨⟨h0⟩, hk⟩⟩
  · cases h
end
end Go.Px

set_option linter.unusedVariables false
set_option linter.unusedSimpArgs false
set_option linter.unnecessarySimpa false
namespace Go.Px
open Go

noncomputable section
variable {Tb : Tab} (E : Env Tb)

def xRets : List ResultVar → AS → Option (List PV)
  | [], _ => some []
  | .tmp t :: r, st => (xRets r st).map fun vs => unkb (get st.tm t) :: vs
  | .cell a t :: r, st => match xLoad E t (get st.tm a) st.h with
    | some v => (xRets r st).map fun vs => v :: vs
    | none => none
def xRet (rs : List ResultVar) (st : AS) : Option PV :=
  (xRets E rs st).map fun vs => match vs with
    | [v] => v
    | vs => .tup vs

def isRet : Exit → Bool
  | .normal => true
  | .ret => true
  | _ => false

variable (fnT : FuncId → Option AFn) (orc : FuncId → Option (List PV → Option PV))

def gcR (n : Nat) (v : PV) (h : Hp) : PV × Hp := bif gcOk n v h then (v, h.take n) else (v, h)
def fnCall (rn : ACode → AS → Option (Exit × AS)) (g : FuncId) (args : List PV) (h : Hp) : Option (PV × Hp) :=
  match fnT g with
  | some a => okIf (Nat.ble args.length a.n) (match fL fV args fun args => fT (number 0 args) fun tm => fS (some []) ⟨tm, h⟩ fun st => fAC a.code fun code => rn code st with
    | some (e, st) => okIf (isRet e) ((xRet E a.res st).map fun v => gcR h.length v st.h)
    | none => none)
  | none => none
def endX (id : Nat) (e : Exit) (st : AS) : Option (PV × Hp) :=
  match jumpOf e with
  | some j => match getB st.h id with
    | some (.box [.loopp _ _ ks vs li] fz) => some (.bool (isN j), setB st.h id (some (.box [.loopp (endJ j) j ks vs li] fz)))
    | _ => none
  | none => none
def ylOf (rn : ACode → AS → Option (Exit × AS)) (id : Nat) (args : List PV) (h : Hp) : Option (PV × Hp) :=
  match getB h id with
  | some (.box [.loopp .ready _ ks vs li] _) =>
    okIf ((Nat.beq args.length li.ps.length && li.ps.all (fun p => Nat.blt p li.n)) && (noRF li.assign && noRF li.body)) (match fT (setAll li.ps args (ks.zip vs)) fun tm => fS (some []) ⟨tm, h⟩ fun st => rn li.assign st with
      | some (.normal, st) => (match getB st.h id with
        | some (.box [.loopp .ready p ks vs li'] fz) => (match fS (some [id]) ⟨st.tm, setB st.h id (some (.box [.loopp .busy p ks vs li'] fz))⟩ fun st => rn li.body st with
          | some (e, st2) => endX id e st2
          | none => none)
        | _ => none)
      | _ => none)
  | _ => none
def clOf (rn : ACode → AS → Option (Exit × AS)) (f : Fn) (args : List PV) (h : Hp) : Option (PV × Hp) :=
  match f with
  | .func g => (match orc g with
    | some o => match xFzL (xFz 6) h args with
      | some (args', h') => match o args' with
        | some r => some (r, h')
        | none => okIf (E.fok g) (fnCall E fnT rn g args h)
      | none => okIf (E.fok g) (fnCall E fnT rn g args h)
    | none => okIf (E.fok g) (fnCall E fnT rn g args h))
  | .yield id => ylOf rn id args h
  | _ => none
def jumpE (pend : Option Code) : Option Exit :=
  match pend with
  | none => some .normal
  | some .ret => some .ret
  | some (.exit k) => some (.exit k)
  | _ => none
def overX (tm : List (Nat × PV)) (id : Nat) (h : Hp) : Option (Exit × AS) :=
  match getB h id with
  | some (.box [.loopp s pend _ _ li] fz) => okIf (notBusy s) ((jumpE pend).map fun e => (e, ⟨tm, setB h id (some (.box [.loopp .exhausted pend [] [] li] fz))⟩))
  | _ => none
def cdRun (rn : ACode → AS → Option (Exit × AS)) (g : FuncId) (args : List PV) : Option PV :=
  okIf (E.fok g) (match fnCall E fnT rn g args [] with
    | some (v, h') => (xFz 6 h' v).map (·.1)
    | none => none)
def cdOf (rn : ACode → AS → Option (Exit × AS)) (g : FuncId) (args : List PV) : Option PV :=
  match orc g with
  | some o => match o args with
    | some r => some r
    | none => cdRun E fnT rn g args
  | none => cdRun E fnT rn g args

def run : Nat → ACode → AS → Option (Exit × AS)
  | 0, _, _ => none
  | n + 1, c, st =>
    match c with
    | .skip => some (.normal, st)
    | .reg ops => (xOps E (clOf E fnT orc (run n)) ops st).map fun st' => (.normal, st')
    | .draw ops ancs => (xDraw E (cdOf E fnT orc (run n)) ops ancs st).map fun st' => (.normal, st')
    | .seq a b => match run n a st with
      | some (.normal, st') => run n b st'
      | r => r
    | .cond c a b => match get st.tm c with
      | .kb true => run n a st
      | .kb false => run n b st
      | .bool true => run n a ⟨setD (some c) (.kb true) st.tm, st.h⟩
      | .bool false => run n b ⟨setD (some c) (.kb false) st.tm, st.h⟩
      | _ => none
    | .block id c => match run n c st with
      | some (.exit id', st') => bif Nat.beq id' id then some (.normal, st') else some (.exit id', st')
      | r => r
    | .loop c => match run n c st with
      | some (.normal, st') => run n (.loop c) st'
      | r => r
    | .exit id => some (.exit id, st)
    | .ret => some (.ret, st)
    | .scope c => match run n c st with
      | some (.goto _, _) => none
      | r => r
    | .keep ks c => match run n c st with
      | some (e, ⟨tm', h'⟩) => fT (sel ks tm') fun tm => some (e, ⟨tm, h'⟩)
      | none => none
    | .rangeF m K f ps assign body => match opd st.tm f with
      | .fn (.func g) first cap => okIf (E.fok g) (match fnCall E fnT (run n) g (first ++ [.yl st.h.length] ++ cap) (st.h ++ [some (.box [.loopp .ready none (keysOf st.tm) (valsOf st.tm) ⟨m, K, ps, assign, body⟩] false)]) with
        | some (_, h') => overX st.tm st.h.length h'
        | none => none)
      | _ => none
    | .bad => none

variable {E} {fnT} {orc}

theorem rets_of : ∀ (rs : List ResultVar) (st : AS) (vs : List PV) (K : List PV → Prop), xRets E rs st = some vs → K vs → resVals E rs st K
  | [], st, vs, K, h, hk => by injection h with h; subst h; exact hk
  | .tmp t :: r, st, vs, K, h, hk => by
    simp only [xRets] at h
    obtain ⟨us, hu, h⟩ := Option.map_eq_some_iff.1 h
    subst h
    exact rets_of r st us _ hu hk
  | .cell a t :: r, st, vs, K, h, hk => by
    simp only [xRets] at h
    split at h
    · rename_i v hv
      obtain ⟨us, hu, h⟩ := Option.map_eq_some_iff.1 h
      subst h
      exact load_of (K := fun v _ => resVals E r st fun vs => K (v :: vs)) hv (rets_of r st us _ hu hk)
    · cases h
theorem ret_of {rs : List ResultVar} {st : AS} {v : PV} {K : PV → Prop} (h : xRet E rs st = some v) (hk : K v) : retK E rs st K := by
  unfold xRet at h
  unfold retK
  obtain ⟨vs, hv, h⟩ := Option.map_eq_some_iff.1 h
  refine rets_of rs st vs _ hv ?_
  subst h
  match vs, hk with
  | [], hk => exact hk
  | [_], hk => exact hk
  | _ :: _ :: _, hk => exact hk

/-- The table's functions are the program's. -/
def FnOk {Tb : Tab} (E : Env Tb) (fnT : FuncId → Option AFn) : Prop :=
  ∀ g a, fnT g = some a → ∃ fn c, E.P.funcs[g]? = some fn ∧ fn.body = some c ∧ fn.ntmps = a.n ∧ fn.results.toList = a.res ∧ erase a.K a.n c = a.code
def OrcOk {Tb : Tab} (E : Env Tb) (orc : FuncId → Option (List PV → Option PV)) : Prop :=
  ∀ g o args r, orc g = some o → o args = some r → CF E g args r
def RnOk {Tb : Tab} (E : Env Tb) (rn : ACode → AS → Option (Exit × AS)) : Prop :=
  ∀ c st e st', rn c st = some (e, st') → ∀ (N n0 : Nat) (Q : Exit → AS → Prop), Q e st' → vc E N n0 c st Q

theorem fn_AC (hf : FnOk E fnT) {rn : ACode → AS → Option (Exit × AS)} (hr : RnOk E rn) {g : FuncId} {args : List PV} {h h' : Hp} {v : PV} (hc : fnCall E fnT rn g args h = some (v, h')) : AC E g args h fun v2 h2 => v2 = v ∧ h2 = h' := by
  unfold fnCall at hc
  simp only [fL_eq (f := fV) fV_eq, fS_eq, fT_eq, fAC_eq] at hc
  split at hc
  · rename_i a ha
    obtain ⟨h0, hc⟩ := okIf_some hc
    split at hc
    · rename_i e st hrn
      obtain ⟨h1, hc⟩ := okIf_some hc
      obtain ⟨u, hu, hc⟩ := Option.map_eq_some_iff.1 hc
      obtain ⟨fn, c, f1, f2, f3, f4, f5⟩ := hf g a ha
      have hac : AC E g args h fun v2 h2 => v2 = u ∧ h2 = st.h := by
        refine AC_of_vc f1 f2 f3 f4 f5 h0 (hr _ _ _ _ hrn a.n h.length _ ?_)
        unfold endK
        cases e <;> first
          | (simp only [isRet] at h1; cases h1; done)
          | exact ret_of hu ⟨rfl, rfl⟩
      unfold gcR at hc
      cases hg : gcOk h.length u st.h with
      | true => rw [hg] at hc; injection hc with h2 h3; subst h2 h3; exact AC.gc hac hg
      | false => rw [hg] at hc; injection hc with h2 h3; subst h2 h3; exact hac
    · cases hc
  · cases hc

theorem yl_of {rn : ACode → AS → Option (Exit × AS)} (hr : RnOk E rn) {id : Nat} {args : List PV} {h h' : Hp} {v : PV} (hc : ylOf rn id args h = some (v, h')) {K : PV → Hp → Prop} (hk : K v h') : yieldK E id args h K := by
  unfold ylOf at hc
  simp only [fS_eq, fT_eq] at hc
  split at hc
  · rename_i pend ks vs li fz hb
    obtain ⟨h0, hc⟩ := okIf_some hc
    simp only [Bool.and_eq_true] at h0
    obtain ⟨⟨h1, h2⟩, h3, h4⟩ := h0
    split at hc
    · rename_i st hrn
      split at hc
      · rename_i p ks1 vs1 li1 fz1 hb1
        split at hc
        · rename_i e st2 hrn2
          refine ⟨fun v2 h2 => v2 = v ∧ h2 = h', RC_of_vc hb h1 h2 h3 h4 (hr _ _ _ _ hrn li.n h.length _ ?_), fun v2 h2 ⟨e1, e2⟩ => by subst e1 e2; exact hk⟩
          unfold begR
          simp only [hb1]
          refine hr _ _ _ _ hrn2 li.n h.length _ ?_
          unfold endX at hc
          unfold endR
          split at hc
          · rename_i j hj
            simp only [hj]
            split at hc
            · rename_i hb2
              simp only [hb2]
              injection hc with hc; injection hc with e1 e2; exact ⟨e1, e2⟩
            · cases hc
          · cases hc
        · cases hc
      · cases hc
    · cases hc
  · cases hc

theorem cl_of (hf : FnOk E fnT) (ho : OrcOk E orc) {rn : ACode → AS → Option (Exit × AS)} (hr : RnOk E rn) : ClOk E (clOf E fnT orc rn) := by
  refine ⟨?_, fun id args h v h' hc K hk => yl_of hr hc hk⟩
  intro g args h v h' hc nid K hk
  unfold callK
  have plain : okIf (E.fok g) (fnCall E fnT rn g args h) = some (v, h') → (bif E.fok g then
    (fzLK (fzK 6) h args fun args' h' => ∃ r, AF E g args' r ∧ K r h') ∨
    (fzLK (fzK 6) h args fun args' h' => ∃ e k xs, AFr E g args' e k xs ∧ K (.own nid xs.length) (setB h' nid (some (.row e k true xs 0)))) ∨
    (∃ R, AC E g args h R ∧ ∀ v h', R v h' → K v h')
  else fzLK (fzK 6) h args fun args' h' => ∃ r, NF E g args' r ∧ K r h') := fun hc => by
    obtain ⟨hfok, hc⟩ := okIf_some hc
    simp only [hfok, cond_true]
    exact .inr (.inr ⟨_, fn_AC hf hr hc, fun v2 h2 ⟨e1, e2⟩ => by subst e1 e2; exact hk⟩)
  cases hq : orc g with
  | none =>
    unfold clOf at hc
    simp only [hq] at hc
    exact plain hc
  | some o =>
    unfold clOf at hc
    simp only [hq] at hc
    split at hc
    · rename_i args' h1 hz
      split at hc
      · rename_i r hr'
        injection hc with hc
        injection hc with h2 h3; subst h2 h3
        rcases ho g o args' _ hq hr' with ⟨hfok, hA⟩ | ⟨hfok, hA⟩
        · simp only [hfok, cond_true]
          exact .inl (fzL_of (fz_of 6) _ _ _ _ _ hz ⟨_, hA, hk⟩)
        · simp only [hfok, cond_false]
          exact fzL_of (fz_of 6) _ _ _ _ _ hz ⟨_, hA, hk⟩
      · exact plain hc
    · exact plain hc
theorem over_of {tm : List (Nat × PV)} {id : Nat} {h : Hp} {e : Exit} {st : AS} {Q : Exit → AS → Prop} (hc : overX tm id h = some (e, st)) (hq : Q e st) : overK tm id h Q := by
  unfold overX at hc
  unfold overK
  split at hc
  · rename_i s pend ks vs li fz hb
    obtain ⟨h0, hc⟩ := okIf_some hc
    obtain ⟨e', he, hc⟩ := Option.map_eq_some_iff.1 hc
    injection hc with h1 h2; subst h1 h2
    simp only [hb, h0, cond_true]
    unfold jumpE at he
    unfold jumpK
    split at he <;> (try cases he; done) <;> (injection he with he; subst he; exact hq)
  · cases hc
theorem cdRun_of (hf : FnOk E fnT) {rn : ACode → AS → Option (Exit × AS)} (hr : RnOk E rn) (g : FuncId) (args : List PV) (r : PV) (hc : cdRun E fnT rn g args = some r) : CF E g args r := by
  unfold cdRun at hc
  obtain ⟨hfok, hc⟩ := okIf_some hc
  split at hc
  · rename_i v h' hv
    obtain ⟨⟨u, h2⟩, hu, hc⟩ := Option.map_eq_some_iff.1 hc
    simp only at hc
    subst hc
    refine .inl ⟨hfok, AF_of_AC (AC.mono (fn_AC hf hr hv) ?_)⟩
    rintro v2 h3 ⟨rfl, rfl⟩
    exact fz_of 6 _ _ _ _ _ hu rfl
  · cases hc
theorem cd_of (hf : FnOk E fnT) (ho : OrcOk E orc) {rn : ACode → AS → Option (Exit × AS)} (hr : RnOk E rn) (g : FuncId) (args : List PV) (r : PV) (hc : cdOf E fnT orc rn g args = some r) : CF E g args r := by
  unfold cdOf at hc
  cases hq : orc g with
  | some o =>
    rw [hq] at hc
    simp only at hc
    split at hc
    · rename_i r' hr'
      injection hc with hc
      subst hc
      exact ho g o args _ hq hr'
    · exact cdRun_of hf hr g args r hc
  | none => rw [hq] at hc; exact cdRun_of hf hr g args r hc

theorem run_of (hf : FnOk E fnT) (ho : OrcOk E orc) : ∀ n, RnOk E (run E fnT orc n)
  | 0 => fun c st e st' h => by cases h
  | n + 1 => by
    have ih := run_of hf ho n
    intro c st e st' h N n0 Q hQ
    cases c with
    | skip => simp only [run, Option.some.injEq, Prod.mk.injEq] at h; obtain ⟨rfl, rfl⟩ := h; exact hQ
    | reg ops =>
      simp only [run] at h
      obtain ⟨s1, h1, h⟩ := Option.map_eq_some_iff.1 h
      injection h with h2 h3; subst h2 h3
      exact ops_of (cl_of hf ho ih) _ _ _ _ h1 hQ
    | draw ops ancs =>
      simp only [run] at h
      obtain ⟨s1, h1, h⟩ := Option.map_eq_some_iff.1 h
      injection h with h2 h3; subst h2 h3
      exact draw_of (fun g args r => cd_of hf ho ih g args r) h1 hQ
    | seq a b =>
      simp only [run] at h
      simp only [vc]
      cases h1 : run E fnT orc n a st with
      | none => rw [h1] at h; cases h
      | some r =>
        obtain ⟨e1, s1⟩ := r
        rw [h1] at h
        refine ih a st e1 s1 h1 N n0 _ ?_
        cases e1 with
        | normal => exact ih b s1 e st' h N n0 Q hQ
        | _ => simp only [Option.some.injEq, Prod.mk.injEq] at h; obtain ⟨rfl, rfl⟩ := h; exact hQ
    | cond t a b =>
      simp only [run] at h
      simp only [vc]
      split at h
      · rename_i hg; simp only [hg]; exact ih a st e st' h N n0 Q hQ
      · rename_i hg; simp only [hg]; exact ih b st e st' h N n0 Q hQ
      · rename_i hg; simp only [hg]; exact ⟨fun _ => ih a _ e st' h N n0 Q hQ, fun e => (nomatch e)⟩
      · rename_i hg; simp only [hg]; exact ⟨fun e => (nomatch e), fun _ => ih b _ e st' h N n0 Q hQ⟩
      · cases h
    | block id c =>
      simp only [run] at h
      simp only [vc]
      cases h1 : run E fnT orc n c st with
      | none => rw [h1] at h; cases h
      | some r =>
        obtain ⟨e1, s1⟩ := r
        rw [h1] at h
        refine ih c st e1 s1 h1 N n0 _ ?_
        cases e1 with
        | exit id' =>
          simp only at h ⊢
          cases hb : Nat.beq id' id with
          | true => simp only [hb, cond_true, Option.some.injEq, Prod.mk.injEq] at h ⊢; obtain ⟨rfl, rfl⟩ := h; exact hQ
          | false => simp only [hb, cond_false, Option.some.injEq, Prod.mk.injEq] at h ⊢; obtain ⟨rfl, rfl⟩ := h; exact hQ
        | _ => simp only [Option.some.injEq, Prod.mk.injEq] at h; obtain ⟨rfl, rfl⟩ := h; exact hQ
    | loop c =>
      simp only [run] at h
      simp only [vc]
      refine LoopVC.unroll ?_
      cases h1 : run E fnT orc n c st with
      | none => rw [h1] at h; cases h
      | some r =>
        obtain ⟨e1, s1⟩ := r
        rw [h1] at h
        refine ih c st e1 s1 h1 N n0 _ ?_
        cases e1 with
        | normal => exact ih (.loop c) s1 e st' h N n0 Q hQ
        | _ => simp only [Option.some.injEq, Prod.mk.injEq] at h; obtain ⟨rfl, rfl⟩ := h; exact hQ
    | exit id => simp only [run, Option.some.injEq, Prod.mk.injEq] at h; obtain ⟨rfl, rfl⟩ := h; exact hQ
    | ret => simp only [run, Option.some.injEq, Prod.mk.injEq] at h; obtain ⟨rfl, rfl⟩ := h; exact hQ
    | scope c =>
      simp only [run] at h
      simp only [vc]
      cases h1 : run E fnT orc n c st with
      | none => rw [h1] at h; cases h
      | some r =>
        obtain ⟨e1, s1⟩ := r
        rw [h1] at h
        refine ih c st e1 s1 h1 N n0 _ ?_
        cases e1 <;> first
          | (simp only [Option.some.injEq, Prod.mk.injEq] at h; obtain ⟨rfl, rfl⟩ := h; exact hQ)
          | cases h
    | keep ks c =>
      simp only [run, fT_eq] at h
      simp only [vc]
      cases h1 : run E fnT orc n c st with
      | none => rw [h1] at h; cases h
      | some r =>
        obtain ⟨e1, s1⟩ := r
        rw [h1] at h
        simp only [Option.some.injEq, Prod.mk.injEq] at h
        obtain ⟨rfl, rfl⟩ := h
        exact ih c st e1 s1 h1 N n0 _ hQ
    | rangeF m K f ps assign body =>
      simp only [run] at h
      simp only [vc, rangeK]
      split at h
      · rename_i hf'
        obtain ⟨h0, h⟩ := okIf_some h
        simp only [hf', h0, cond_true]
        split at h
        · rename_i v h' hc
          exact ⟨_, fn_AC hf ih hc, fun v2 h2 ⟨e1, e2⟩ => by subst e1 e2; exact over_of h hQ⟩
        · cases h
      · cases h
    | bad => simp only [run] at h; cases h
end
end Go.Px

set_option linter.unusedVariables false
namespace Go.Px
open Go

/-- A program's functions, as a run takes them. -/
def fnOf (P : Program) (keep : FuncId → Option (List (List Nat))) (g : FuncId) : Option AFn :=
  match P.funcs[g]? with
  | some fn => match fn.body with
    | some c => some ⟨keep g, fn.ntmps, fn.results.toList, erase (keep g) fn.ntmps c⟩
    | none => none
  | none => none

theorem fnOf_ok {Tb : Tab} {E : Env Tb} {P : Program} {keep : FuncId → Option (List (List Nat))} (hP : E.P = P) : FnOk E (fnOf P keep) := fun g a h => by
  unfold fnOf at h
  split at h
  · rename_i fn hf
    split at h
    · rename_i c hc
      injection h with h
      subst h
      exact ⟨fn, c, by rw [hP]; exact hf, hc, rfl, rfl, rfl⟩
    · cases h
  · cases h

def noOrc (_ : FuncId) : Option (List PV → Option PV) := none
theorem noOrc_ok {Tb : Tab} {E : Env Tb} : OrcOk E noOrc := fun g o args r h => by cases h

/-- A closed call, reckoned. -/
theorem closed {Tb : Tab} {E : Env Tb} {fnT : FuncId → Option AFn} {orc : FuncId → Option (List PV → Option PV)} (hf : FnOk E fnT) (ho : OrcOk E orc) {n : Nat} {g : FuncId} {args : List PV} {r : PV}
    (h : cdOf E fnT orc (run E fnT orc n) g args = some r) : CF E g args r := cd_of hf ho (run_of hf ho n) g args r h
end Go.Px

set_option linter.unusedVariables false
namespace Go.Px
open Go

/-! ### What is known of calls with closed values, for later runs -/
def eqBy : List UInt8 → List UInt8 → Bool
  | [], [] => true
  | a :: r, b :: r' => bif Nat.beq a.toNat b.toNat then eqBy r r' else false
  | _, _ => false
theorem eqBy_true : ∀ {a b : List UInt8}, eqBy a b = true → a = b
  | [], [], _ => rfl
  | a :: r, b :: r', h => by
    simp only [eqBy] at h
    cases hb : Nat.beq a.toNat b.toNat with
    | false => rw [hb] at h; cases h
    | true =>
      rw [hb] at h
      rw [UInt8.toNat_inj.1 (Nat.eq_of_beq_eq_true hb), eqBy_true h]
  | [], _ :: _, h => by cases h
  | _ :: _, [], h => by cases h
def eqI (a b : Int) : Bool :=
  match a, b with
  | .ofNat m, .ofNat n => Nat.beq m n
  | .negSucc m, .negSucc n => Nat.beq m n
  | _, _ => false
theorem eqI_true {a b : Int} (h : eqI a b = true) : a = b := by
  cases a <;> cases b <;> simp only [eqI] at h <;> first
    | (rw [Nat.eq_of_beq_eq_true h])
    | cases h
mutual
def eqPV : PV → PV → Bool
  | .int k a, .int k' b => bif decide (k = k') then eqI a b else false
  | .bool a, .bool b => decide (a = b)
  | .str a, .str b => eqBy a b
  | .nils, .nils => true
  | .nili, .nili => true
  | .sl a, .sl b => eqPVs a b
  | .agg a, .agg b => eqPVs a b
  | _, _ => false
def eqPVs : List PV → List PV → Bool
  | [], [] => true
  | a :: r, b :: r' => bif eqPV a b then eqPVs r r' else false
  | _, _ => false
end
mutual
theorem eqPV_true : ∀ {a b : PV}, eqPV a b = true → a = b := by
  intro a b h
  cases a <;> cases b <;> simp only [eqPV] at h <;> (try cases h; done) <;> first
    | rfl
    | (rw [eqBy_true h])
    | (rw [eqPVs_true h])
    | (rw [of_decide_eq_true h])
    | skip
  case int.int k x k' y =>
    cases hk : decide (k = k') with
    | false => rw [hk] at h; cases h
    | true => rw [hk] at h; rw [of_decide_eq_true hk, eqI_true h]
theorem eqPVs_true : ∀ {a b : List PV}, eqPVs a b = true → a = b
  | [], [], _ => rfl
  | a :: r, b :: r', h => by
    simp only [eqPVs] at h
    cases hb : eqPV a b with
    | false => rw [hb] at h; cases h
    | true => rw [hb] at h; rw [eqPV_true hb, eqPVs_true h]
  | [], _ :: _, h => by simp [eqPVs] at h
  | _ :: _, [], h => by simp [eqPVs] at h
end

structure Fact where
  f : FuncId
  args : List PV
  r : PV
def factOf : List Fact → FuncId → List PV → Option PV
  | [], _, _ => none
  | x :: l, f, args => bif Nat.beq x.f f then (bif eqPVs x.args args then some x.r else factOf l f args) else factOf l f args
def hasFact : List Fact → FuncId → Bool
  | [], _ => false
  | x :: l, f => bif Nat.beq x.f f then true else hasFact l f
/-- Functions without a Go body, and facts. -/
def orcOf (nat : FuncId → Option (List PV → Option PV)) (l : List Fact) (f : FuncId) : Option (List PV → Option PV) :=
  match nat f with
  | some o => some o
  | none => bif hasFact l f then some (factOf l f) else none

def FactsOk {Tb : Tab} (E : Env Tb) : List Fact → Prop
  | [] => True
  | x :: l => CF E x.f x.args x.r ∧ FactsOk E l
theorem fact_ok {Tb : Tab} {E : Env Tb} : ∀ {l : List Fact}, FactsOk E l → ∀ {f : FuncId} {args : List PV} {r : PV}, factOf l f args = some r → CF E f args r
  | x :: l, h, f, args, r, hr => by
    simp only [factOf] at hr
    cases hf : Nat.beq x.f f with
    | false => rw [hf] at hr; exact fact_ok h.2 hr
    | true =>
      rw [hf] at hr
      simp only [cond_true] at hr
      cases ha : eqPVs x.args args with
      | false => rw [ha] at hr; exact fact_ok h.2 hr
      | true =>
        rw [ha] at hr
        simp only [cond_true, Option.some.injEq] at hr
        have := h.1
        rwa [Nat.eq_of_beq_eq_true hf, eqPVs_true ha, hr] at this
theorem orcOf_ok {Tb : Tab} {E : Env Tb} {nat : FuncId → Option (List PV → Option PV)} {l : List Fact} (hn : OrcOk E nat) (hl : FactsOk E l) : OrcOk E (orcOf nat l) := fun g o args r h hr => by
  unfold orcOf at h
  split at h
  · rename_i o' ho
    injection h with h
    subst h
    exact hn g o' args r ho hr
  · cases hf : hasFact l g with
    | false => rw [hf] at h; cases h
    | true =>
      rw [hf] at h
      simp only [cond_true, Option.some.injEq] at h
      subst h
      exact fact_ok hl hr
end Go.Px
