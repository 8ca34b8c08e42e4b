/- Shows the values of the walks and how the machine holds them; no condition. -/
import Derived.Calls
import Derived.Laws.Sem
import Derived.Below
import Derived.Tactics
import Derived.Orders
import Derived.OrdersIn
import Derived.TacticsIn
import Derived.RangeFuncRecord
import Derived.Laws.World
import Derived.WalkKit
import Derived.Laws.AppendOwn
import Derived.Laws.CopyRow
set_option linter.unusedVariables false
namespace Go.Px
open Go

/-! ### The code without what a run doesn't ask -/
structure AOp where
  dst : Option Nat
  op : Op
  guard : Option (Nat × Bool)

inductive ACode where
  | skip
  | reg (ops : List AOp)
  | draw (ops : List AOp) (ancs : List Nat)
  | seq (a b : ACode)
  | cond (c : Nat) (a b : ACode)
  | block (id : Nat) (c : ACode)
  | loop (c : ACode)
  | exit (id : Nat)
  | ret
  | scope (c : ACode)
  | keep (ks : List Nat) (c : ACode)
  | rangeF (n : Nat) (K : Option (List (List Nat))) (f : Operand) (ps : List Nat) (assign body : ACode)
  | bad
  deriving Inhabited

/-- What binds an operation, and what binds that: as the bits of a number. -/
def ancsOf : List Nat → List (List Nat) → List Nat
  | acc, [] => acc
  | acc, es :: r => ancsOf (acc ++ [es.foldl (fun m e => Nat.lor (Nat.lor m (Nat.shiftLeft 1 e)) (acc.getD e 0)) 0]) r
theorem bit_one {e i : Nat} (h : (Nat.shiftLeft 1 e).testBit i = true) : i = e := by
  have h : (1 <<< e).testBit i = true := h
  rw [Nat.testBit_shiftLeft] at h
  simp only [Bool.and_eq_true, decide_eq_true_eq] at h
  have h2 := h.2
  rw [show (1 : Nat) = 2 ^ 0 from rfl, Nat.testBit_two_pow] at h2
  simp at h2
  omega
theorem bit_fold {acc : List Nat} {i : Nat} : ∀ (es : List Nat) (m : Nat), (es.foldl (fun m e => Nat.lor (Nat.lor m (Nat.shiftLeft 1 e)) (acc.getD e 0)) m).testBit i = true →
    m.testBit i = true ∨ ∃ e ∈ es, i = e ∨ (acc.getD e 0).testBit i = true
  | [], m, h => .inl h
  | e :: es, m, h => by
    rcases bit_fold es _ h with h1 | ⟨e', he, h1⟩
    · have h2 : ((m ||| Nat.shiftLeft 1 e) ||| acc.getD e 0).testBit i = true := h1
      rw [Nat.testBit_or, Nat.testBit_or, Bool.or_eq_true, Bool.or_eq_true] at h2
      rcases h2 with (h2 | h2) | h2
      · exact .inl h2
      · exact .inr ⟨e, List.mem_cons_self, .inl (bit_one h2)⟩
      · exact .inr ⟨e, List.mem_cons_self, .inr h2⟩
    · exact .inr ⟨e', List.mem_cons_of_mem _ he, h1⟩
def edgesOf (o : Oper) : List Nat := (o.after.toList.filter fun e => Region.binds .any e).map (·.on)
def edgesOK : Nat → List (List Nat) → Bool
  | _, [] => true
  | j, es :: r => es.all (fun e => Nat.blt e j) && edgesOK (j + 1) r

def dok (N : Nat) : Option Nat → Bool
  | some d => Nat.blt d N
  | none => true
def eGuard (N : Nat) (ops : Array Oper) : Option (Nat × Bool) → Option (Option (Nat × Bool))
  | none => some none
  | some (j, b) =>
    match (ops[j]?).bind (·.dst) with
    | some t => bif Nat.blt t N then some (some (t, b)) else none
    | none => none
def eraseOps (N : Nat) (ops : Array Oper) : List Oper → Option (List AOp)
  | [] => some []
  | o :: r =>
    match eraseOps N ops r, eGuard N ops o.guard with
    | some r', some g => bif dok N o.dst then some (⟨o.dst, o.op, g⟩ :: r') else none
    | _, _ => none

def eraseR (N : Nat) (ops : Array Oper) (draw : Bool) : ACode :=
  match eraseOps N ops ops.toList with
  | some l => bif draw then (bif edgesOK 0 (ops.toList.map edgesOf) && Region.noSelect ops then .draw l (ancsOf [] (ops.toList.map edgesOf)) else .bad) else .reg l
  | none => .bad
def kp (K : Option (List (List Nat))) (id : Nat) (c : ACode) : ACode :=
  match K with
  | some kss => match kss[id]? with
    | some ks => .keep ks c
    | none => c
  | none => c
/-- K: the slots that are kept behind a region (all, where none are named). -/
def erase (K : Option (List (List Nat))) (N : Nat) : Code → ACode
  | .skip => .skip
  | .label _ => .skip
  | .region id ops draw => kp K id (eraseR N ops draw)
  | .seq a b => .seq (erase K N a) (erase K N b)
  | .cond (.tmp c) a b => .cond c (erase K N a) (erase K N b)
  | .cond (.const (.bool true)) a _ => erase K N a
  | .cond (.const (.bool false)) _ b => erase K N b
  | .block id c => .block id (erase K N c)
  | .loop c => .loop (erase K N c)
  | .exit id => .exit id
  | .ret => .ret
  | .scope c => .scope (erase K N c)
  | .rangeFunc f ps assign body => .rangeF N K f ps.toList (erase K N assign) (erase K N body)
  | _ => .bad

def noRF : ACode → Bool
  | .rangeF _ _ _ _ _ _ => false
  | .seq a b => noRF a && noRF b
  | .cond _ a b => noRF a && noRF b
  | .block _ c => noRF c
  | .loop c => noRF c
  | .scope c => noRF c
  | .keep _ c => noRF c
  | _ => true

/-- What a loop over a function bears. -/
structure LI where
  n : Nat
  K : Option (List (List Nat))
  ps : List Nat
  assign : ACode
  body : ACode
  deriving Inhabited

/-- The frames of a walk: a function's, or a round's. -/
def fw : Option Nat → Fence
  | none => Fence.wide
  | some l => Fence.wide.inRound l
theorem fw_round (r : Option Nat) : (fw r).round = r := by cases r <;> rfl
theorem fw_fn (r : Option Nat) (f : FuncId) : (fw r).fn f := by cases r <;> trivial
theorem fw_depth (r : Option Nat) : (fw r).depth = none := by cases r <;> rfl
theorem fw_room (r : Option Nat) (n : Nat) : (fw r).room n := fun d hd => by rw [fw_depth] at hd; cases hd
theorem callsIn_fw {r : Option Nat} {n : Nat} {P : Program} {f : FuncId} {args : Array Value} {w : World} {R : Ending → World → Prop} : CallsIn (fw r) n P f args w R ↔ Calls P f args w R := by
  cases r with
  | none => exact callsIn_wide
  | some l => exact callsIn_wide (n := n)
theorem roundIn_fw {r : Option Nat} {n m : Nat} {P : Program} {l : Nat} {f : FuncId} {tmps : Array Value} {assign body : Code} {w : World} {R : Ending → World → Prop} (h : RoundIn Fence.wide n P l f tmps assign body w R) : RoundIn (fw r) m P l f tmps assign body w R := by
  cases r with
  | none => exact ⟨trivial, fun c cs _ => h.2 c cs (room_wide _)⟩
  | some l => exact ⟨trivial, fun c cs _ => h.2 c cs (room_wide _)⟩

/-- An operation, from what it comes to. -/
theorem wpIn_exec {r : Option Nat} {P : Program} {o : Oper} {a : Act} {w : World} {next : Act → World → Prop} {Q : Exit → Act → World → Prop} (hd : ∀ c, o.op ≠ .defer c) {res : Result Next} (he : (execOp a.eval o).run P w = res)
    (hu : o.uponIn (fw r) 0 P a next Q res) : o.wpIn (fw r) 0 P a w next Q := by
  refine ⟨fun f _ => fw_fn r f, ?_⟩
  rw [fw_round, Oper.semAt_eq r _ _ hd, he]
  exact hu

theorem stepR_scope {P : Program} {b : Frame} {a : Act} {k : List Item} {cs : List Frame} {w : World} {c : Code} : step P (lone (b.atR a (.code (.scope c) :: k)) cs w) = .next (lone (b.atR a (.code c :: .inScope c :: k)) cs w) :=
  step_lone_go (by simp [stepG, stepG.exec, Frame.atR])
theorem stepR_inScope {P : Program} {b : Frame} {a : Act} {k : List Item} {cs : List Frame} {w : World} {c : Code} : step P (lone (b.atR a (.inScope c :: k)) cs w) = .next (lone (b.atR a k) cs w) :=
  step_lone_go (by simp [stepG, stepG.exec, Frame.atR])

def noGoto (Q : Exit → Act → World → Prop) : Exit → Act → World → Prop
  | .goto _, _, _ => False
  | e, a, w => Q e a w
theorem wpIn_scope {r : Option Nat} {P : Program} {c : Code} {Q : Exit → Act → World → Prop} {a : Act} {w : World} (h : c.wpIn (fw r) 0 P (noGoto Q) a w) : (Code.scope c).wpIn (fw r) 0 P Q a w := by
  intro b k cs hro hb hr
  obtain ⟨e, a₁, w₁, hq, harr⟩ := h b (.inScope c :: k) cs hro hb hr
  have h0 : (lone (b.atR a (.code (.scope c) :: k)) cs w).fenced P (fw r) := fenced_calm hb hr rfl
  cases e with
  | normal => exact ⟨.normal, a₁, w₁, hq, .head h0 stepR_scope (StepsIn.trans harr (.one (fenced_calm hb hr rfl) stepR_inScope))⟩
  | exit id =>
    have hx : exitTo id (.inScope c :: k) = exitTo id k := by simp [exitTo]
    exact ⟨_, a₁, w₁, hq, fun k' hk => .head h0 stepR_scope (harr.1 k' (by rw [hx]; exact hk)), fun hr' hk => let ⟨k₁, h1, h2⟩ := harr.2 hr' (by rw [hx]; exact hk); ⟨k₁, h1, .head h0 stepR_scope h2⟩⟩
  | goto l => exact hq.elim
  | ret => exact ⟨_, a₁, w₁, hq, .of_steps (.one h0 stepR_scope) harr⟩
  | panic ch => exact ⟨_, a₁, w₁, hq, .of_steps (.one h0 stepR_scope) harr⟩
  | outgrown => exact ⟨_, a₁, w₁, hq, .of_steps (.one h0 stepR_scope) harr⟩

/-! ### What lies under a loop over a function -/
def markOf (D : Nat) : Deferred := { target := .collected D, args := #[] }
end Go.Px

namespace Go.Px
open Go

/-- Pure values, and values that lead into the call's own memory ('own', 'ptr', 'rp', 'mapo'). -/
inductive PV where
  | undef
  | int (k : IntKind) (n : Int)
  | bool (b : Bool)
  | kb (b : Bool)
  | str (l : List UInt8)
  | nili
  | nilf
  | err
  | sl (xs : List PV)
  | agg (cs : List PV)
  | tup (vs : List PV)
  | nils
  | own (id n : Nat)
  | ptr (id off : Nat)
  | rp (id n i off : Nat)
  | pp (cs : List PV) (off : Nat)
  | fn (f : Fn) (first cap : List PV)
  | fresh (k : Nat) (xs : List PV)
  | gp (g off : Nat)
  | mapo (id : Nat)
  | mapp (ks vs : List PV)
  | yl (id : Nat)
  | itp (l : List UInt8) (pos : Nat)
  | loopp (s : LoopState) (pend : Option Code) (ks : List Nat) (vs : List PV) (li : LI)
  deriving Inhabited

abbrev Foot := Nat → Nat → Prop

def PV.cells : PV → List PV
  | .agg cs => cs
  | v => [v]

mutual
def RepP (w : World) (F : Foot) : PV → Value → Prop
  | .undef, _ => True
  | .int k n, V => V = .int k n
  | .bool b, V => V = .bool b
  | .kb b, V => V = .bool b
  | .str l, V => V = .string ⟨⟨l⟩⟩
  | .nili, V => V = .nilIface
  | .nilf, V => V = .nilFunc ∨ V = .pointer none
  | .err, V => ∃ t v, V = .iface t v
  | .sl xs, V => ∃ A c, V = .slice A xs.length c ∧ xs.length ≤ c ∧ (xs = [] ∨ ∃ b off k, 0 < k ∧ A = some ⟨b, off, none⟩ ∧ RepRow w F xs b off k)
  | .agg cs, V => ∃ arr : Array Value, V = .agg arr ∧ RepL w F cs arr.toList
  | .tup cs, V => ∃ arr : Array Value, V = .tuple arr ∧ RepL w F cs arr.toList
  | .nils, V => ∃ A, V = .slice A 0 0
  | .pp cs off, V => ∃ b base, V = .pointer (some ⟨b, base + off, none⟩) ∧ RepCs w F cs b base
  | .fn f fi ca, V => ∃ fa ga : Array Value, V = .func f fa ga ∧ RepL w F fi fa.toList ∧ RepL w F ca ga.toList
  | .gp g off, V => V = .pointer (some ⟨g, off, none⟩)
  | _, _ => False
def RepL (w : World) (F : Foot) : List PV → List Value → Prop
  | [], vs => vs = []
  | x :: xs, vs => ∃ v vs', vs = v :: vs' ∧ RepP w F x v ∧ RepL w F xs vs'
def RepRow (w : World) (F : Foot) : List PV → Nat → Nat → Nat → Prop
  | [], _, _, _ => True
  | x :: xs, b, off, k =>
    (match x with
      | .agg cs => cs.length = k ∧ RepCs w F cs b off
      | y => k = 1 ∧ F b off ∧ ∃ U, w.cell? ⟨b, off, none⟩ = some U ∧ U.oneCell' = true ∧ RepP w F y U) ∧ RepRow w F xs b (off + k) k
def RepCs (w : World) (F : Foot) : List PV → Nat → Nat → Prop
  | [], _, _ => True
  | c :: cs, b, off => (F b off ∧ ∃ U, w.cell? ⟨b, off, none⟩ = some U ∧ U.oneCell' = true ∧ RepP w F c U) ∧ RepCs w F cs b (off + 1)
end


theorem RepCs_iff {w : World} {F : Foot} : ∀ (cs : List PV) (b off : Nat),
    RepCs w F cs b off ↔ ∀ (i : Nat) (c : PV), cs[i]? = some c → F b (off + i) ∧ ∃ U, w.cell? ⟨b, off + i, none⟩ = some U ∧ U.oneCell' = true ∧ RepP w F c U
  | [], b, off => by simp [RepCs]
  | c :: cs, b, off => by
    simp only [RepCs, RepCs_iff cs b (off + 1)]
    constructor
    · rintro ⟨h0, h⟩ i x hx
      cases i with
      | zero => simp at hx; subst hx; exact h0
      | succ i =>
        have := h i x (by simpa using hx)
        rwa [Nat.add_assoc, Nat.add_comm 1 i] at this
    · intro h
      refine ⟨h 0 c rfl, fun i x hx => ?_⟩
      have := h (i + 1) x (by simpa using hx)
      rwa [Nat.add_assoc, Nat.add_comm 1 i]

theorem RepRow_iff {w : World} {F : Foot} : ∀ (xs : List PV) (b off k : Nat),
    RepRow w F xs b off k ↔ ∀ (j : Nat) (x : PV), xs[j]? = some x → x.cells.length = k ∧
      ∀ (i : Nat) (c : PV), x.cells[i]? = some c → F b (off + j * k + i) ∧ ∃ U, w.cell? ⟨b, off + j * k + i, none⟩ = some U ∧ U.oneCell' = true ∧ RepP w F c U
  | [], b, off, k => by simp [RepRow]
  | x :: xs, b, off, k => by
    have hx : (match x with
      | .agg cs => cs.length = k ∧ RepCs w F cs b off
      | y => k = 1 ∧ F b off ∧ ∃ U, w.cell? ⟨b, off, none⟩ = some U ∧ U.oneCell' = true ∧ RepP w F y U) ↔ (x.cells.length = k ∧
      ∀ (i : Nat) (c : PV), x.cells[i]? = some c → F b (off + i) ∧ ∃ U, w.cell? ⟨b, off + i, none⟩ = some U ∧ U.oneCell' = true ∧ RepP w F c U) := by
      cases x with
      | agg cs => simp only [PV.cells, RepCs_iff]
      | _ =>
        simp only [PV.cells, List.length_singleton]
        constructor
        · rintro ⟨rfl, h1, h2⟩
          refine ⟨rfl, fun i c hc => ?_⟩
          cases i with
          | zero => simp at hc; subst hc; exact ⟨h1, h2⟩
          | succ i => simp at hc
        · rintro ⟨rfl, h⟩
          exact ⟨rfl, h 0 _ rfl⟩
    unfold RepRow
    rw [hx, RepRow_iff xs b (off + k) k]
    constructor
    · rintro ⟨h0, h⟩ j y hy
      cases j with
      | zero => simp at hy; subst hy; simpa using h0
      | succ j =>
        have := h j y (by simpa using hy)
        rwa [show off + k + j * k = off + (j + 1) * k by rw [Nat.succ_mul]; omega] at this
    · intro h
      refine ⟨by simpa using h 0 x rfl, fun j y hy => ?_⟩
      have := h (j + 1) y (by simpa using hy)
      rwa [show off + k + j * k = off + (j + 1) * k by rw [Nat.succ_mul]; omega]

theorem RepL_iff {w : World} {F : Foot} : ∀ (xs : List PV) (vs : List Value),
    RepL w F xs vs ↔ xs.length = vs.length ∧ ∀ (i : Nat) (x : PV), xs[i]? = some x → ∃ v, vs[i]? = some v ∧ RepP w F x v
  | [], vs => by
    simp only [RepL]
    constructor
    · rintro rfl; simp
    · rintro ⟨h, _⟩; exact List.eq_nil_of_length_eq_zero (by simpa using h.symm)
  | x :: xs, vs => by
    simp only [RepL]
    constructor
    · rintro ⟨v, vs', rfl, h0, h⟩
      rw [RepL_iff xs vs'] at h
      refine ⟨by simp [h.1], fun i y hy => ?_⟩
      cases i with
      | zero => simp at hy; subst hy; exact ⟨v, rfl, h0⟩
      | succ i => simpa using h.2 i y (by simpa using hy)
    · rintro ⟨hl, h⟩
      cases vs with
      | nil => simp at hl
      | cons v vs' =>
        refine ⟨v, vs', rfl, ?_, (RepL_iff xs vs').2 ⟨by simpa using hl, fun i y hy => ?_⟩⟩
        · obtain ⟨u, hu, hr⟩ := h 0 x rfl
          simp at hu; subst hu; exact hr
        · simpa using h (i + 1) y (by simpa using hy)

/-- What a set of cells keeps. -/
def Keeps (w : World) (F : Foot) (w' : World) (F' : Foot) : Prop :=
  ∀ b i, F b i → F' b i ∧ w'.cell? ⟨b, i, none⟩ = w.cell? ⟨b, i, none⟩

mutual
theorem RepP.mono {w w' : World} {F F' : Foot} (k : Keeps w F w' F') : ∀ (v : PV) (V : Value), RepP w F v V → RepP w' F' v V
  | .undef, _, _ => by simp [RepP]
  | .int _ _, V, h => by simpa [RepP] using h
  | .bool _, V, h => by simpa [RepP] using h
  | .kb _, V, h => by simpa [RepP] using h
  | .str _, V, h => by simpa [RepP] using h
  | .nili, V, h => by simpa [RepP] using h
  | .nilf, V, h => by simpa [RepP] using h
  | .err, V, h => by simpa [RepP] using h
  | .sl xs, V, h => by
    simp only [RepP] at h ⊢
    obtain ⟨A, c, h1, h2, h3⟩ := h
    refine ⟨A, c, h1, h2, h3.imp id ?_⟩
    rintro ⟨b, off, kk, hk, hA, hr⟩
    exact ⟨b, off, kk, hk, hA, RepRow.mono k xs b off kk hr⟩
  | .agg cs, V, h => by
    simp only [RepP] at h ⊢
    obtain ⟨arr, h1, h2⟩ := h
    exact ⟨arr, h1, RepL.mono k cs _ h2⟩
  | .tup cs, V, h => by
    simp only [RepP] at h ⊢
    obtain ⟨arr, h1, h2⟩ := h
    exact ⟨arr, h1, RepL.mono k cs _ h2⟩
  | .nils, V, h => by simpa [RepP] using h
  | .own _ _, V, h => by simp [RepP] at h
  | .ptr _ _, V, h => by simp [RepP] at h
  | .rp _ _ _ _, V, h => by simp [RepP] at h
  | .pp cs off, V, h => by
    simp only [RepP] at h ⊢
    obtain ⟨b, base, h1, h2⟩ := h
    exact ⟨b, base, h1, RepCs.mono k cs b base h2⟩
  | .fn f fi ca, V, h => by
    simp only [RepP] at h ⊢
    obtain ⟨fa, ga, h1, h2, h3⟩ := h
    exact ⟨fa, ga, h1, RepL.mono k fi _ h2, RepL.mono k ca _ h3⟩
  | .fresh _ _, V, h => by simp [RepP] at h
  | .gp g off, V, h => by simpa [RepP] using h
  | .mapo _, V, h => by simp [RepP] at h
  | .mapp _ _, V, h => by simp [RepP] at h
  | .yl _, V, h => by simp [RepP] at h
  | .itp _ _, V, h => by simp [RepP] at h
  | .loopp _ _ _ _ _, V, h => by simp [RepP] at h
theorem RepL.mono {w w' : World} {F F' : Foot} (k : Keeps w F w' F') : ∀ (vs : List PV) (Vs : List Value), RepL w F vs Vs → RepL w' F' vs Vs
  | [], _, h => by simpa [RepL] using h
  | x :: xs, Vs, h => by
    simp only [RepL] at h ⊢
    obtain ⟨v, vs', h1, h2, h3⟩ := h
    exact ⟨v, vs', h1, RepP.mono k x v h2, RepL.mono k xs vs' h3⟩
theorem RepRow.mono {w w' : World} {F F' : Foot} (k : Keeps w F w' F') : ∀ (xs : List PV) (b off kk : Nat), RepRow w F xs b off kk → RepRow w' F' xs b off kk
  | [], _, _, _, _ => by simp [RepRow]
  | x :: xs, b, off, kk, h => by
    unfold RepRow at h ⊢
    obtain ⟨h1, h2⟩ := h
    refine ⟨?_, RepRow.mono k xs b _ kk h2⟩
    cases x with
    | agg cs => exact ⟨h1.1, RepCs.mono k cs b off h1.2⟩
    | _ =>
      obtain ⟨hk, hF, U, hU, ho, hr⟩ := h1
      exact ⟨hk, (k _ _ hF).1, U, (k _ _ hF).2.trans hU, ho, RepP.mono k _ U hr⟩
theorem RepCs.mono {w w' : World} {F F' : Foot} (k : Keeps w F w' F') : ∀ (cs : List PV) (b off : Nat), RepCs w F cs b off → RepCs w' F' cs b off
  | [], _, _, _ => by simp [RepCs]
  | c :: cs, b, off, h => by
    simp only [RepCs] at h ⊢
    obtain ⟨⟨hF, U, hU, ho, hr⟩, h2⟩ := h
    exact ⟨⟨(k _ _ hF).1, U, (k _ _ hF).2.trans hU, ho, RepP.mono k c U hr⟩, RepCs.mono k cs b (off + 1) h2⟩
end

/-! ### The call's own memory -/
inductive Blk where
  | box (cs : List PV) (fz : Bool)
  | row (e : TypeId) (k : Nat) (pr : Bool) (xs : List PV) (fz : Nat)
  deriving Inhabited
abbrev Hp := List (Option Blk)
def getB : Hp → Nat → Option Blk
  | [], _ => none
  | b :: _, 0 => b
  | _ :: h, n + 1 => getB h n
def setB : Hp → Nat → Option Blk → Hp
  | [], _, _ => []
  | _ :: h, 0, x => x :: h
  | b :: h, n + 1, x => b :: setB h n x
theorem length_setB : ∀ (h : Hp) (n : Nat) (x : Option Blk), (setB h n x).length = h.length
  | [], _, _ => rfl
  | _ :: _, 0, _ => rfl
  | _ :: h, n + 1, x => by simp [setB, length_setB h n x]
theorem getB_setB_ne : ∀ (h : Hp) (n m : Nat) (x : Option Blk), m ≠ n → getB (setB h n x) m = getB h m
  | [], _, _, _, _ => rfl
  | _ :: _, 0, m, _, hm => by cases m with | zero => exact absurd rfl hm | succ m => rfl
  | _ :: h, n + 1, m, x, hm => by
    cases m with
    | zero => rfl
    | succ m => simp only [setB, getB]; exact getB_setB_ne h n m x (by omega)
theorem getB_setB_self : ∀ (h : Hp) (n : Nat) (x : Option Blk), n < h.length → getB (setB h n x) n = x
  | [], _, _, hn => by simp at hn
  | _ :: _, 0, _, _ => rfl
  | _ :: h, n + 1, x, hn => by simp only [setB, getB]; exact getB_setB_self h n x (by simpa using hn)
theorem getB_lt : ∀ (h : Hp) (n : Nat) (b : Blk), getB h n = some b → n < h.length
  | [], _, _, hb => by simp [getB] at hb
  | _ :: _, 0, _, _ => by simp
  | _ :: h, n + 1, b, hb => by have := getB_lt h n b hb; simp; omega
theorem getB_append_lt : ∀ (h g : Hp) (n : Nat), n < h.length → getB (h ++ g) n = getB h n
  | [], _, _, hn => by simp at hn
  | _ :: _, _, 0, _ => rfl
  | _ :: h, g, n + 1, hn => by simp only [List.cons_append, getB]; exact getB_append_lt h g n (by simpa using hn)
theorem getB_append_new : ∀ (h : Hp) (x : Option Blk), getB (h ++ [x]) h.length = x
  | [], _ => rfl
  | _ :: h, x => getB_append_new h x
theorem getB_append_cases (h : Hp) (x : Option Blk) (n : Nat) (b : Blk) (hb : getB (h ++ [x]) n = some b) : (n < h.length ∧ getB h n = some b) ∨ (n = h.length ∧ x = some b) := by
  have hl := getB_lt _ _ _ hb
  simp at hl
  rcases Nat.lt_or_eq_of_le (show n ≤ h.length by omega) with h1 | h1
  · exact .inl ⟨h1, by rwa [getB_append_lt h _ n h1] at hb⟩
  · subst h1; rw [getB_append_new] at hb; exact .inr ⟨rfl, hb⟩

def notMap : List PV → Bool
  | [.mapp _ _] => false
  | [.loopp _ _ _ _ _] => false
  | [.itp _ _] => false
  | _ => true

mutual
def Rep (w : World) (F : Foot) (β : Nat → Nat) (h : Hp) : PV → Value → Prop
  | .own id n, V => ∃ A c, V = .slice A n c ∧ n ≤ c ∧ ∃ e k pr xs fz, getB h id = some (.row e k pr xs fz) ∧ n ≤ xs.length ∧
      (n = xs.length → A = some ⟨β id, 0, none⟩ ∧ ∃ arr, w.heap[β id]? = some (.cells arr e (0, 0)) ∧ arr.size = c * k)
  | .ptr id off, V => ∃ cs fz, getB h id = some (.box cs fz) ∧ V = .pointer (some ⟨β id, off, none⟩)
  | .rp id n i off, V => (∃ A, V = .pointer A) ∧ ∃ e k pr xs fz, getB h id = some (.row e k pr xs fz) ∧ n ≤ xs.length ∧ (n = xs.length → V = .pointer (some ⟨β id, i * k + off, none⟩))
  | .mapo id, V => V = .map (some (β id)) ∧ ∃ cs fz, getB h id = some (.box cs fz)
  | .yl id, V => V = .func (.yield (β id)) #[] #[] ∧ ∃ cs fz, getB h id = some (.box cs fz)
  | .agg cs, V => ∃ arr : Array Value, V = .agg arr ∧ ReL w F β h cs arr.toList
  | .tup cs, V => ∃ arr : Array Value, V = .tuple arr ∧ ReL w F β h cs arr.toList
  | .fn f fi ca, V => ∃ fa ga : Array Value, V = .func f fa ga ∧ ReL w F β h fi fa.toList ∧ ReL w F β h ca ga.toList
  | v, V => RepP w F v V
def ReL (w : World) (F : Foot) (β : Nat → Nat) (h : Hp) : List PV → List Value → Prop
  | [], vs => vs = []
  | x :: xs, vs => ∃ v vs', vs = v :: vs' ∧ Rep w F β h x v ∧ ReL w F β h xs vs'
end

theorem ReL_iff {w : World} {F : Foot} {β : Nat → Nat} {h : Hp} : ∀ (xs : List PV) (vs : List Value),
    ReL w F β h xs vs ↔ xs.length = vs.length ∧ ∀ (i : Nat) (x : PV), xs[i]? = some x → ∃ v, vs[i]? = some v ∧ Rep w F β h x v
  | [], vs => by
    simp only [ReL]
    constructor
    · rintro rfl; simp
    · rintro ⟨h, _⟩; exact List.eq_nil_of_length_eq_zero (by simpa using h.symm)
  | x :: xs, vs => by
    simp only [ReL]
    constructor
    · rintro ⟨v, vs', rfl, h0, h⟩
      rw [ReL_iff xs vs'] at h
      refine ⟨by simp [h.1], fun i y hy => ?_⟩
      cases i with
      | zero => simp at hy; subst hy; exact ⟨v, rfl, h0⟩
      | succ i => simpa using h.2 i y (by simpa using hy)
    · rintro ⟨hl, h⟩
      cases vs with
      | nil => simp at hl
      | cons v vs' =>
        refine ⟨v, vs', rfl, ?_, (ReL_iff xs vs').2 ⟨by simpa using hl, fun i y hy => ?_⟩⟩
        · obtain ⟨u, hu, hr⟩ := h 0 x rfl
          simp at hu; subst hu; exact hr
        · simpa using h (i + 1) y (by simpa using hy)

mutual
theorem RepP.toRep {w : World} {F : Foot} (β : Nat → Nat) (h : Hp) : ∀ (v : PV) (V : Value), RepP w F v V → Rep w F β h v V
  | .agg cs, V, g => by
    simp only [RepP] at g; simp only [Rep]
    obtain ⟨arr, h1, h2⟩ := g
    exact ⟨arr, h1, RepL.toReL β h cs _ h2⟩
  | .tup cs, V, g => by
    simp only [RepP] at g; simp only [Rep]
    obtain ⟨arr, h1, h2⟩ := g
    exact ⟨arr, h1, RepL.toReL β h cs _ h2⟩
  | .fn f fi ca, V, g => by
    simp only [RepP] at g; simp only [Rep]
    obtain ⟨fa, ga, h1, h2, h3⟩ := g
    exact ⟨fa, ga, h1, RepL.toReL β h fi _ h2, RepL.toReL β h ca _ h3⟩
  | .own _ _, V, g => by simp [RepP] at g
  | .ptr _ _, V, g => by simp [RepP] at g
  | .rp _ _ _ _, V, g => by simp [RepP] at g
  | .undef, V, g | .int _ _, V, g | .bool _, V, g | .kb _, V, g | .str _, V, g | .nili, V, g | .nilf, V, g | .err, V, g | .sl _, V, g | .nils, V, g | .pp _ _, V, g | .fresh _ _, V, g | .gp _ _, V, g | .mapp _ _, V, g | .loopp _ _ _ _ _, V, g | .itp _ _, V, g => by simpa only [Rep] using g
  | .mapo _, V, g => by simp [RepP] at g
  | .yl _, V, g => by simp [RepP] at g
theorem RepL.toReL {w : World} {F : Foot} (β : Nat → Nat) (h : Hp) : ∀ (vs : List PV) (Vs : List Value), RepL w F vs Vs → ReL w F β h vs Vs
  | [], _, g => by simpa [RepL, ReL] using g
  | x :: xs, Vs, g => by
    simp only [RepL] at g; simp only [ReL]
    obtain ⟨v, vs', h1, h2, h3⟩ := g
    exact ⟨v, vs', h1, RepP.toRep β h x v h2, RepL.toReL β h xs vs' h3⟩
end

/-- What became of the own memory: a row may have grown (and moved). -/
structure HEv (w : World) (β : Nat → Nat) (h : Hp) (w' : World) (β' : Nat → Nat) (h' : Hp) : Prop where
  box : ∀ id cs fz, getB h id = some (.box cs fz) → (∃ cs' fz', getB h' id = some (.box cs' fz')) ∧ β' id = β id
  row : ∀ id e k pr xs fz, getB h id = some (.row e k pr xs fz) → ∃ pr' xs' fz', getB h' id = some (.row e k pr' xs' fz') ∧ xs.length ≤ xs'.length ∧
    (xs.length = xs'.length → β' id = β id ∧ ∀ arr, w.heap[β id]? = some (.cells arr e (0, 0)) → ∃ arr', w'.heap[β id]? = some (.cells arr' e (0, 0)) ∧ arr'.size = arr.size)

mutual
theorem Rep.mono {w w' : World} {F F' : Foot} {β β' : Nat → Nat} {h h' : Hp} (k : Keeps w F w' F') (e : HEv w β h w' β' h') : ∀ (v : PV) (V : Value), Rep w F β h v V → Rep w' F' β' h' v V
  | .agg cs, V, g => by
    simp only [Rep] at g ⊢
    obtain ⟨arr, h1, h2⟩ := g
    exact ⟨arr, h1, ReL.mono k e cs _ h2⟩
  | .tup cs, V, g => by
    simp only [Rep] at g ⊢
    obtain ⟨arr, h1, h2⟩ := g
    exact ⟨arr, h1, ReL.mono k e cs _ h2⟩
  | .fn f fi ca, V, g => by
    simp only [Rep] at g ⊢
    obtain ⟨fa, ga, h1, h2, h3⟩ := g
    exact ⟨fa, ga, h1, ReL.mono k e fi _ h2, ReL.mono k e ca _ h3⟩
  | .own id n, V, g => by
    simp only [Rep] at g ⊢
    obtain ⟨A, c, h1, h2, el, kk, pr, xs, fz, hb, hn, hA⟩ := g
    obtain ⟨pr', xs', fz', hb', hle, hsame⟩ := e.row _ _ _ _ _ _ hb
    refine ⟨A, c, h1, h2, el, kk, pr', xs', fz', hb', Nat.le_trans hn hle, fun hn' => ?_⟩
    obtain ⟨hβ, hsz⟩ := hsame (by omega)
    obtain ⟨hA, arr, harr, hs⟩ := hA (by omega)
    obtain ⟨arr', harr', hs'⟩ := hsz arr harr
    exact ⟨by rw [hβ]; exact hA, arr', by rw [hβ]; exact harr', by omega⟩
  | .ptr id off, V, g => by
    simp only [Rep] at g ⊢
    obtain ⟨cs, fz, hb, hV⟩ := g
    obtain ⟨⟨cs', fz', hb'⟩, hβ⟩ := e.box _ _ _ hb
    exact ⟨cs', fz', hb', by rw [hβ]; exact hV⟩
  | .rp id n i off, V, g => by
    simp only [Rep] at g ⊢
    obtain ⟨hA, el, kk, pr, xs, fz, hb, hn, hV⟩ := g
    obtain ⟨pr', xs', fz', hb', hle, hsame⟩ := e.row _ _ _ _ _ _ hb
    refine ⟨hA, el, kk, pr', xs', fz', hb', Nat.le_trans hn hle, fun hn' => ?_⟩
    rw [(hsame (by omega)).1]; exact hV (by omega)
  | .undef, V, g | .int _ _, V, g | .bool _, V, g | .kb _, V, g | .str _, V, g | .nili, V, g | .nilf, V, g | .err, V, g | .sl _, V, g | .nils, V, g | .pp _ _, V, g | .fresh _ _, V, g | .gp _ _, V, g | .mapp _ _, V, g | .loopp _ _ _ _ _, V, g | .itp _ _, V, g => by
    simp only [Rep] at g ⊢; exact RepP.mono k _ V g
  | .mapo id, V, g => by
    simp only [Rep] at g ⊢
    obtain ⟨hV, cs, fz, hb⟩ := g
    obtain ⟨⟨cs', fz', hb'⟩, hβ⟩ := e.box _ _ _ hb
    exact ⟨by rw [hβ]; exact hV, cs', fz', hb'⟩
  | .yl id, V, g => by
    simp only [Rep] at g ⊢
    obtain ⟨hV, cs, fz, hb⟩ := g
    obtain ⟨⟨cs', fz', hb'⟩, hβ⟩ := e.box _ _ _ hb
    exact ⟨by rw [hβ]; exact hV, cs', fz', hb'⟩
theorem ReL.mono {w w' : World} {F F' : Foot} {β β' : Nat → Nat} {h h' : Hp} (k : Keeps w F w' F') (e : HEv w β h w' β' h') : ∀ (vs : List PV) (Vs : List Value), ReL w F β h vs Vs → ReL w' F' β' h' vs Vs
  | [], _, g => by simpa [ReL] using g
  | x :: xs, Vs, g => by
    simp only [ReL] at g ⊢
    obtain ⟨v, vs', h1, h2, h3⟩ := g
    exact ⟨v, vs', h1, Rep.mono k e x v h2, ReL.mono k e xs vs' h3⟩
end

theorem ReL_notMap {w : World} {F : Foot} {β : Nat → Nat} {h : Hp} {cs : List PV} {vs : List Value} (hr : ReL w F β h cs vs) : notMap cs = true := by
  unfold notMap
  split
  · simp only [ReL, Rep, RepP] at hr
    obtain ⟨_, _, _, h1, _⟩ := hr
    exact h1.elim
  · simp only [ReL, Rep, RepP] at hr
    obtain ⟨_, _, _, h1, _⟩ := hr
    exact h1.elim
  · simp only [ReL, Rep, RepP] at hr
    obtain ⟨_, _, _, h1, _⟩ := hr
    exact h1.elim
  · rfl

end Go.Px

set_option linter.unusedVariables false
namespace Go.Px
open Go

/-! ### Abstract states -/
def get : List (Nat × PV) → Nat → PV
  | [], _ => .undef
  | (m, v) :: r, t => bif Nat.beq m t then v else get r t
def setD (d : Option Nat) (v : PV) (tm : List (Nat × PV)) : List (Nat × PV) :=
  match d with
  | some d => (d, v) :: tm
  | none => tm
structure AS where
  tm : List (Nat × PV)
  h : Hp

theorem beq_no {m t : Nat} (h : m ≠ t) : Nat.beq m t = false := by
  cases hb : Nat.beq m t with
  | false => rfl
  | true => exact absurd (Nat.eq_of_beq_eq_true hb) h
theorem get_setD_ne {d : Option Nat} {v : PV} {tm : List (Nat × PV)} {t : Nat} (h : d ≠ some t) : get (setD d v tm) t = get tm t := by
  cases d with
  | none => rfl
  | some d => simp only [setD, get, beq_no (fun e => h (congrArg some e)), cond_false]
theorem get_setD_self {d : Nat} {v : PV} {tm : List (Nat × PV)} : get (setD (some d) v tm) d = v := by simp only [setD, get, Nat.beq_refl, cond_true]

/-- The named slots alone. -/
def sel : List Nat → List (Nat × PV) → List (Nat × PV)
  | [], _ => []
  | t :: r, tm => (t, get tm t) :: sel r tm

theorem get_sel : ∀ (ks : List Nat) (tm : List (Nat × PV)) (t : Nat), get (sel ks tm) t = get tm t ∨ get (sel ks tm) t = .undef
  | [], tm, t => .inr rfl
  | k :: r, tm, t => by
    simp only [sel, get]
    cases hb : Nat.beq k t with
    | true => rw [Nat.eq_of_beq_eq_true hb]; exact .inl rfl
    | false => exact get_sel r tm t

structure TyI where
  und : TypeDesc
  size : Nat
  bytes : Nat
  zero : Value

/-- A cell's kind. -/
def kV : Value → Nat
  | .int _ _ => 0
  | .bool _ => 1
  | .string _ => 2
  | _ => 3
def kOf : PV → Nat
  | .int _ _ => 0
  | .bool _ => 1
  | .str _ => 2
  | _ => 3

/-- '==' cell by cell, where the cells are numbers, bools or strings. -/
def eqVals : List Value → List Value → Option Bool
  | [], [] => some true
  | .int k a :: r, .int k' b :: r' => if k = k' then (eqVals r r').map fun t => (a == b) && t else none
  | .bool a :: r, .bool b :: r' => (eqVals r r').map fun t => (a == b) && t
  | .string a :: r, .string b :: r' => (eqVals r r').map fun t => (a == b) && t
  | _, _ => none

/-- What a run asks of the program's tables. -/
structure TabS where
  ty : TypeId → Option TyI
  glob : Nat → Option (List PV)
  fok : FuncId → Bool
  eqt : TypeId → List Nat → Bool
abbrev Tab := Unit → TabS

/-- The program, and what stands of the memory that the call doesn't own. -/
structure Env (Tb : Tab) where
  P : Program
  mixed : P.follows .mixedOrders = true
  G : Nat
  GI : World → Prop
  gi : ∀ {w w' : World}, GI w → w.heap.size ≤ w'.heap.size → (∀ b, b < G → w'.heap[b]? = w.heap[b]?) → w'.tape = w.tape → w'.os = w.os → GI w'
  gsz : ∀ {w : World}, GI w → G ≤ w.heap.size
  tyok : ∀ {t i}, (Tb ()).ty t = some i → P.underlying t = some i.und ∧ ∃ inf, P.info? t = some inf ∧ inf.size = i.size ∧ inf.bytes = i.bytes ∧ inf.zero = some i.zero
  tyz : ∀ {t i}, (Tb ()).ty t = some i → i.zero.cells.size = i.size ∧ ∀ v ∈ i.zero.cells.toList, v.oneCell' = true
  fokok : ∀ {f}, (Tb ()).fok f = true → ∃ fn, P.funcs[f]? = some fn ∧ fn.body.isSome = true ∧ (fn.name == "runtime.NumGoroutine") = false
  eqok : ∀ {t ks}, (Tb ()).eqt t ks = true → ∃ i, (Tb ()).ty t = some i ∧ P.eqGuardType P.depth t = false ∧ ∀ (xs ys : Array Value) (w : World) (b : Bool), xs.size = i.size → xs.toList.map kV = ks → eqVals xs.toList ys.toList = some b → (Op.equal t (.agg xs) (.agg ys)).run P w = .ok b w
  globok : ∀ {w : World} {g : Nat} {cs : List PV}, GI w → (Tb ()).glob g = some cs → RepCs w (fun b _ => b < G) cs g 0

def Env.ty {Tb : Tab} (_ : Env Tb) (t : TypeId) : Option TyI := (Tb ()).ty t
def Env.glob {Tb : Tab} (_ : Env Tb) (g : Nat) : Option (List PV) := (Tb ()).glob g
def Env.fok {Tb : Tab} (_ : Env Tb) (f : FuncId) : Bool := (Tb ()).fok f
def Env.eqt {Tb : Tab} (_ : Env Tb) (t : TypeId) (ks : List Nat) : Bool := (Tb ()).eqt t ks

def RowIn (w : World) (F : Foot) (β : Nat → Nat) (h : Hp) (k : Nat) (pr : Bool) (xs : List PV) (arr : Array Value) : Prop :=
  ∀ (j : Nat) (x : PV), xs[j]? = some x → x.cells.length = k ∧ ∀ (i : Nat) (c : PV), x.cells[i]? = some c → ∃ U, arr[j * k + i]? = some U ∧ U.oneCell' = true ∧ (if pr = true then RepP w F c U else Rep w F β h c U)

def keyEq : PV → PV → Option Bool
  | .int k a, .int k' b => bif decide (k = k') then some (decide (a = b)) else none
  | .str a, .str b => some (decide (a = b))
  | _, _ => none
/-- Where a key stands. -/
def midx (key : PV) : List PV → Nat → Option (Option Nat)
  | [], _ => some none
  | k :: ks, i =>
    match keyEq key k with
    | some true => some (some i)
    | some false => midx key ks (i + 1)
    | none => none
/-- Alike to whoever asks for keys. -/
def MapEq (ks vs ks' vs' : List PV) : Prop :=
  ks.length = vs.length ∧ ks'.length = vs'.length ∧ ∀ key r, midx key ks 0 = some r → ∃ r', midx key ks' 0 = some r' ∧ (r = none → r' = none) ∧ ∀ i, r = some i → ∃ i', r' = some i' ∧ vs'[i']? = vs[i]?

/-- What is no cells: a map, a loop over a function. -/
def ObjRep (w : World) (F : Foot) (β : Nat → Nat) (h : Hp) (b : Nat) : PV → Prop
  | .mapp ks vs => ∃ ks' vs' es c, MapEq ks vs ks' vs' ∧ w.heap[b]? = some (.map es c) ∧ ReL w F β h ks' (es.toList.map (·.key)) ∧ ReL w F β h vs' (es.toList.map (·.val))
  | .itp l pos => w.heap[b]? = some (.stringIter ⟨⟨l⟩⟩ pos)
  | .loopp s pend ks vs li => ∃ r : Loop, w.heap[b]? = some (.loop r) ∧ r.state = s ∧ r.pending = pend ∧ r.tmps.size = li.n ∧ (∀ t, Rep w F β h (get (ks.zip vs) t) (r.tmps.getD t undef)) ∧ r.params.toList = li.ps ∧ erase li.K li.n r.assign = li.assign ∧ erase li.K li.n r.body = li.body
  | _ => False

theorem ObjRep.obj {w : World} {F : Foot} {β : Nat → Nat} {h : Hp} {b : Nat} {x : PV} (ho : ObjRep w F β h b x) : ∃ o, w.heap[b]? = some o ∧ ∀ ds, o ≠ .deferred ds := by
  unfold ObjRep at ho
  split at ho
  · obtain ⟨_, _, es, c, _, he, _⟩ := ho; exact ⟨_, he, fun _ e => by cases e⟩
  · exact ⟨_, ho, fun _ e => by cases e⟩
  · obtain ⟨r, he, _⟩ := ho; exact ⟨_, he, fun _ e => by cases e⟩
  · exact ho.elim

theorem ObjRep.notMap {w : World} {F : Foot} {β : Nat → Nat} {h : Hp} {b : Nat} {x : PV} {cs : List PV} (ho : ObjRep w F β h b x) (hc : cs = [x]) (hn : notMap cs = true) : False := by
  subst hc
  unfold ObjRep at ho
  split at ho
  · simp [Px.notMap] at hn
  · simp [Px.notMap] at hn
  · simp [Px.notMap] at hn
  · exact ho
theorem ObjRep.of {w w' : World} {F F' : Foot} {β β' : Nat → Nat} {h h' : Hp} {b b' : Nat} {x : PV} (k : Keeps w F w' F') (e : HEv w β h w' β' h') (hh : w'.heap[b']? = w.heap[b]?) (ho : ObjRep w F β h b x) : ObjRep w' F' β' h' b' x := by
  unfold ObjRep at ho ⊢
  split at ho
  · obtain ⟨ks', vs', es, c, hm, he, hr1, hr2⟩ := ho
    exact ⟨ks', vs', es, c, hm, by rw [hh]; exact he, ReL.mono k e _ _ hr1, ReL.mono k e _ _ hr2⟩
  · rw [hh]; exact ho
  · obtain ⟨r, he, h1, h2, h3, h4, h5⟩ := ho
    exact ⟨r, by rw [hh]; exact he, h1, h2, h3, fun t => Rep.mono k e _ _ (h4 t), h5⟩
  · exact ho.elim

def BlkRep (w : World) (F : Foot) (β : Nat → Nat) (h : Hp) (id : Nat) : Blk → Prop
  | .box cs fz => (notMap cs = true ∧ ∃ arr e, w.heap[β id]? = some (.cells arr e (0, 0)) ∧ ReL w F β h cs arr.toList ∧ (∀ i, F (β id) i → fz = true) ∧ ∀ v ∈ arr.toList, v.oneCell' = true) ∨
    (∃ x, cs = [x] ∧ ObjRep w F β h (β id) x ∧ ∀ i, ¬ F (β id) i)
  | .row e k pr xs fz => ∃ arr, w.heap[β id]? = some (.cells arr e (0, 0)) ∧ 0 < k ∧ xs.length * k ≤ arr.size ∧ RowIn w F β h k pr xs arr ∧ (∀ i, F (β id) i → i < fz * k) ∧ fz ≤ xs.length

structure SimH (G : Nat) (w : World) (F : Foot) (β : Nat → Nat) (h : Hp) : Prop where
  blk : ∀ id b, getB h id = some b → BlkRep w F β h id b
  inj : ∀ i j bi bj, getB h i = some bi → getB h j = some bj → β i = β j → i = j
  fin : ∀ b i, F b i → b < w.heap.size
  lo : ∀ id b, getB h id = some b → G ≤ β id
  glo : ∀ b i, b < G → F b i

def Own (β : Nat → Nat) (h : Hp) (b : Nat) : Prop := ∃ id blk, getB h id = some blk ∧ β id = b

theorem BlkRep.lt {w : World} {F : Foot} {β : Nat → Nat} {h : Hp} {id : Nat} {b : Blk} (hb : BlkRep w F β h id b) : β id < w.heap.size := by
  cases b with
  | box cs fz =>
    rcases hb with ⟨_, arr, e, he, _⟩ | ⟨_, _, ho, _⟩
    · exact (Array.getElem?_eq_some_iff.1 he).1
    · obtain ⟨o, he, _⟩ := ho.obj; exact (Array.getElem?_eq_some_iff.1 he).1
  | row e k pr xs fz => obtain ⟨arr, he, _⟩ := hb; exact (Array.getElem?_eq_some_iff.1 he).1

theorem BlkRep.obj {w : World} {F : Foot} {β : Nat → Nat} {h : Hp} {id : Nat} {b : Blk} (hb : BlkRep w F β h id b) : ∃ o, w.heap[β id]? = some o ∧ ∀ ds, o ≠ .deferred ds := by
  cases b with
  | box cs fz =>
    rcases hb with ⟨_, arr, e, he, _⟩ | ⟨_, _, ho, _⟩
    · exact ⟨_, he, fun _ e => by cases e⟩
    · exact ho.obj
  | row e k pr xs fz => obtain ⟨arr, he, _⟩ := hb; exact ⟨_, he, fun _ e => by cases e⟩

/-- What became of the world: 'n' own blocks lay there when it began. -/
structure Evo (n : Nat) (w : World) (F : Foot) (β : Nat → Nat) (h : Hp) (w' : World) (F' : Foot) (β' : Nat → Nat) (h' : Hp) : Prop where
  size : w.heap.size ≤ w'.heap.size
  keep : ∀ b, b < w.heap.size → ¬ Own β h b → w'.heap[b]? = w.heap[b]?
  tape : w'.tape = w.tape
  os : w'.os = w.os
  output : w'.output = w.output
  cell : Keeps w F w' F'
  org : ∀ b i, F' b i → F b i ∨ Own β h b ∨ w.heap.size ≤ b
  own : ∀ b, Own β' h' b → Own β h b ∨ w.heap.size ≤ b
  box : ∀ id cs fz, id < n → getB h id = some (.box cs fz) → (∃ cs' fz', getB h' id = some (.box cs' fz')) ∧ β' id = β id
  row : ∀ id e k pr xs fz, id < n → getB h id = some (.row e k pr xs fz) → ∃ pr' xs' fz', getB h' id = some (.row e k pr' xs' fz') ∧ xs.length ≤ xs'.length ∧
    (xs.length = xs'.length → β' id = β id ∧ ∀ arr, w.heap[β id]? = some (.cells arr e (0, 0)) → ∃ arr', w'.heap[β id]? = some (.cells arr' e (0, 0)) ∧ arr'.size = arr.size)

theorem Evo.hev {w w' : World} {F F' : Foot} {β β' : Nat → Nat} {h h' : Hp} (e : Evo h.length w F β h w' F' β' h') : HEv w β h w' β' h' :=
  ⟨fun id cs fz hb => e.box id cs fz (getB_lt _ _ _ hb) hb, fun id el k pr xs fz hb => e.row id el k pr xs fz (getB_lt _ _ _ hb) hb⟩

theorem HEv.refl (w : World) (β : Nat → Nat) (h : Hp) : HEv w β h w β h :=
  ⟨fun id cs fz hb => ⟨⟨cs, fz, hb⟩, rfl⟩, fun id e k pr xs fz hb => ⟨pr, xs, fz, hb, Nat.le_refl _, fun _ => ⟨rfl, fun arr ha => ⟨arr, ha, rfl⟩⟩⟩⟩

theorem Evo.refl {n : Nat} (w : World) (F : Foot) (β : Nat → Nat) (h : Hp) : Evo n w F β h w F β h :=
  ⟨Nat.le_refl _, fun _ _ _ => rfl, rfl, rfl, rfl, fun _ _ hf => ⟨hf, rfl⟩, fun _ _ hf => .inl hf, fun _ ho => .inl ho,
    fun id cs fz _ hb => (HEv.refl w β h).box id cs fz hb, fun id e k pr xs fz _ hb => (HEv.refl w β h).row id e k pr xs fz hb⟩

theorem Keeps.trans {w w1 w2 : World} {F F1 F2 : Foot} (h : Keeps w F w1 F1) (k : Keeps w1 F1 w2 F2) : Keeps w F w2 F2 :=
  fun b i hf => ⟨(k b i (h b i hf).1).1, ((k b i (h b i hf).1).2).trans (h b i hf).2⟩

theorem Evo.trans {n : Nat} {w w1 w2 : World} {F F1 F2 : Foot} {β β1 β2 : Nat → Nat} {h h1 h2 : Hp} (p : Evo n w F β h w1 F1 β1 h1) (q : Evo n w1 F1 β1 h1 w2 F2 β2 h2) :
    Evo n w F β h w2 F2 β2 h2 where
  size := Nat.le_trans p.size q.size
  keep := fun b hb ho => by
    rw [q.keep b (Nat.lt_of_lt_of_le hb p.size) (fun h1 => (p.own b h1).elim ho (by omega))]
    exact p.keep b hb ho
  tape := q.tape.trans p.tape
  os := q.os.trans p.os
  output := q.output.trans p.output
  cell := p.cell.trans q.cell
  org := fun b i hf => by
    rcases q.org b i hf with h1 | h1 | h1
    · exact p.org b i h1
    · exact (p.own b h1).elim (fun x => .inr (.inl x)) (fun x => .inr (.inr x))
    · exact .inr (.inr (Nat.le_trans p.size h1))
  own := fun b ho => by
    rcases q.own b ho with h1 | h1
    · exact p.own b h1
    · exact .inr (Nat.le_trans p.size h1)
  box := fun id cs fz hi hb => by
    obtain ⟨⟨cs1, fz1, hb1⟩, e1⟩ := p.box id cs fz hi hb
    obtain ⟨hb0, e0⟩ := q.box id cs1 fz1 hi hb1
    exact ⟨hb0, e0.trans e1⟩
  row := fun id el k pr xs fz hi hb => by
    obtain ⟨pr1, xs1, fz1, hb1, l1, s1⟩ := p.row id el k pr xs fz hi hb
    obtain ⟨pr0, xs0, fz0, hb0, l0, s0⟩ := q.row id el k pr1 xs1 fz1 hi hb1
    refine ⟨pr0, xs0, fz0, hb0, Nat.le_trans l1 l0, fun hl => ?_⟩
    obtain ⟨e0, c0⟩ := s1 (by omega)
    obtain ⟨e1, c1⟩ := s0 (by omega)
    refine ⟨e1.trans e0, fun arr ha => ?_⟩
    obtain ⟨arr1, ha1, hs1⟩ := c0 arr ha
    obtain ⟨arr2, ha2, hs2⟩ := c1 arr1 (by rw [e0]; exact ha1)
    exact ⟨arr2, by rw [← e0]; exact ha2, by omega⟩

theorem Evo.mono {n m : Nat} {w w' : World} {F F' : Foot} {β β' : Nat → Nat} {h h' : Hp} (e : Evo n w F β h w' F' β' h') (hm : m ≤ n) : Evo m w F β h w' F' β' h' :=
  { e with box := fun id cs fz hi => e.box id cs fz (by omega), row := fun id el k pr xs fz hi => e.row id el k pr xs fz (by omega) }

/-- The marks among the deferred calls: each is of a block of its own, made after B, in which nothing was laid. -/
def Marks (B : Nat) (w : World) (ds : List Deferred) : Prop := B ≤ w.heap.size ∧ ∃ Ds : List Nat, ds = Ds.map markOf ∧ Ds.Nodup ∧ ∀ D ∈ Ds, B ≤ D ∧ w.heap[D]? = some (.deferred (some []))
theorem Marks.nil {B : Nat} {w : World} (h : B ≤ w.heap.size) : Marks B w [] := ⟨h, [], rfl, .nil, fun _ h => by cases h⟩
theorem Marks.heap {B : Nat} {w w' : World} {ds : List Deferred} (h : Marks B w ds) (hs : w.heap.size ≤ w'.heap.size) (hw : ∀ D : Nat, w.heap[D]? = some (Obj.deferred (some [])) → w'.heap[D]? = some (Obj.deferred (some []))) : Marks B w' ds := by
  obtain ⟨h0, Ds, h1, h2, h3⟩ := h
  exact ⟨Nat.le_trans h0 hs, Ds, h1, h2, fun D hD => ⟨(h3 D hD).1, hw D (h3 D hD).2⟩⟩
theorem Marks.evo {B n G : Nat} {w w' : World} {F F' : Foot} {β β' : Nat → Nat} {h h' : Hp} {ds : List Deferred} (m : Marks B w ds) (hs : SimH G w F β h) (e : Evo n w F β h w' F' β' h') : Marks B w' ds :=
  m.heap e.size fun D hD => by
    rw [e.keep D (Array.getElem?_eq_some_iff.1 hD).1 fun ⟨id, blk, h1, h2⟩ => ?_]
    · exact hD
    · obtain ⟨o, ho, hne⟩ := (hs.blk id blk h1).obj
      rw [h2, hD] at ho
      injection ho with ho
      exact hne _ ho.symm

/-- A state that lies in the machine. -/
structure Sim {Tb : Tab} (E : Env Tb) (N B : Nat) (F : Foot) (β : Nat → Nat) (st : AS) (a : Act) (w : World) : Prop where
  gi : E.GI w
  sh : SimH E.G w F β st.h
  tm : ∀ t, Rep w F β st.h (get st.tm t) (a.tmps.getD t undef)
  sz : a.tmps.size = N
  df : Marks B w a.defers

theorem Sim.put {Tb : Tab} {E : Env Tb} {N B : Nat} {F : Foot} {β : Nat → Nat} {st : AS} {a : Act} {w : World} (s : Sim E N B F β st a w) {v : PV} {V : Value} {d : Option Nat} (hd : ∀ t, d = some t → t < N)
    (hv : Rep w F β st.h v V) : Sim E N B F β ⟨setD d v st.tm, st.h⟩ (a.put d V) w := by
  cases d with
  | none => exact ⟨s.gi, s.sh, s.tm, s.sz, s.df⟩
  | some d =>
    refine ⟨s.gi, s.sh, fun t => ?_, by simp [Act.put, s.sz], s.df⟩
    by_cases he : d = t
    · subst he
      have hlt : d < a.tmps.size := by rw [s.sz]; exact hd d rfl
      simp only [get_setD_self]
      simpa [Act.put, Array.getD_eq_getD_getElem?, hlt] using hv
    · have := s.tm t
      simp only [get_setD_ne (show some d ≠ some t by simpa using he)]
      simpa [Act.put, Array.getD_eq_getD_getElem?, Array.getElem?_setIfInBounds_ne he] using this

theorem Sim.step {Tb : Tab} {E : Env Tb} {N B : Nat} {F F' : Foot} {β β' : Nat → Nat} {st : AS} {a : Act} {w w' : World} {h' : Hp} (s : Sim E N B F β st a w) (e : Evo st.h.length w F β st.h w' F' β' h')
    (hs : SimH E.G w' F' β' h') (hg : E.GI w') : Sim E N B F' β' ⟨st.tm, h'⟩ a w' :=
  ⟨hg, hs, fun t => Rep.mono e.cell e.hev _ _ (s.tm t), s.sz, s.df.evo s.sh e⟩

theorem Sim.keep {Tb : Tab} {E : Env Tb} {N B : Nat} {F : Foot} {β : Nat → Nat} {tm : List (Nat × PV)} {h : Hp} {a : Act} {w : World} (ks : List Nat) (s : Sim E N B F β ⟨tm, h⟩ a w) : Sim E N B F β ⟨sel ks tm, h⟩ a w := by
  refine ⟨s.gi, s.sh, fun t => ?_, s.sz, s.df⟩
  rcases get_sel ks tm t with h1 | h1
  · simp only [h1]; exact s.tm t
  · simp only [h1]; simp [Rep, RepP]

theorem gi_evo {Tb : Tab} {E : Env Tb} {n : Nat} {w w' : World} {F F' : Foot} {β β' : Nat → Nat} {h h' : Hp} (hg : E.GI w) (hs : SimH E.G w F β h) (e : Evo n w F β h w' F' β' h') : E.GI w' :=
  E.gi hg e.size (fun b hb => e.keep b (Nat.lt_of_lt_of_le hb (E.gsz hg)) (fun ⟨id, blk, h1, h2⟩ => by have := hs.lo id blk h1; omega)) e.tape e.os

/-! ### The world's changes -/
theorem BlkRep.of {w w' : World} {F F' : Foot} {β β' : Nat → Nat} {h h' : Hp} {id : Nat} {b : Blk} (k : Keeps w F w' F') (e : HEv w β h w' β' h') (hβ : β' id = β id) (hh : w'.heap[β id]? = w.heap[β id]?)
    (hF : ∀ i, F' (β id) i → F (β id) i) (hb : BlkRep w F β h id b) : BlkRep w' F' β' h' id b := by
  cases b with
  | box cs fz =>
    rcases hb with ⟨h0, arr, el, he, hr, hf, h1⟩ | ⟨x, hc, ho, hf⟩
    · exact .inl ⟨h0, arr, el, by rw [hβ, hh]; exact he, ReL.mono k e _ _ hr, fun i hi => hf i (hF i (by rwa [hβ] at hi)), h1⟩
    · exact .inr ⟨x, hc, ObjRep.of k e (by rw [hβ, hh]) ho, fun i hi => hf i (hF i (by rwa [hβ] at hi))⟩
  | row el kk pr xs fz =>
    obtain ⟨arr, he, hk, hl, hr, hf, hz⟩ := hb
    refine ⟨arr, by rw [hβ, hh]; exact he, hk, hl, fun j x hx => ⟨(hr j x hx).1, fun i c hc => ?_⟩, fun i hi => hf i (hF i (by rwa [hβ] at hi)), hz⟩
    obtain ⟨U, hU, ho, hp⟩ := (hr j x hx).2 i c hc
    refine ⟨U, hU, ho, ?_⟩
    cases pr with
    | true => simp only [if_true] at hp ⊢; exact RepP.mono k _ _ hp
    | false => simp only [Bool.false_eq_true, if_false] at hp ⊢; exact Rep.mono k e _ _ hp

theorem cell?_of_heap {w w' : World} {b i : Nat} (h : w'.heap[b]? = w.heap[b]?) : w'.cell? ⟨b, i, none⟩ = w.cell? ⟨b, i, none⟩ := by
  simp [World.cell?, h]

/-- A new block, in a free place of the list. -/
theorem alloc_evo {G : Nat} {w : World} {F : Foot} {β : Nat → Nat} {h : Hp} (hs : SimH G w F β h) (hG : G ≤ w.heap.size) {nid : Nat} (hn : nid < h.length) (hfree : getB h nid = none) (o : Obj) (x : Blk)
    (hx : Keeps w F (w.alloc o) F → HEv w β h (w.alloc o) (fun i => if i = nid then w.heap.size else β i) (setB h nid (some x)) → BlkRep (w.alloc o) F (fun i => if i = nid then w.heap.size else β i) (setB h nid (some x)) nid x) :
    SimH G (w.alloc o) F (fun i => if i = nid then w.heap.size else β i) (setB h nid (some x)) ∧
    Evo h.length w F β h (w.alloc o) F (fun i => if i = nid then w.heap.size else β i) (setB h nid (some x)) := by
  have hheap : ∀ b, b < w.heap.size → (w.alloc o).heap[b]? = w.heap[b]? := fun b hb => by
    show (w.heap.push o)[b]? = _
    simp [Array.getElem?_push, Nat.ne_of_lt hb]
  have hkeep : Keeps w F (w.alloc o) F := fun b i hf => ⟨hf, cell?_of_heap (hheap b (hs.fin b i hf))⟩
  have hβ : ∀ i, i ≠ nid → (if i = nid then w.heap.size else β i) = β i := fun i hi => if_neg hi
  have hne : ∀ id b, getB h id = some b → id ≠ nid := fun id b hb e => by subst e; rw [hfree] at hb; cases hb
  have hev : HEv w β h (w.alloc o) (fun i => if i = nid then w.heap.size else β i) (setB h nid (some x)) := by
    refine ⟨fun id cs fz hb => ?_, fun id el k pr xs fz hb => ?_⟩
    · have e := hne id _ hb
      exact ⟨⟨cs, fz, by rw [getB_setB_ne _ _ _ _ e]; exact hb⟩, hβ id e⟩
    · have e := hne id _ hb
      refine ⟨pr, xs, fz, by rw [getB_setB_ne _ _ _ _ e]; exact hb, Nat.le_refl _, fun _ => ⟨hβ id e, fun arr ha => ⟨arr, ?_, rfl⟩⟩⟩
      rw [hheap _ (Array.getElem?_eq_some_iff.1 ha).1]; exact ha
  have cases' : ∀ id b, getB (setB h nid (some x)) id = some b → (id ≠ nid ∧ getB h id = some b) ∨ (id = nid ∧ b = x) := fun id b hb => by
    by_cases e : id = nid
    · subst e; rw [getB_setB_self _ _ _ hn] at hb; injection hb with hb; exact .inr ⟨rfl, hb.symm⟩
    · rw [getB_setB_ne _ _ _ _ e] at hb; exact .inl ⟨e, hb⟩
  refine ⟨⟨fun id b hb => ?_, fun i j bi bj hi hj he => ?_, fun b i hf => ?_, fun id b hb => ?_, hs.glo⟩, ?_⟩
  · rcases cases' id b hb with ⟨h1, h2⟩ | ⟨h1, h2⟩
    · have hr := hs.blk id b h2
      exact BlkRep.of hkeep hev (hβ id h1) (hheap _ hr.lt) (fun _ hf => hf) hr
    · subst h1 h2; exact hx hkeep hev
  · rcases cases' i bi hi with ⟨h1, h2⟩ | ⟨h1, h2⟩ <;> rcases cases' j bj hj with ⟨h3, h4⟩ | ⟨h3, h4⟩
    · simp only [hβ i h1, hβ j h3] at he
      exact hs.inj i j bi bj h2 h4 he
    · simp only [hβ i h1, h3, if_true] at he
      have := (hs.blk i bi h2).lt
      omega
    · simp only [hβ j h3, h1, if_true] at he
      have := (hs.blk j bj h4).lt
      omega
    · omega
  · have := hs.fin b i hf
    show b < (w.heap.push o).size
    simp; omega
  · rcases cases' id b hb with ⟨h1, h2⟩ | ⟨h1, h2⟩
    · simp only [hβ id h1]; exact hs.lo id b h2
    · simp only [h1, if_true]; exact hG
  · refine ⟨by show _ ≤ (w.heap.push o).size; simp, fun b hb _ => hheap b hb, rfl, rfl, rfl, hkeep, fun _ _ hf => .inl hf, fun b ⟨id, blk, h1, h2⟩ => ?_, fun id cs fz _ hb => hev.box id cs fz hb, fun id el k pr xs fz _ hb => hev.row id el k pr xs fz hb⟩
    rcases cases' id blk h1 with ⟨h3, h4⟩ | ⟨h3, h4⟩
    · simp only [hβ id h3] at h2
      exact .inl ⟨id, blk, h4, h2⟩
    · simp only [h3, if_true] at h2
      exact .inr (by omega)

end Go.Px

set_option linter.unusedVariables false
namespace Go.Px
open Go

/-! ### Freezing: a value of the call's own becomes a pure one; what it leads to isn't written from then on -/
def fzLK (f : Hp → PV → (PV → Hp → Prop) → Prop) : Hp → List PV → (List PV → Hp → Prop) → Prop
  | h, [], K => K [] h
  | h, x :: xs, K => f h x fun x' h' => fzLK f h' xs fun xs' h'' => K (x' :: xs') h''

def fzK : Nat → Hp → PV → (PV → Hp → Prop) → Prop
  | 0, _, _, _ => False
  | d + 1, h, v, K =>
    match v with
    | .own id n =>
      match getB h id with
      | some (.row e k true xs _) => n = xs.length ∧ K (.sl xs) (setB h id (some (.row e k true xs xs.length)))
      | _ => False
    | .ptr id off =>
      match getB h id with
      | some (.box cs _) => fzLK (fzK d) h cs fun cs' h' => K (.pp cs' off) (setB h' id (some (.box cs true)))
      | _ => False
    | .agg cs => fzLK (fzK d) h cs fun cs' h' => K (.agg cs') h'
    | .tup cs => fzLK (fzK d) h cs fun cs' h' => K (.tup cs') h'
    | .fn f fi ca => fzLK (fzK d) h fi fun fi' h' => fzLK (fzK d) h' ca fun ca' h'' => K (.fn f fi' ca') h''
    | .rp _ _ _ _ | .fresh _ _ | .mapo _ | .mapp _ _ | .yl _ | .itp _ _ | .loopp _ _ _ _ _ => False
    | v => K v h

structure Fz (w : World) (β : Nat → Nat) (h : Hp) (F : Foot) (h' : Hp) (F' : Foot) : Prop where
  sub : ∀ b i, F b i → F' b i
  org : ∀ b i, F' b i → F b i ∨ Own β h b
  len : h'.length = h.length
  own : ∀ id b, getB h' id = some b → ∃ b0, getB h id = some b0
  box : ∀ id cs fz, getB h id = some (.box cs fz) → ∃ fz', getB h' id = some (.box cs fz')
  row : ∀ id e k pr xs fz, getB h id = some (.row e k pr xs fz) → ∃ fz', getB h' id = some (.row e k pr xs fz')

theorem Fz.refl (w : World) (β : Nat → Nat) (h : Hp) (F : Foot) : Fz w β h F h F :=
  ⟨fun _ _ h => h, fun _ _ h => .inl h, rfl, fun _ b h => ⟨b, h⟩, fun _ _ fz h => ⟨fz, h⟩, fun _ _ _ _ _ fz h => ⟨fz, h⟩⟩
theorem Fz.own' {w : World} {β : Nat → Nat} {h h' : Hp} {F F' : Foot} (z : Fz w β h F h' F') {b : Nat} (ho : Own β h' b) : Own β h b := by
  obtain ⟨id, blk, h1, h2⟩ := ho
  obtain ⟨b0, h0⟩ := z.own id blk h1
  exact ⟨id, b0, h0, h2⟩
theorem Fz.trans {w : World} {β : Nat → Nat} {h h1 h2 : Hp} {F F1 F2 : Foot} (p : Fz w β h F h1 F1) (q : Fz w β h1 F1 h2 F2) : Fz w β h F h2 F2 where
  sub := fun b i hf => q.sub b i (p.sub b i hf)
  org := fun b i hf => (q.org b i hf).elim (p.org b i) (fun ho => .inr (p.own' ho))
  len := q.len.trans p.len
  own := fun id b hb => by obtain ⟨b1, h1⟩ := q.own id b hb; exact p.own id b1 h1
  box := fun id cs fz hb => by obtain ⟨fz1, h1⟩ := p.box id cs fz hb; exact q.box id cs fz1 h1
  row := fun id e k pr xs fz hb => by obtain ⟨fz1, h1⟩ := p.row id e k pr xs fz hb; exact q.row id e k pr xs fz1 h1
theorem Fz.keeps {w : World} {β : Nat → Nat} {h h' : Hp} {F F' : Foot} (z : Fz w β h F h' F') : Keeps w F w F' := fun b i hf => ⟨z.sub b i hf, rfl⟩
theorem Fz.evo {w : World} {β : Nat → Nat} {h h' : Hp} {F F' : Foot} (z : Fz w β h F h' F') : Evo h.length w F β h w F' β h' :=
  ⟨Nat.le_refl _, fun _ _ _ => rfl, rfl, rfl, rfl, z.keeps, fun b i hf => (z.org b i hf).elim .inl (fun h => .inr (.inl h)), fun b ho => .inl (z.own' ho),
    fun id cs fz _ hb => by obtain ⟨fz0, h0⟩ := z.box id cs fz hb; exact ⟨⟨cs, fz0, h0⟩, rfl⟩,
    fun id e k pr xs fz _ hb => by obtain ⟨fz0, h0⟩ := z.row id e k pr xs fz hb; exact ⟨pr, xs, fz0, h0, Nat.le_refl _, fun _ => ⟨rfl, fun arr ha => ⟨arr, ha, rfl⟩⟩⟩⟩

/-- One own block is marked. -/
theorem mark_fz {w : World} {β : Nat → Nat} {h : Hp} {F : Foot} {G : Nat} (hs : SimH G w F β h) {id : Nat} {b b' : Blk} (hb : getB h id = some b) (m : Nat → Prop)
    (hbox : ∀ cs fz, b = .box cs fz → ∃ fz0, b' = .box cs fz0) (hrow : ∀ e k pr xs fz, b = .row e k pr xs fz → ∃ fz0, b' = .row e k pr xs fz0)
    (hnew : ∀ F', (∀ x i, F x i → F' x i) → (∀ i, F' (β id) i → F (β id) i ∨ m i) → HEv w β h w β (setB h id (some b')) → BlkRep w F β h id b → BlkRep w F' β (setB h id (some b')) id b') :
    SimH G w (fun x i => F x i ∨ (x = β id ∧ m i)) β (setB h id (some b')) ∧ Fz w β h F (setB h id (some b')) (fun x i => F x i ∨ (x = β id ∧ m i)) := by
  have hlt := getB_lt h id b hb
  have hz : Fz w β h F (setB h id (some b')) (fun x i => F x i ∨ (x = β id ∧ m i)) := by
    refine ⟨fun _ _ hf => .inl hf, fun x i hf => hf.imp_right fun ⟨e, _⟩ => ⟨id, b, hb, e.symm⟩, length_setB _ _ _, fun j bj hj => ?_, fun j cs fz hj => ?_, fun j el k pr xs fz hj => ?_⟩
    · by_cases e : j = id
      · exact ⟨b, e ▸ hb⟩
      · rw [getB_setB_ne _ _ _ _ e] at hj; exact ⟨bj, hj⟩
    · by_cases e : j = id
      · subst e; rw [hb] at hj; injection hj with hj
        obtain ⟨fz0, e0⟩ := hbox cs fz hj; exact ⟨fz0, by rw [getB_setB_self _ _ _ hlt, e0]⟩
      · exact ⟨fz, by rw [getB_setB_ne _ _ _ _ e]; exact hj⟩
    · by_cases e : j = id
      · subst e; rw [hb] at hj; injection hj with hj
        obtain ⟨fz0, e0⟩ := hrow el k pr xs fz hj; exact ⟨fz0, by rw [getB_setB_self _ _ _ hlt, e0]⟩
      · exact ⟨fz, by rw [getB_setB_ne _ _ _ _ e]; exact hj⟩
  refine ⟨⟨fun j bj hj => ?_, fun i j bi bj hi hj he => ?_, fun x i hf => ?_, fun j bj hj => ?_, fun x i hx => .inl (hs.glo x i hx)⟩, hz⟩
  · by_cases e : j = id
    · subst e; rw [getB_setB_self _ _ _ hlt] at hj; injection hj with hj; subst hj
      exact hnew _ (fun _ _ hf => .inl hf) (fun i hf => hf.imp_right And.right) hz.evo.hev (hs.blk _ _ hb)
    · rw [getB_setB_ne _ _ _ _ e] at hj
      refine BlkRep.of hz.keeps hz.evo.hev rfl rfl (fun i hf => hf.elim (fun x => x) fun ⟨e', _⟩ => absurd (hs.inj _ _ _ _ hj hb e') e) (hs.blk _ _ hj)
  · obtain ⟨b1, g1⟩ := hz.own i bi hi; obtain ⟨b2, g2⟩ := hz.own j bj hj
    exact hs.inj i j _ _ g1 g2 he
  · rcases hf with hf | ⟨e, _⟩
    · exact hs.fin _ _ hf
    · rw [e]; exact (hs.blk _ _ hb).lt
  · obtain ⟨b1, g1⟩ := hz.own j bj hj
    exact hs.lo _ _ g1

theorem cell?_cells {w : World} {b : Nat} {arr : Array Value} {e : TypeId} {m : Nat × Nat} (h : w.heap[b]? = some (.cells arr e m)) (i : Nat) : w.cell? ⟨b, i, none⟩ = arr[i]? := by
  simp [World.cell?, h]

def FzS (G : Nat) (w : World) (β : Nat → Nat) (f : Hp → PV → (PV → Hp → Prop) → Prop) : Prop :=
  ∀ (h : Hp) (F : Foot) (v : PV) (V : Value) (K : PV → Hp → Prop), f h v K → SimH G w F β h → Rep w F β h v V →
    ∃ v' h' F', K v' h' ∧ RepP w F' v' V ∧ SimH G w F' β h' ∧ Fz w β h F h' F'

theorem fzL_sound {G : Nat} {w : World} {β : Nat → Nat} {f : Hp → PV → (PV → Hp → Prop) → Prop} (hf : FzS G w β f) : ∀ (xs : List PV) (h : Hp) (F : Foot) (vs : List Value) (K : List PV → Hp → Prop),
    fzLK f h xs K → SimH G w F β h → ReL w F β h xs vs → ∃ xs' h' F', K xs' h' ∧ RepL w F' xs' vs ∧ SimH G w F' β h' ∧ Fz w β h F h' F'
  | [], h, F, vs, K, hk, hs, hr => ⟨[], h, F, hk, by simpa [RepL, ReL] using hr, hs, Fz.refl ..⟩
  | x :: xs, h, F, vs, K, hk, hs, hr => by
    simp only [ReL] at hr
    obtain ⟨v, vs', rfl, hx, hxs⟩ := hr
    obtain ⟨x', h1, F1, hk1, hp1, hs1, hz1⟩ := hf h F x v _ hk hs hx
    obtain ⟨xs', h2, F2, hk2, hp2, hs2, hz2⟩ := fzL_sound hf xs h1 F1 vs' _ hk1 hs1 (ReL.mono hz1.keeps hz1.evo.hev _ _ hxs)
    refine ⟨x' :: xs', h2, F2, hk2, ?_, hs2, hz1.trans hz2⟩
    simp only [RepL]
    exact ⟨v, vs', rfl, RepP.mono hz2.keeps _ _ hp1, hp2⟩

theorem RowIn.repRow {w : World} {F : Foot} {β : Nat → Nat} {h : Hp} {k b : Nat} {xs : List PV} {arr : Array Value} {e : TypeId} {m : Nat × Nat} (hr : RowIn w F β h k true xs arr) (hb : w.heap[b]? = some (.cells arr e m))
    {F' : Foot} (hF : ∀ x i, F x i → F' x i) (hn : ∀ i, i < xs.length * k → F' b i) : RepRow w F' xs b 0 k := by
  rw [RepRow_iff]
  intro j x hx
  obtain ⟨hk, hc⟩ := hr j x hx
  refine ⟨hk, fun i c hi => ?_⟩
  obtain ⟨U, hU, ho, hp⟩ := hc i c hi
  have hj : j < xs.length := by
    rcases Nat.lt_or_ge j xs.length with h | h
    · exact h
    · simp [List.getElem?_eq_none h] at hx
  have hik : i < k := by
    rcases Nat.lt_or_ge i x.cells.length with h | h
    · omega
    · simp [List.getElem?_eq_none h] at hi
  have hlt : j * k + i < xs.length * k := by
    have : (j + 1) * k ≤ xs.length * k := Nat.mul_le_mul_right _ hj
    rw [Nat.succ_mul] at this
    omega
  refine ⟨by rw [Nat.zero_add]; exact hn _ hlt, U, by rw [Nat.zero_add, cell?_cells hb]; exact hU, ho, RepP.mono (fun b i hf => ⟨hF b i hf, rfl⟩) _ _ (by simpa using hp)⟩

theorem fz_sound {G : Nat} {w : World} {β : Nat → Nat} : ∀ d, FzS G w β (fzK d)
  | 0 => fun h F v V K hk _ _ => by simp [fzK] at hk
  | d + 1 => by
    have ih := fz_sound (G := G) (w := w) (β := β) d
    intro h F v V K hk hs hr
    cases v with
    | own id n =>
      simp only [fzK] at hk
      split at hk
      · rename_i el k xs fz hb
        obtain ⟨rfl, hk⟩ := hk
        simp only [Rep] at hr
        obtain ⟨A, c, rfl, hc, el', k', pr', xs', fz', hb', _, hr⟩ := hr
        rw [hb] at hb'; cases hb'
        obtain ⟨rfl, arr0, harr0, _⟩ := hr rfl
        have hblk := hs.blk _ _ hb
        obtain ⟨arr, harr, hk0, hsz, hrow, hF, hfz⟩ := hblk
        have hmain := mark_fz hs hb (b' := .row el k true xs xs.length) (fun i => i < xs.length * k) (fun _ _ h => by cases h) (fun _ _ _ _ _ h => by cases h; exact ⟨_, rfl⟩) (by
          rintro F' hsub hF' _ ⟨arr, harr, hk0, hsz, hrow, hF, hfz⟩
          refine ⟨arr, harr, hk0, hsz, fun j x hx => ⟨(hrow j x hx).1, fun i c hi => ?_⟩, fun i hi => ?_, Nat.le_refl _⟩
          · obtain ⟨U, hU, ho, hp⟩ := (hrow j x hx).2 i c hi
            exact ⟨U, hU, ho, by simpa using RepP.mono (fun b i hf => ⟨hsub b i hf, rfl⟩) _ _ (by simpa using hp)⟩
          · rcases hF' i hi with h1 | h1
            · exact Nat.lt_of_lt_of_le (hF i h1) (Nat.mul_le_mul_right _ hfz)
            · exact h1)
        refine ⟨_, _, _, hk, ?_, hmain.1, hmain.2⟩
        simp only [RepP]
        refine ⟨_, c, rfl, hc, .inr ⟨β id, 0, k, hk0, rfl, hrow.repRow harr (fun _ _ h => .inl h) fun i hi => .inr ⟨rfl, hi⟩⟩⟩
      · exact hk.elim
    | ptr id off =>
      simp only [fzK] at hk
      split at hk
      · rename_i cs fz hb
        simp only [Rep] at hr
        obtain ⟨cs0, fz0, hb0, hV⟩ := hr
        rw [hb] at hb0; cases hb0
        have hblk := hs.blk _ _ hb
        rcases hblk with ⟨hnm, arr, e, harr, hrl, hF, h1c⟩ | ⟨x, rfl, hx, _⟩
        rotate_left
        · exact absurd hk (by unfold ObjRep at hx; split at hx <;> first | exact hx.elim | (cases d <;> simp [fzLK, fzK]))
        obtain ⟨cs', h1, F1, hk1, hp1, hs1, hz1⟩ := fzL_sound ih cs h F arr.toList _ hk hs hrl
        obtain ⟨fz1, hb1⟩ := hz1.box _ _ _ hb
        have hmain := mark_fz hs1 hb1 (b' := .box cs true) (fun i => i < arr.size) (fun _ _ h => by cases h; exact ⟨_, rfl⟩) (fun _ _ _ _ _ h => by cases h) (by
          rintro F' hsub hF' hev (⟨hnm, arr, e, harr, hrl, _, h1c⟩ | ⟨x, hc, hx, _⟩)
          · exact .inl ⟨hnm, arr, e, harr, ReL.mono (fun b i hf => ⟨hsub b i hf, rfl⟩) hev _ _ hrl, fun _ _ => rfl, h1c⟩
          · exact (hx.notMap hc hnm).elim)
        refine ⟨_, _, _, hk1, ?_, hmain.1, hz1.trans hmain.2⟩
        simp only [RepP]
        refine ⟨β id, 0, by simpa using hV, ?_⟩
        rw [RepCs_iff]
        intro i c hi
        obtain ⟨hl, hq⟩ := (RepL_iff _ _).1 hp1
        obtain ⟨U, hU, hp⟩ := hq i c hi
        have hU' : arr[i]? = some U := by simpa using hU
        refine ⟨.inr ⟨rfl, by simpa using (Array.getElem?_eq_some_iff.1 hU').1⟩, U, by rw [cell?_cells harr]; simpa using hU', h1c _ (List.mem_of_getElem? hU), RepP.mono (fun b i hf => ⟨.inl hf, rfl⟩) _ _ hp⟩
      · exact hk.elim
    | agg cs =>
      simp only [fzK] at hk
      simp only [Rep] at hr
      obtain ⟨arr, rfl, hrl⟩ := hr
      obtain ⟨cs', h1, F1, hk1, hp1, hs1, hz1⟩ := fzL_sound ih cs h F arr.toList _ hk hs hrl
      exact ⟨_, h1, F1, hk1, by simp only [RepP]; exact ⟨arr, rfl, hp1⟩, hs1, hz1⟩
    | tup cs =>
      simp only [fzK] at hk
      simp only [Rep] at hr
      obtain ⟨arr, rfl, hrl⟩ := hr
      obtain ⟨cs', h1, F1, hk1, hp1, hs1, hz1⟩ := fzL_sound ih cs h F arr.toList _ hk hs hrl
      exact ⟨_, h1, F1, hk1, by simp only [RepP]; exact ⟨arr, rfl, hp1⟩, hs1, hz1⟩
    | fn f fi ca =>
      simp only [fzK] at hk
      simp only [Rep] at hr
      obtain ⟨fa, ga, rfl, hr1, hr2⟩ := hr
      obtain ⟨cs1, h1, F1, hk1, hp1, hs1, hz1⟩ := fzL_sound ih fi h F fa.toList _ hk hs hr1
      obtain ⟨cs2, h2, F2, hk2, hp2, hs2, hz2⟩ := fzL_sound ih ca h1 F1 ga.toList _ hk1 hs1 (ReL.mono hz1.keeps hz1.evo.hev _ _ hr2)
      exact ⟨_, h2, F2, hk2, by simp only [RepP]; exact ⟨fa, ga, rfl, RepL.mono hz2.keeps _ _ hp1, hp2⟩, hs2, hz1.trans hz2⟩
    | rp _ _ _ _ => simp [fzK] at hk
    | fresh _ _ => simp [fzK] at hk
    | mapo _ => simp [fzK] at hk
    | mapp _ _ => simp [fzK] at hk
    | yl _ => simp [fzK] at hk
    | itp _ _ => simp [fzK] at hk
    | loopp _ _ _ _ _ => simp [fzK] at hk
    | _ =>
      simp only [fzK] at hk
      exact ⟨_, h, F, hk, by simpa only [Rep] using hr, hs, Fz.refl ..⟩

end Go.Px

set_option linter.unusedVariables false
set_option linter.unusedSimpArgs false
set_option linter.unnecessarySimpa false
namespace Go.Px
open Go

/-! ### What an operation's operands stand for -/
def ofConst : Value → PV
  | .int k n => .int k n
  | .bool b => .bool b
  | .string s => .str s.data.toList
  | .nilIface => .nili
  | .nilFunc => .nilf
  | .pointer none => .nilf
  | .slice none 0 0 => .nils
  | _ => .undef
theorem ofConst_rep {w : World} {F : Foot} {β : Nat → Nat} {h : Hp} (v : Value) : Rep w F β h (ofConst v) v := by
  unfold ofConst
  split <;> simp [Rep, RepP]

def opd (tm : List (Nat × PV)) : Operand → PV
  | .tmp t => get tm t
  | .const v => ofConst v
  | .global g => .gp g 0
  | .func f => .fn (.func f) [] []
theorem opd_rep {Tb : Tab} {E : Env Tb} {N B : Nat} {F : Foot} {β : Nat → Nat} {st : AS} {a : Act} {w : World} (s : Sim E N B F β st a w) (x : Operand) : Rep w F β st.h (opd st.tm x) (a.eval x) := by
  cases x with
  | tmp t => exact s.tm t
  | const v => exact ofConst_rep v
  | global g => simp [opd, Act.eval, Rep, RepP]
  | func f => simp [opd, Act.eval, Rep, ReL]

def unkb : PV → PV
  | .kb b => .bool b
  | v => v
theorem unkb_rep {w : World} {F : Foot} {β : Nat → Nat} {h : Hp} {v : PV} {V : Value} (hr : Rep w F β h v V) : Rep w F β h (unkb v) V := by
  cases v <;> simpa [unkb, Rep, RepP] using hr

def isAggD : TypeDesc → Bool
  | .struct _ | .array _ _ => true
  | _ => false

/-- A value whose cells are the machine's. -/
def faith : PV → Bool
  | .undef | .tup _ | .fresh _ _ | .kb _ | .mapo _ | .mapp _ _ | .yl _ | .itp _ _ | .loopp _ _ _ _ _ => false
  | _ => true
theorem faith_cells {w : World} {F : Foot} {β : Nat → Nat} {h : Hp} {v : PV} {V : Value} (hf : faith v = true) (hr : Rep w F β h v V) : ReL w F β h v.cells V.cells.toList := by
  cases v with
  | agg cs =>
    simp only [Rep] at hr
    obtain ⟨arr, rfl, hl⟩ := hr
    simpa [PV.cells, Value.cells] using hl
  | undef => simp [faith] at hf
  | tup _ => simp [faith] at hf
  | fresh _ _ => simp [faith] at hf
  | kb _ => simp [faith] at hf
  | mapo _ => simp [faith] at hf
  | mapp _ _ => simp [faith] at hf
  | yl _ => simp [faith] at hf
  | itp _ _ => simp [faith] at hf
  | loopp _ _ _ _ _ => simp [faith] at hf
  | int k n => simp only [Rep, RepP] at hr; subst hr; simp [PV.cells, Value.cells, ReL, Rep, RepP]
  | bool n => simp only [Rep, RepP] at hr; subst hr; simp [PV.cells, Value.cells, ReL, Rep, RepP]
  | str n => simp only [Rep, RepP] at hr; subst hr; simp [PV.cells, Value.cells, ReL, Rep, RepP]
  | nili => simp only [Rep, RepP] at hr; subst hr; simp [PV.cells, Value.cells, ReL, Rep, RepP]
  | nilf => simp only [Rep, RepP] at hr; rcases hr with rfl | rfl <;> simp [PV.cells, Value.cells, ReL, Rep, RepP]
  | err => simp only [Rep, RepP] at hr; obtain ⟨t, v, rfl⟩ := hr; simp [PV.cells, Value.cells, ReL, Rep, RepP]
  | nils => simp only [Rep, RepP] at hr; obtain ⟨A, rfl⟩ := hr; simp [PV.cells, Value.cells, ReL, Rep, RepP]
  | gp g o => simp only [Rep, RepP] at hr; subst hr; simp [PV.cells, Value.cells, ReL, Rep, RepP]
  | sl xs =>
    have hr' := hr
    simp only [Rep, RepP] at hr; obtain ⟨A, c, rfl, _⟩ := hr
    exact ⟨_, [], rfl, hr', rfl⟩
  | own id n =>
    have hr' := hr
    simp only [Rep] at hr; obtain ⟨A, c, rfl, _⟩ := hr
    exact ⟨_, [], rfl, hr', rfl⟩
  | pp cs off =>
    have hr' := hr
    simp only [Rep, RepP] at hr; obtain ⟨b, base, rfl, _⟩ := hr
    exact ⟨_, [], rfl, hr', rfl⟩
  | fn f fi ca =>
    have hr' := hr
    simp only [Rep] at hr; obtain ⟨fa, ga, rfl, _⟩ := hr
    exact ⟨_, [], rfl, hr', rfl⟩
  | ptr id off =>
    have hr' := hr
    simp only [Rep] at hr; obtain ⟨_, _, _, rfl⟩ := hr
    exact ⟨_, [], rfl, hr', rfl⟩
  | rp id n i off =>
    have hr' := hr
    simp only [Rep] at hr; obtain ⟨⟨A, rfl⟩, _⟩ := hr
    exact ⟨_, [], rfl, hr', rfl⟩

/-! ### The values of operations -/
def fld {Tb : Tab} (E : Env Tb) (s : TypeId) (f : Nat) : Option (Nat × Nat × Bool) :=
  match E.ty s with
  | some i =>
    match i.und with
    | .struct fs =>
      match fs[f]? with
      | some fd =>
        match E.ty fd.type with
        | some j => some (fd.offset, j.size, isAggD j.und)
        | none => none
      | none => none
    | _ => none
  | none => none
def elemTy {Tb : Tab} (E : Env Tb) (t : TypeId) : Option (TypeId × Nat) :=
  match E.ty t with
  | some i =>
    match i.und with
    | .slice e =>
      match E.ty e with
      | some j => some (e, j.size)
      | none => none
    | _ => none
  | none => none

/-- A part of some cells: a struct, or one cell. -/
def partK (ag : Bool) (size : Nat) (cs : List PV) (off : Nat) (K : PV → Prop) : Prop :=
  bif ag then (bif Nat.ble (off + size) cs.length then K (.agg ((cs.drop off).take size)) else False)
  else match cs[off]? with
    | some c => K c
    | none => False

def loadK {Tb : Tab} (E : Env Tb) (t : TypeId) (p : PV) (h : Hp) (K : PV → Hp → Prop) : Prop :=
  match E.ty t with
  | none => False
  | some i =>
    match p with
    | .ptr id off =>
      match getB h id with
      | some (.box cs _) => bif notMap cs then partK (isAggD i.und) i.size cs off fun v => K v h else False
      | _ => False
    | .rp id n j off =>
      match getB h id with
      | some (.row _ _ _ xs _) => n = xs.length ∧ ∃ x, xs[j]? = some x ∧ partK (isAggD i.und) i.size x.cells off fun v => K v h
      | _ => False
    | .pp cs off => partK (isAggD i.und) i.size cs off fun v => K v h
    | .gp g off =>
      match E.glob g with
      | some cs => partK (isAggD i.und) i.size cs off fun v => K v h
      | none => False
    | _ => False

def isCell : PV → Bool
  | .undef | .agg _ | .tup _ | .fresh _ _ | .kb _ | .mapo _ | .mapp _ _ | .yl _ | .itp _ _ | .loopp _ _ _ _ _ => false
  | _ => true
def pureC : PV → Bool
  | .int _ _ | .bool _ | .str _ | .nili | .nilf | .err | .sl _ | .nils | .gp _ _ => true
  | _ => false
def splice (cs : List PV) (off : Nat) (vs : List PV) : List PV := cs.take off ++ vs ++ cs.drop (off + vs.length)
def updE (x : PV) (off : Nat) (vs : List PV) : PV :=
  match x with
  | .agg cs => .agg (splice cs off vs)
  | y =>
    match vs with
    | [c] => c
    | _ => y

def storeK {Tb : Tab} (E : Env Tb) (t : TypeId) (p v : PV) (h : Hp) (K : PV → Hp → Prop) : Prop :=
  match E.ty t with
  | none => False
  | some i =>
    bif faith v && Nat.beq v.cells.length i.size && v.cells.all isCell then
      match p with
      | .ptr id off =>
        match getB h id with
        | some (.box cs false) => bif notMap cs && Nat.ble (off + i.size) cs.length then K .undef (setB h id (some (.box (splice cs off v.cells) false))) else False
        | _ => False
      | .rp id n j off =>
        match getB h id with
        | some (.row e k pr xs fz) => n = xs.length ∧ fz ≤ j ∧ ∃ x, xs[j]? = some x ∧ off + v.cells.length ≤ x.cells.length ∧
            (bif !pr || v.cells.all pureC then K .undef (setB h id (some (.row e k pr (xs.set j (updE x off v.cells)) fz))) else False)
        | _ => False
      | _ => False
    else False

def eqCs : List PV → List PV → Option Bool
  | [], [] => some true
  | .int k a :: r, .int k' b :: r' => bif decide (k = k') then (eqCs r r').map fun t => decide (a = b) && t else none
  | .bool a :: r, .bool b :: r' => (eqCs r r').map fun t => decide (a = b) && t
  | .str a :: r, .str b :: r' => (eqCs r r').map fun t => decide (a = b) && t
  | _, _ => none

def intOpK (op : BinOp) (k : IntKind) (a b : Int) (K : PV → Prop) : Prop :=
  match op with
  | .add => ∃ z, k.wrap (a + b) = z ∧ K (.int k z)
  | .sub => ∃ z, k.wrap (a - b) = z ∧ K (.int k z)
  | .mul => ∃ z, k.wrap (a * b) = z ∧ K (.int k z)
  | .quo => b ≠ 0 ∧ ∃ z, k.wrap (a.tdiv b) = z ∧ K (.int k z)
  | .rem => b ≠ 0 ∧ ∃ z, a.tmod b = z ∧ K (.int k z)
  | .eql => K (.bool (decide (a = b)))
  | .neq => K (.bool (decide (a ≠ b)))
  | .lss => K (.bool (decide (a < b)))
  | .leq => K (.bool (decide (a ≤ b)))
  | .gtr => K (.bool (decide (b < a)))
  | .geq => K (.bool (decide (b ≤ a)))
  | .and => ∃ z, k.wrap ((BitVec.ofInt k.bits a &&& BitVec.ofInt k.bits b).toNat : Int) = z ∧ K (.int k z)
  | .or => ∃ z, k.wrap ((BitVec.ofInt k.bits a ||| BitVec.ofInt k.bits b).toNat : Int) = z ∧ K (.int k z)
  | .xor => ∃ z, k.wrap ((BitVec.ofInt k.bits a ^^^ BitVec.ofInt k.bits b).toNat : Int) = z ∧ K (.int k z)
  | .andNot => ∃ z, k.wrap ((BitVec.ofInt k.bits a &&& ~~~BitVec.ofInt k.bits b).toNat : Int) = z ∧ K (.int k z)
  | _ => False

def strOpK (op : BinOp) (a b : List UInt8) (K : PV → Prop) : Prop :=
  match op with
  | .add => (a.length + b.length : Nat) ≤ 9223372036854775807 ∧ K (.str (a ++ b))
  | .eql => K (.bool (decide (a = b)))
  | .neq => K (.bool (decide (a ≠ b)))
  | .lss => K (.bool (Op.bytesLess a b))
  | .leq => K (.bool (Op.bytesLess a b || decide (a = b)))
  | .gtr => K (.bool (!(Op.bytesLess a b || decide (a = b))))
  | .geq => K (.bool (!Op.bytesLess a b))
  | _ => False

def isConstNil : Operand → Bool
  | .const .nilIface => true
  | _ => false

/-- The constant nil slice. -/
def isConstNilS : Operand → Bool
  | .const (.slice none 0 0) => true
  | _ => false
def isSlice : TypeDesc → Bool
  | .slice _ => true
  | _ => false
/-- A slice against the constant nil slice: what is nil is empty. -/
def nilK {Tb : Tab} (E : Env Tb) (t : TypeId) (yo : Operand) (xs : List PV) (want : Bool) (K : PV → Prop) : Prop :=
  bif isConstNilS yo then match E.ty t with
    | some i => bif isSlice i.und then ∀ b : Bool, (b = want → xs = []) → K (.bool b) else False
    | none => False
  else False

def binK {Tb : Tab} (E : Env Tb) (op : BinOp) (t : TypeId) (xo yo : Operand) (x y : PV) (K : PV → Prop) : Prop :=
  match op, unkb x, unkb y with
  | .shl, .int k a, .int _ b => 0 ≤ b ∧ ∃ z, k.wrap (a * 2 ^ (min b.toNat k.bits)) = z ∧ K (.int k z)
  | .shr, .int k a, .int _ b => 0 ≤ b ∧ ∃ z, a.fdiv (2 ^ (min b.toNat k.bits)) = z ∧ K (.int k z)
  | op, .int k a, .int k' b => bif decide (k = k') then intOpK op k a b K else False
  | op, .str a, .str b => strOpK op a b K
  | .eql, .bool a, .bool b => match E.ty t with
    | some i => match i.und with
      | .bool => K (.bool (decide (a = b)))
      | _ => False
    | none => False
  | .neq, .bool a, .bool b => match E.ty t with
    | some i => match i.und with
      | .bool => K (.bool (decide (a ≠ b)))
      | _ => False
    | none => False
  | .eql, .agg a, .agg b => match E.ty t with
    | some i => bif E.eqt t (a.map kOf) && Nat.beq a.length i.size then match eqCs a b with
        | some r => K (.bool r)
        | none => False
      else False
    | none => False
  | .neq, .agg a, .agg b => match E.ty t with
    | some i => bif E.eqt t (a.map kOf) && Nat.beq a.length i.size then match eqCs a b with
        | some r => K (.bool (!r))
        | none => False
      else False
    | none => False
  | .eql, .err, .nili => match E.ty t with
    | some i => match i.und with
      | .interface _ => K (.bool false)
      | _ => False
    | none => False
  | .neq, .err, .nili => match E.ty t with
    | some i => match i.und with
      | .interface _ => K (.bool true)
      | _ => False
    | none => False
  | .eql, .nili, .nili => bif isConstNil yo then match E.ty t with
    | some i => match i.und with
      | .interface _ => K (.bool true)
      | _ => False
    | none => False
    else False
  | .neq, .nili, .nili => bif isConstNil yo then match E.ty t with
    | some i => match i.und with
      | .interface _ => K (.bool false)
      | _ => False
    | none => False
    else False
  | .eql, .sl xs, .nils => nilK E t yo xs true K
  | .neq, .sl xs, .nils => nilK E t yo xs false K
  | .eql, .nils, .nils => nilK E t yo [] true K
  | .neq, .nils, .nils => nilK E t yo [] false K
  | _, _, _ => False

end Go.Px

set_option linter.unusedVariables false
set_option linter.unusedSimpArgs false
set_option linter.unnecessarySimpa false
namespace Go.Px
open Go

/-- A reckoning of the model's comes to what K takes. -/
def VGoal {Tb : Tab} (E : Env Tb) (sem : Sem Value) (w : World) (F : Foot) (β : Nat → Nat) (h : Hp) (K : PV → Hp → Prop) : Prop :=
  ∃ V w' F' β' h' v, sem.run E.P w = .ok V w' ∧ K v h' ∧ Rep w' F' β' h' v V ∧ SimH E.G w' F' β' h' ∧ Evo h.length w F β h w' F' β' h'

section
variable {Tb : Tab} {E : Env Tb} {w : World} {F : Foot} {β : Nat → Nat} {h : Hp}

theorem vg_pure {sem : Sem Value} {K : PV → Hp → Prop} {V : Value} {v : PV} (hs : SimH E.G w F β h) (hr : sem.run E.P w = .ok V w) (hK : K v h) (hrep : Rep w F β h v V) : VGoal E sem w F β h K :=
  ⟨V, w, F, β, h, v, hr, hK, hrep, hs, Evo.refl _ _ _ _⟩

theorem add_addr (b o j : Nat) : (⟨b, o, none⟩ : Addr).add j = ⟨b, o + j, none⟩ := by unfold Addr.add; split <;> simp_all

theorem ty_und {t : TypeId} {i : TyI} (hi : E.ty t = some i) : E.P.underlying t = some i.und := (E.tyok hi).1
theorem ty_info {t : TypeId} {i : TyI} (hi : E.ty t = some i) : ∃ inf, E.P.info? t = some inf ∧ inf.size = i.size ∧ inf.bytes = i.bytes ∧ inf.zero = some i.zero := (E.tyok hi).2
theorem run_sizeOf' {t : TypeId} {i : TyI} (hi : E.ty t = some i) (w : World) : (sizeOf t).run E.P w = .ok i.size w := by
  obtain ⟨inf, h1, h2, _⟩ := ty_info hi
  simp [sizeOf, typeInfo, h1, h2]
theorem run_zero' {t : TypeId} {i : TyI} (hi : E.ty t = some i) (w : World) : (zeroValue t).run E.P w = .ok i.zero w := by
  obtain ⟨inf, h1, h2, h3, h4⟩ := ty_info hi
  simp [zeroValue, typeInfo, h1, h4]
theorem run_isAgg' {t : TypeId} {i : TyI} (hi : E.ty t = some i) (w : World) : (isAgg t).run E.P w = .ok (isAggD i.und) w := by
  simp only [isAgg, Sem.run_bind, run_underlying (ty_und hi)]
  simp only [Result.andThen_ok]
  cases i.und <;> rfl

/-- Some cells at a place. -/
def CellsAt (w : World) (F : Foot) (β : Nat → Nat) (h : Hp) (b base : Nat) (cs : List PV) : Prop :=
  ∀ (i : Nat) (c : PV), cs[i]? = some c → ∃ U, w.cell? ⟨b, base + i, none⟩ = some U ∧ Rep w F β h c U

theorem CellsAt.ofRepCs {b base : Nat} {cs : List PV} {F' : Foot} (hF : Keeps w F' w F) (hr : RepCs w F' cs b base) : CellsAt w F β h b base cs := fun i c hi => by
  obtain ⟨_, U, hU, _, hp⟩ := (RepCs_iff _ _ _).1 hr i c hi
  exact ⟨U, hU, RepP.toRep β h _ _ (RepP.mono hF _ _ hp)⟩

theorem part_load {t : TypeId} {i : TyI} (hi : E.ty t = some i) {b base off : Nat} {cs : List PV} {K : PV → Prop} (hc : CellsAt w F β h b base cs) (hp : partK (isAggD i.und) i.size cs off K) :
    ∃ V v, (loadVar t ⟨b, base + off, none⟩).run E.P w = .ok V w ∧ K v ∧ Rep w F β h v V := by
  unfold partK at hp
  simp only [loadVar, Sem.run_bind, run_isAgg' hi, Result.andThen_ok]
  cases hag : isAggD i.und with
  | true =>
    rw [hag] at hp
    simp only [cond_true] at hp
    cases hle : Nat.ble (off + i.size) cs.length with
    | false => simp [hle] at hp
    | true =>
      rw [hle] at hp
      simp only [cond_true] at hp
      have hle' : off + i.size ≤ cs.length := Nat.le_of_ble_eq_true hle
      have hex : ∀ j, j < i.size → ∃ U, w.cell? ⟨b, base + off + j, none⟩ = some U ∧ Rep w F β h ((cs[off + j]?).getD .undef) U := fun j hj => by
        have : cs[off + j]? = some cs[off + j] := List.getElem?_eq_getElem (by omega)
        obtain ⟨U, hU, hr⟩ := hc _ _ this
        exact ⟨U, by rw [Nat.add_assoc]; exact hU, by simpa [this] using hr⟩
      have hload := run_loadCells (P := E.P) w ⟨b, base + off, none⟩ i.size (fun j => (w.cell? ⟨b, base + off + j, none⟩).getD undef) (fun j hj => by
        obtain ⟨U, hU, _⟩ := hex j hj
        rw [add_addr, hU]; rfl)
      refine ⟨_, _, by simp only [if_true, Sem.run_bind, run_sizeOf' hi, Result.andThen_ok, hload, Sem.run_pure]; rfl, hp, ?_⟩
      simp only [Rep]
      refine ⟨_, rfl, (ReL_iff _ _).2 ⟨by simp; omega, fun j x hx => ?_⟩⟩
      have hj : j < i.size := by
        have := (List.getElem?_eq_some_iff.1 hx).1
        simp at this; omega
      obtain ⟨U, hU, hr⟩ := hex j hj
      refine ⟨U, by simp [hj, hU], ?_⟩
      have hx' : cs[off + j]? = some x := by
        rw [List.getElem?_take, if_pos hj, List.getElem?_drop] at hx
        exact hx
      simpa [hx'] using hr
  | false =>
    rw [hag] at hp
    simp only [cond_false] at hp
    cases hx : cs[off]? with
    | none => rw [hx] at hp; exact hp.elim
    | some c =>
      rw [hx] at hp
      obtain ⟨U, hU, hr⟩ := hc _ _ hx
      exact ⟨U, c, by simp [hU], hp, hr⟩

theorem BlkRep.box_cells {id : Nat} {cs : List PV} {fz : Bool} (hnm : notMap cs = true) (hb : BlkRep w F β h id (.box cs fz)) : CellsAt w F β h (β id) 0 cs := by
  rcases hb with ⟨_, arr, e, harr, hr, _⟩ | ⟨_, hc, hx, _⟩
  rotate_left
  · exact (hx.notMap hc hnm).elim
  intro i c hi
  obtain ⟨_, hq⟩ := (ReL_iff _ _).1 hr
  obtain ⟨U, hU, hp⟩ := hq i c hi
  exact ⟨U, by rw [Nat.zero_add, cell?_cells harr]; simpa using hU, hp⟩

theorem BlkRep.row_cells {id : Nat} {e : TypeId} {k : Nat} {pr : Bool} {xs : List PV} {fz : Nat} (hb : BlkRep w F β h id (.row e k pr xs fz)) {j : Nat} {x : PV} (hx : xs[j]? = some x) :
    x.cells.length = k ∧ CellsAt w F β h (β id) (j * k) x.cells := by
  obtain ⟨arr, harr, _, _, hr, _⟩ := hb
  obtain ⟨hk, hc⟩ := hr j x hx
  refine ⟨hk, fun i c hi => ?_⟩
  obtain ⟨U, hU, _, hp⟩ := hc i c hi
  refine ⟨U, by rw [cell?_cells harr]; exact hU, ?_⟩
  cases pr with
  | true => exact RepP.toRep _ _ _ _ (by simpa using hp)
  | false => simpa using hp

theorem load_run {t : TypeId} {p : PV} {V : Value} {K : PV → Hp → Prop} (hk : loadK E t p h K) (hs : SimH E.G w F β h) (hg : E.GI w) (hr : Rep w F β h p V) : ∃ V' v, (Instr.loadAt t V).run E.P w = .ok V' w ∧ K v h ∧ Rep w F β h v V' := by
  unfold loadK at hk
  split at hk
  · exact hk.elim
  · rename_i i hi
    have fin : ∀ (b base off : Nat) (cs : List PV), V = .pointer (some ⟨b, base + off, none⟩) → CellsAt w F β h b base cs → partK (isAggD i.und) i.size cs off (fun v => K v h) → (∃ V' v, (Instr.loadAt t V).run E.P w = .ok V' w ∧ K v h ∧ Rep w F β h v V') := by
      rintro b base off cs rfl hc hp
      obtain ⟨V, v, hrun, hK, hrep⟩ := part_load hi hc hp
      refine ⟨_, _, ?_, hK, hrep⟩
      simpa [Instr.loadAt, Instr.sureAddr] using hrun
    cases p <;> simp only at hk <;> try exact hk.elim
    case ptr id off =>
      split at hk
      · rename_i cs fz hb
        simp only [Rep] at hr
        obtain ⟨_, _, _, hV⟩ := hr
        cases hnm : notMap cs with
        | false => rw [hnm] at hk; exact hk.elim
        | true => rw [hnm] at hk; exact fin (β id) 0 off cs (by rw [Nat.zero_add]; exact hV) ((hs.blk _ _ hb).box_cells hnm) hk
      · exact hk.elim
    case rp id n j off =>
      split at hk
      · rename_i e k pr xs fz hb
        obtain ⟨hn, x, hx, hk⟩ := hk
        simp only [Rep] at hr
        obtain ⟨hxk, hc⟩ := (hs.blk _ _ hb).row_cells hx
        obtain ⟨_, e1, k1, pr1, xs1, fz1, hb1, _, hV⟩ := hr
        rw [hb] at hb1; cases hb1
        exact fin (β id) (j * k) off x.cells (hV hn) hc hk
      · exact hk.elim
    case pp cs off =>
      simp only [Rep, RepP] at hr
      obtain ⟨b, base, rfl, hc⟩ := hr
      exact fin b base off cs rfl (CellsAt.ofRepCs (fun _ _ h => ⟨h, rfl⟩) hc) hk
    case gp g off =>
      split at hk
      · rename_i cs hcs
        simp only [Rep, RepP] at hr
        have hc := E.globok hg hcs
        exact fin g 0 off cs (by rw [Nat.zero_add]; exact hr) (CellsAt.ofRepCs (fun b i hf => ⟨hs.glo b i hf, rfl⟩) hc) hk
      · exact hk.elim

theorem load_sound {t : TypeId} {p : PV} {V : Value} {K : PV → Hp → Prop} (hk : loadK E t p h K) (hs : SimH E.G w F β h) (hg : E.GI w) (hr : Rep w F β h p V) : VGoal E (Instr.loadAt t V) w F β h K := by
  obtain ⟨V', v, h1, h2, h3⟩ := load_run hk hs hg hr
  exact vg_pure hs h1 h2 h3

theorem load_as {t : TypeId} {V V' : Value} {w' : World} (hr : (Instr.loadAt t V).run E.P w = .ok V' w') : (do loadVar t (← asAddr V) : Sem Value).run E.P w = .ok V' w' := by
  unfold Instr.loadAt at hr
  cases V with
  | pointer a =>
    cases a with
    | some a => exact hr
    | none => simp [Instr.sureAddr] at hr
  | _ => simp [Instr.sureAddr] at hr
end
end Go.Px

set_option linter.unusedVariables false
set_option linter.unusedSimpArgs false
set_option linter.unnecessarySimpa false
namespace Go.Px
open Go
section
variable {Tb : Tab} {E : Env Tb} {w : World} {F : Foot} {β : Nat → Nat} {h : Hp}

theorem write_ok {G : Nat} {w' : World} (hs : SimH G w F β h) {id : Nat} {b b' : Blk} (hb : getB h id = some b) (hsz : w'.heap.size = w.heap.size) (hoth : ∀ k, k ≠ β id → w'.heap[k]? = w.heap[k]?)
    (ht : w'.tape = w.tape) (ho : w'.os = w.os) (hu : w'.output = w.output)
    (hkind : (∃ cs fz cs' fz', b = .box cs fz ∧ b' = .box cs' fz') ∨ (∃ e k pr xs fz pr' xs' fz', b = .row e k pr xs fz ∧ b' = .row e k pr' xs' fz' ∧ xs.length ≤ xs'.length ∧
      ∀ arr, w.heap[β id]? = some (.cells arr e (0, 0)) → ∃ arr', w'.heap[β id]? = some (.cells arr' e (0, 0)) ∧ arr'.size = arr.size))
    (hF : ∀ i, F (β id) i → w'.cell? ⟨β id, i, none⟩ = w.cell? ⟨β id, i, none⟩)
    (hnew : Keeps w F w' F → HEv w β h w' β (setB h id (some b')) → BlkRep w' F β (setB h id (some b')) id b') :
    SimH G w' F β (setB h id (some b')) ∧ Evo h.length w F β h w' F β (setB h id (some b')) := by
  have hlt := getB_lt h id b hb
  have hkeep : Keeps w F w' F := fun x i hf => ⟨hf, by
    by_cases e : x = β id
    · subst e; exact hF i hf
    · exact cell?_of_heap (hoth x e)⟩
  have hev : HEv w β h w' β (setB h id (some b')) := by
    refine ⟨fun j cs fz hb' => ?_, fun j el k pr xs fz hb' => ?_⟩
    · by_cases e : j = id
      · subst e
        rw [hb] at hb'; injection hb' with hb'
        rcases hkind with ⟨cs0, fz0, cs1, fz1, e1, e2⟩ | ⟨_, _, _, _, _, _, _, _, e1, _⟩
        · exact ⟨⟨cs1, fz1, by rw [getB_setB_self _ _ _ hlt, e2]⟩, rfl⟩
        · rw [hb'] at e1; cases e1
      · exact ⟨⟨_, _, by rw [getB_setB_ne _ _ _ _ e]; exact hb'⟩, rfl⟩
    · by_cases e : j = id
      · subst e
        rw [hb] at hb'; injection hb' with hb'
        rcases hkind with ⟨cs0, fz0, _, _, e1, _⟩ | ⟨e0, k0, pr0, xs0, fz0, pr1, xs1, fz1, e1, e2, hl, harr⟩
        · rw [hb'] at e1; cases e1
        · rw [hb'] at e1; cases e1
          exact ⟨pr1, xs1, fz1, by rw [getB_setB_self _ _ _ hlt, e2], hl, fun _ => ⟨rfl, harr⟩⟩
      · refine ⟨pr, xs, fz, by rw [getB_setB_ne _ _ _ _ e]; exact hb', Nat.le_refl _, fun _ => ⟨rfl, fun arr ha => ⟨arr, ?_, rfl⟩⟩⟩
        rw [hoth _ (fun he => e (hs.inj _ _ _ _ hb' hb he))]; exact ha
  have back : ∀ j bj, getB (setB h id (some b')) j = some bj → ∃ b0, getB h j = some b0 := fun j bj hj => by
    by_cases e : j = id
    · exact ⟨b, e ▸ hb⟩
    · exact ⟨bj, by rwa [getB_setB_ne _ _ _ _ e] at hj⟩
  refine ⟨⟨fun j bj hj => ?_, fun i j bi bj hi hj he => ?_, fun x i hf => by rw [hsz]; exact hs.fin x i hf, fun j bj hj => ?_, hs.glo⟩, ?_⟩
  · by_cases e : j = id
    · subst e; rw [getB_setB_self _ _ _ hlt] at hj; injection hj with hj; subst hj; exact hnew hkeep hev
    · rw [getB_setB_ne _ _ _ _ e] at hj
      exact BlkRep.of hkeep hev rfl (hoth _ (fun he => e (hs.inj _ _ _ _ hj hb he))) (fun _ hf => hf) (hs.blk _ _ hj)
  · obtain ⟨b1, g1⟩ := back i bi hi; obtain ⟨b2, g2⟩ := back j bj hj
    exact hs.inj i j _ _ g1 g2 he
  · obtain ⟨b1, g1⟩ := back j bj hj; exact hs.lo _ _ g1
  · refine ⟨Nat.le_of_eq hsz.symm, fun x hx hno => hoth x (fun he => hno ⟨id, b, hb, he.symm⟩), ht, ho, hu, hkeep, fun _ _ hf => .inl hf, fun x ⟨j, bj, hj, he⟩ => ?_, fun j cs fz _ hb => hev.box j cs fz hb, fun j el k pr xs fz _ hb => hev.row j el k pr xs fz hb⟩
    obtain ⟨b1, g1⟩ := back j bj hj
    exact .inl ⟨j, b1, g1, he⟩

theorem ReL_append {xs ys : List PV} {vs us : List Value} (h1 : ReL w F β h xs vs) (h2 : ReL w F β h ys us) : ReL w F β h (xs ++ ys) (vs ++ us) := by
  induction xs generalizing vs with
  | nil => simp only [ReL] at h1; subst h1; simpa using h2
  | cons x xs ih =>
    simp only [ReL] at h1
    obtain ⟨v, vs', rfl, hx, hxs⟩ := h1
    exact ⟨v, vs' ++ us, rfl, hx, ih hxs⟩
theorem ReL_take (n : Nat) {xs : List PV} {vs : List Value} (h1 : ReL w F β h xs vs) : ReL w F β h (xs.take n) (vs.take n) := by
  obtain ⟨hl, hq⟩ := (ReL_iff _ _).1 h1
  refine (ReL_iff _ _).2 ⟨by simp [hl], fun i x hx => ?_⟩
  rw [List.getElem?_take] at hx
  split at hx
  · rename_i hi
    obtain ⟨v, hv, hr⟩ := hq i x hx
    exact ⟨v, by rw [List.getElem?_take, if_pos hi]; exact hv, hr⟩
  · cases hx
theorem ReL_drop (n : Nat) {xs : List PV} {vs : List Value} (h1 : ReL w F β h xs vs) : ReL w F β h (xs.drop n) (vs.drop n) := by
  obtain ⟨hl, hq⟩ := (ReL_iff _ _).1 h1
  refine (ReL_iff _ _).2 ⟨by simp [hl], fun i x hx => ?_⟩
  rw [List.getElem?_drop] at hx
  obtain ⟨v, hv, hr⟩ := hq _ x hx
  exact ⟨v, by rw [List.getElem?_drop]; exact hv, hr⟩

theorem isCell_one {c : PV} {U : Value} (hc : isCell c = true) (hr : Rep w F β h c U) : U.oneCell' = true := by
  cases c <;> simp [isCell] at hc <;> simp only [Rep, RepP] at hr
  case int => subst hr; rfl
  case bool => subst hr; rfl
  case str => subst hr; rfl
  case nili => subst hr; rfl
  case nilf => rcases hr with rfl | rfl <;> rfl
  case err => obtain ⟨t, v, rfl⟩ := hr; rfl
  case sl => obtain ⟨A, c, rfl, _⟩ := hr; rfl
  case nils => obtain ⟨A, rfl⟩ := hr; rfl
  case own => obtain ⟨A, c, rfl, _⟩ := hr; rfl
  case ptr => obtain ⟨_, _, _, rfl⟩ := hr; rfl
  case rp => obtain ⟨⟨A, rfl⟩, _⟩ := hr; rfl
  case pp => obtain ⟨b, base, rfl, _⟩ := hr; rfl
  case fn => obtain ⟨fa, ga, rfl, _⟩ := hr; rfl
  case gp => subst hr; rfl

theorem pureC_rep {c : PV} {U : Value} (hc : pureC c = true) (hr : Rep w F β h c U) : RepP w F c U := by
  cases c <;> simp [pureC] at hc <;> simpa only [Rep] using hr

theorem storeCells_row {g o : Nat} {e : TypeId} {vs : List Value} {cur : Array Value} {w : World} (hg : w.heap[g]? = some (.cells cur e (0, 0))) (hle : o + vs.length ≤ cur.size) (h1 : ∀ v ∈ vs, v.oneCell' = true) :
    (storeCells ⟨g, o, none⟩ vs).run E.P w = .ok () (w.setRow g (cur.toList.take o ++ vs ++ cur.toList.drop (o + vs.length)).toArray) := by
  simpa using run_storeCells_at E.P g o e vs 0 cur w hg (by simpa using hle) h1

theorem storeVar_row {t : TypeId} {i : TyI} (hi : E.ty t = some i) {g o : Nat} {e : TypeId} {V : Value} {cur : Array Value} {w : World} (hg : w.heap[g]? = some (.cells cur e (0, 0))) (hsz : V.cells.size = i.size)
    (hle : o + i.size ≤ cur.size) (h1 : ∀ v ∈ V.cells.toList, v.oneCell' = true) :
    (storeVar t ⟨g, o, none⟩ V).run E.P w = .ok () (w.setRow g (cur.toList.take o ++ V.cells.toList ++ cur.toList.drop (o + V.cells.size)).toArray) := by
  have := storeCells_row (E := E) hg (o := o) (vs := V.cells.toList) (by simpa [hsz] using hle) h1
  simp only [Array.length_toList] at this
  simp [storeVar, run_sizeOf' hi, hsz] at this ⊢
  exact this

theorem size_splice {α : Type} (a : Array α) (o : Nat) (vs : List α) (hle : o + vs.length ≤ a.size) : (a.toList.take o ++ vs ++ a.toList.drop (o + vs.length)).toArray.size = a.size := by
  simp; omega

theorem get_splice (a b : Array Value) (o m : Nat) (hle : o + b.size ≤ a.size) : (a.toList.take o ++ b.toList ++ a.toList.drop (o + b.size)).toArray[m]? = if m < o then a[m]? else if m < o + b.size then b[m - o]? else a[m]? := by
  have ho : min o a.toList.length = o := by simp; omega
  simp only [List.getElem?_toArray, List.append_assoc]
  by_cases h1 : m < o
  · rw [List.getElem?_append_left (by simp; omega), List.getElem?_take, if_pos h1, if_pos h1, Array.getElem?_toList]
  · rw [List.getElem?_append_right (by simp; omega), if_neg h1]
    simp only [List.length_take, ho]
    by_cases h2 : m < o + b.size
    · rw [List.getElem?_append_left (by simp; omega), if_pos h2, Array.getElem?_toList]
    · rw [List.getElem?_append_right (by simp; omega), if_neg h2, List.getElem?_drop, Array.getElem?_toList]
      congr 1
      simp; omega

theorem get_spliceL (a b : List PV) (o m : Nat) (hle : o + b.length ≤ a.length) : (splice a o b)[m]? = if m < o then a[m]? else if m < o + b.length then b[m - o]? else a[m]? := by
  have ho : min o a.length = o := by omega
  unfold splice
  rw [List.append_assoc]
  by_cases h1 : m < o
  · rw [List.getElem?_append_left (by simp; omega), List.getElem?_take, if_pos h1, if_pos h1]
  · rw [List.getElem?_append_right (by simp; omega), if_neg h1]
    simp only [List.length_take, ho]
    by_cases h2 : m < o + b.length
    · rw [List.getElem?_append_left (by omega), if_pos h2]
    · rw [List.getElem?_append_right (by omega), if_neg h2, List.getElem?_drop]
      congr 1
      omega

theorem isCell_cells {c : PV} (h : isCell c = true) : c.cells = [c] := by
  cases c <;> simp [isCell] at h <;> rfl
theorem updE_cells {x : PV} {off : Nat} {vs : List PV} (hle : off + vs.length ≤ x.cells.length) (hall : vs.all isCell = true) : (updE x off vs).cells = splice x.cells off vs := by
  cases x with
  | agg cs => rfl
  | _ =>
    simp only [PV.cells, List.length_singleton] at hle
    rcases vs with _ | ⟨c, _ | ⟨d, r⟩⟩
    · rcases (show off = 0 ∨ off = 1 by simp at hle; omega) with rfl | rfl <;> rfl
    · obtain rfl : off = 0 := by simp at hle; omega
      have hc : c.cells = [c] := isCell_cells (by simpa using hall)
      simpa [updE, splice, PV.cells] using hc
    · simp at hle; omega

/-- What a store comes to. -/
def SGoal {Tb : Tab} (E : Env Tb) (sem : Sem Unit) (w : World) (F : Foot) (β : Nat → Nat) (h : Hp) (K : PV → Hp → Prop) : Prop :=
  ∃ w' F' β' h', sem.run E.P w = .ok () w' ∧ K .undef h' ∧ SimH E.G w' F' β' h' ∧ Evo h.length w F β h w' F' β' h'

theorem store_sound {t : TypeId} {p v : PV} {A V : Value} {K : PV → Hp → Prop} (hk : storeK E t p v h K) (hs : SimH E.G w F β h) (hp : Rep w F β h p A) (hv : Rep w F β h v V) : SGoal E (Instr.storeAt t A V) w F β h K := by
  unfold storeK at hk
  split at hk
  · exact hk.elim
  · rename_i i hi
    cases hc : (faith v && Nat.beq v.cells.length i.size && v.cells.all isCell) with
    | false => rw [hc] at hk; exact hk.elim
    | true =>
      rw [hc] at hk
      simp only [cond_true] at hk
      simp only [Bool.and_eq_true] at hc
      obtain ⟨⟨hfa, hle⟩, hall⟩ := hc
      have hle := Nat.eq_of_beq_eq_true hle
      have hcells := faith_cells hfa hv
      have hlen := ((ReL_iff _ _).1 hcells).1
      simp only [Array.length_toList] at hlen
      have hone : ∀ u ∈ V.cells.toList, u.oneCell' = true := fun u hu => by
        obtain ⟨j, hj⟩ := List.mem_iff_getElem?.1 hu
        have hj' : j < v.cells.length := by rw [hlen, ← Array.length_toList]; exact (List.getElem?_eq_some_iff.1 hj).1
        obtain ⟨U, hU, hr⟩ := ((ReL_iff _ _).1 hcells).2 j _ (List.getElem?_eq_getElem hj')
        rw [hj] at hU; cases hU
        exact isCell_one ((List.all_eq_true.1 hall) _ (List.getElem_mem hj')) hr
      cases p <;> simp only at hk <;> try exact hk.elim
      case ptr id off =>
        split at hk
        · rename_i cs hb
          cases hb1 : (notMap cs && Nat.ble (off + i.size) cs.length) with
          | false => rw [hb1] at hk; exact hk.elim
          | true =>
            rw [hb1] at hk
            simp only [cond_true] at hk
            rw [Bool.and_eq_true] at hb1
            have hoff := Nat.le_of_ble_eq_true hb1.2
            simp only [Rep] at hp
            obtain ⟨_, _, _, hA⟩ := hp
            subst hA
            rcases hs.blk _ _ hb with ⟨hnm, arr, e, harr, hrl, hF, h1c⟩ | ⟨_, hc, hx, _⟩
            rotate_left
            · exact (hx.notMap hc hb1.1).elim
            have harrl := ((ReL_iff _ _).1 hrl).1
            simp only [Array.length_toList] at harrl
            have hnoF : ∀ j, ¬ F (β id) j := fun j hf => by simpa using hF j hf
            have hmain := write_ok (w' := w.setRow (β id) (arr.toList.take off ++ V.cells.toList ++ arr.toList.drop (off + V.cells.size)).toArray) hs hb (b' := .box (splice cs off v.cells) false) (by simp)
              (fun k hk => setRow_other w _ k _ hk) rfl rfl rfl (.inl ⟨_, _, _, _, rfl, rfl⟩) (fun j hf => absurd hf (hnoF j)) (fun hkeep hev => by
                have hnm' : notMap (splice cs off v.cells) = true := ReL_notMap (ReL_append (ReL_append (ReL_take off hrl) hcells) (ReL_drop (off + v.cells.length) hrl))
                refine .inl ⟨hnm', _, e, setRow_heap w _ arr _ e _ harr, ?_, fun j hf => absurd hf (hnoF j), fun u hu => ?_⟩
                rotate_left
                · rcases List.mem_append.1 (show u ∈ _ from hu) with h1 | h1
                  · rcases List.mem_append.1 h1 with h2 | h2
                    · exact h1c u (List.mem_of_mem_take h2)
                    · exact hone u h2
                  · exact h1c u (List.mem_of_mem_drop h1)
                refine ReL.mono hkeep hev _ _ ?_
                simp only [splice]
                have h3 := ReL_append (ReL_append (ReL_take off hrl) hcells) (ReL_drop (off + v.cells.length) hrl)
                rw [hlen] at h3 ⊢
                exact h3)
            refine ⟨_, F, β, _, ?_, hk, hmain.1, hmain.2⟩
            simp only [Instr.storeAt, Instr.sureAddr, Sem.run_bind, Sem.run_pure, Result.andThen_ok]
            exact storeVar_row hi harr (by omega) (by omega) hone
        · exact hk.elim
      case rp id n j off =>
        split at hk
        · rename_i e k pr xs fz hb
          obtain ⟨hn, hfz, x, hx, hoff, hk⟩ := hk
          cases hpr : (!pr || v.cells.all pureC) with
          | false => rw [hpr] at hk; exact hk.elim
          | true =>
            rw [hpr] at hk
            simp only [cond_true] at hk
            simp only [Rep] at hp
            obtain ⟨_, e1, k1, pr1, xs1, fz1, hb1, _, hA⟩ := hp
            rw [hb] at hb1; cases hb1
            have hA := hA hn
            subst hA
            obtain ⟨arr, harr, hk0, hsz, hrow, hF, hfl⟩ := hs.blk _ _ hb
            obtain ⟨hxk, hxc⟩ := hrow j x hx
            have hj : j < xs.length := (List.getElem?_eq_some_iff.1 hx).1
            have hjk : (j + 1) * k ≤ xs.length * k := Nat.mul_le_mul_right _ hj
            rw [Nat.succ_mul] at hjk
            have hoff' : off + V.cells.size ≤ k := by rw [← hxk, ← hlen]; exact hoff
            have hin : j * k + off + V.cells.size ≤ arr.size := by omega
            have hupd : (updE x off v.cells).cells = splice x.cells off v.cells := updE_cells hoff hall
            have hget : ∀ m, (arr.toList.take (j * k + off) ++ V.cells.toList ++ arr.toList.drop (j * k + off + V.cells.size)).toArray[m]? = if m < j * k + off then arr[m]? else if m < j * k + off + V.cells.size then V.cells[m - (j * k + off)]? else arr[m]? := fun m =>
              get_splice arr V.cells (j * k + off) m hin
            have hnewsz : (arr.toList.take (j * k + off) ++ V.cells.toList ++ arr.toList.drop (j * k + off + V.cells.size)).toArray.size = arr.size := by simpa using size_splice arr (j * k + off) V.cells.toList (by simpa using hin)
            have hmain := write_ok (w' := w.setRow (β id) (arr.toList.take (j * k + off) ++ V.cells.toList ++ arr.toList.drop (j * k + off + V.cells.size)).toArray) hs hb (b' := .row e k pr (xs.set j (updE x off v.cells)) fz) (by simp)
              (fun m hm => setRow_other w _ m _ hm) rfl rfl rfl (.inr ⟨e, k, pr, xs, fz, pr, _, fz, rfl, rfl, by simp, fun arr0 h0 => by
                rw [harr] at h0; cases h0
                exact ⟨_, setRow_heap w _ arr _ e _ harr, hnewsz⟩⟩)
              (fun m hf => by
                rw [cell_setRow_same w _ m arr _ e _ harr, cell?_cells harr, hget, if_pos]
                have h1 := hF m hf
                have h2 : fz * k ≤ j * k := Nat.mul_le_mul_right _ hfz
                omega)
              (fun hkeep hev => by
                refine ⟨_, setRow_heap w _ arr _ e _ harr, hk0, by rw [List.length_set, hnewsz]; exact hsz, fun j' y hy => ?_, hF, by rw [List.length_set]; exact hfl⟩
                by_cases hjj : j' = j
                · subst hjj
                  rw [List.getElem?_set_self hj] at hy
                  cases hy
                  refine ⟨by rw [hupd]; simp [splice]; omega, fun i' c hc => ?_⟩
                  rw [hupd] at hc
                  have hik : i' < x.cells.length := by
                    have := (List.getElem?_eq_some_iff.1 hc).1
                    simp [splice] at this; omega
                  rw [hget]
                  have hcs := get_spliceL x.cells v.cells off i' hoff
                  rw [hcs] at hc
                  by_cases h1 : i' < off
                  · rw [if_pos h1] at hc
                    obtain ⟨U, hU, ho, hr⟩ := hxc i' c hc
                    rw [if_pos (by omega)]
                    refine ⟨U, hU, ho, ?_⟩
                    cases pr with
                    | true => exact by simpa using RepP.mono hkeep _ _ (by simpa using hr)
                    | false => exact by simpa using Rep.mono hkeep hev _ _ (by simpa using hr)
                  · rw [if_neg h1] at hc
                    rw [if_neg (by omega)]
                    by_cases h2 : i' < off + v.cells.length
                    · rw [if_pos h2] at hc
                      rw [if_pos (by omega)]
                      obtain ⟨U, hU, hr⟩ := ((ReL_iff _ _).1 hcells).2 _ c hc
                      refine ⟨U, by rw [show j' * k + i' - (j' * k + off) = i' - off by omega]; simpa using hU, hone _ (List.mem_of_getElem? hU), ?_⟩
                      cases pr with
                      | true =>
                        simp only [Bool.not_true, Bool.false_or] at hpr
                        have hpc := (List.all_eq_true.1 hpr) c (List.mem_of_getElem? hc)
                        simpa using RepP.mono hkeep _ _ (pureC_rep hpc hr)
                      | false => exact by simpa using Rep.mono hkeep hev _ _ hr
                    · rw [if_neg h2] at hc
                      rw [if_neg (by omega)]
                      obtain ⟨U, hU, ho, hr⟩ := hxc i' c hc
                      refine ⟨U, hU, ho, ?_⟩
                      cases pr with
                      | true => exact by simpa using RepP.mono hkeep _ _ (by simpa using hr)
                      | false => exact by simpa using Rep.mono hkeep hev _ _ (by simpa using hr)
                · rw [List.getElem?_set_ne (Ne.symm hjj)] at hy
                  obtain ⟨hyk, hyc⟩ := hrow j' y hy
                  refine ⟨hyk, fun i' c hc => ?_⟩
                  obtain ⟨U, hU, ho, hr⟩ := hyc i' c hc
                  have hik : i' < k := by rw [← hyk]; exact (List.getElem?_eq_some_iff.1 hc).1
                  refine ⟨U, ?_, ho, ?_⟩
                  · rw [hget]
                    rcases Nat.lt_or_gt_of_ne hjj with h1 | h1
                    · have : (j' + 1) * k ≤ j * k := Nat.mul_le_mul_right _ h1
                      rw [Nat.succ_mul] at this
                      rw [if_pos (by omega)]; exact hU
                    · have : (j + 1) * k ≤ j' * k := Nat.mul_le_mul_right _ h1
                      rw [Nat.succ_mul] at this
                      rw [if_neg (by omega), if_neg (by omega)]; exact hU
                  · cases pr with
                    | true => exact by simpa using RepP.mono hkeep _ _ (by simpa using hr)
                    | false => exact by simpa using Rep.mono hkeep hev _ _ (by simpa using hr))
            refine ⟨_, F, β, _, ?_, hk, hmain.1, hmain.2⟩
            simp only [Instr.storeAt, Instr.sureAddr, Sem.run_bind, Sem.run_pure, Result.andThen_ok]
            exact storeVar_row hi harr (by omega) (by omega) hone
        · exact hk.elim
end
end Go.Px
