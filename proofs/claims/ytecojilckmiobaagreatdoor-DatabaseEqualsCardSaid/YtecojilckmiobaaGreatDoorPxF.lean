/- Shows from the row of a law to its values; no condition. -/
import Derived.Test.YtecojilckmiobaaGreatDoorPxD
import Derived.ChangeArms
import Derived.OpenShut
import Derived.DataReads
import Derived.Test.YtecojilckmiobaaGreatDoorPxB
import Derived.HandedShaped
import Derived.ChangeSame
import Derived.Carry
set_option linter.unusedVariables false
set_option linter.unusedSimpArgs false
set_option linter.unnecessarySimpa false
namespace Go.Px
open Go

/-! ### From what an argument reads as to a pure value -/
inductive Sh where
  | int (k : IntKind)
  | bool
  | str
  | sl (s : Sh)
  | agg (l : List Sh)
  | iface
  deriving Inhabited

def pk (s : Sh) (cs : List PV) : PV :=
  match s with
  | .agg _ => .agg cs
  | _ => cs.headD .undef

section
variable {H : Type}
mutual
def cellsOf : Sh → DataW H → List PV
  | .int k, .lit (.int _ n) => [.int k n]
  | .bool, .lit (.bool b) => [.bool b]
  | .str, .lit (.string l) => [.str l]
  | .sl s, .slice xs _ => [.sl (xs.map fun d => pk s (cellsOf s d))]
  | .sl _, .nil => [.sl []]
  | .agg l, .agg ds => cellsAll l ds
  | .iface, .nil => [.nili]
  | .iface, _ => [.err]
  | _, _ => [.undef]
def cellsAll : List Sh → List (DataW H) → List PV
  | s :: ss, d :: ds => cellsOf s d ++ cellsAll ss ds
  | _, _ => []
end
end

mutual
def HasC : Sh → List PV → Prop
  | .int k, ys => ∃ n, ys = [.int k n] ∧ (Lit.int k n).wf = true
  | .bool, ys => ∃ b, ys = [.bool b]
  | .str, ys => ∃ l, ys = [.str l] ∧ l.length ≤ maxLen
  | .sl s, ys => ∃ xs, ys = [.sl xs] ∧ xs.length ≤ maxLen ∧ ∀ x ∈ xs, ∃ cs, x = pk s cs ∧ HasC s cs
  | .agg l, ys => HasA l ys
  | .iface, ys => ys = [.nili] ∨ ys = [.err]
def HasA : List Sh → List PV → Prop
  | [], ys => ys = []
  | s :: ss, ys => ∃ a b, ys = a ++ b ∧ HasC s a ∧ HasA ss b
end

def shFs (f : TypeId → Option Sh) (P : Program) (tot : Nat) : Nat → List Field → Option (List Sh)
  | off, [] => bif Nat.beq off tot then some [] else none
  | off, fd :: r => bif Nat.beq fd.offset off then
      (match f fd.type with
        | some s => match shFs f P tot (off + P.cellsOf fd.type) r with
          | some l => some (s :: l)
          | none => none
        | none => none) else none
def sh1 (P : Program) (t : TypeId) (s : Sh) : Option Sh := bif Nat.beq (P.cellsOf t) 1 then some s else none
def shOf (P : Program) : Nat → TypeId → Option Sh
  | 0, _ => none
  | n + 1, t =>
    match P.underlying t with
    | some .bool => sh1 P t .bool
    | some (.int k) => sh1 P t (.int k)
    | some .string => sh1 P t .str
    | some (.interface _) => sh1 P t .iface
    | some (.slice e) => bif Nat.blt 0 (P.cellsOf e) then
        (match shOf P n e with
          | some s => sh1 P t (.sl s)
          | none => none) else none
    | some (.struct fs) =>
      match shFs (shOf P n) P (P.cellsOf t) 0 fs.toList with
      | some l => some (.agg l)
      | none => none
    | some (.array m e) => bif Nat.beq (P.cellsOf t) (m * P.cellsOf e) then
        (match shOf P n e with
          | some s => some (.agg (List.replicate m s))
          | none => none) else none
    | _ => none

theorem sh1_ok {P : Program} {t : TypeId} {s s' : Sh} (h : sh1 P t s = some s') : s' = s ∧ P.cellsOf t = 1 := by
  unfold sh1 at h
  cases hb : Nat.beq (P.cellsOf t) 1 with
  | true => rw [hb] at h; injection h with h; exact ⟨h.symm, Nat.eq_of_beq_eq_true hb⟩
  | false => rw [hb] at h; cases h

theorem RepL_append {w : World} {F : Foot} : ∀ {xs : List PV} {vs : List Value} {ys : List PV} {us : List Value}, RepL w F xs vs → RepL w F ys us → RepL w F (xs ++ ys) (vs ++ us)
  | [], _, _, _, h, g => by simp only [RepL] at h; subst h; simpa using g
  | x :: xs, _, _, _, h, g => by
    simp only [RepL] at h
    obtain ⟨v, vs', rfl, h1, h2⟩ := h
    simp only [List.cons_append, RepL]
    exact ⟨v, vs' ++ _, rfl, h1, RepL_append h2 g⟩

theorem pk_cells {s : Sh} {cs : List PV} (h : HasC s cs) : (pk s cs).cells = cs := by
  cases s with
  | agg l => rfl
  | int k => simp only [HasC] at h; obtain ⟨n, rfl, _⟩ := h; rfl
  | bool => simp only [HasC] at h; obtain ⟨n, rfl⟩ := h; rfl
  | str => simp only [HasC] at h; obtain ⟨n, rfl, _⟩ := h; rfl
  | sl s => simp only [HasC] at h; obtain ⟨n, rfl, _⟩ := h; rfl
  | iface => simp only [HasC] at h; rcases h with rfl | rfl <;> rfl

section
variable {H : Type} {enc : TypeId × Value → H} {P : Program} {w : World} {base : Nat} {sp : Nat → Bool} {held : Bool} {F : Foot}

/-- What is said of the cells of a type. -/
def Good (P : Program) (w : World) (F : Foot) (t : TypeId) (s : Sh) (cs : List Value) (d : DataW H) : Prop :=
  RepL w F (cellsOf s d) cs ∧ cs.length = P.cellsOf t ∧ (∀ U ∈ cs, U.oneCell' = true) ∧ HasC s (cellsOf s d)

theorem fs_good {f : TypeId → Option Sh} {tot m : Nat} (cs : List Value) (hlen : cs.length = tot)
    (ih : ∀ t s, f t = some s → ∀ cs x, DataW.trod enc P w base sp held m t cs = some x → Good P w F t s cs x.1) :
    ∀ (fs : List Field) (off : Nat) (l : List Sh) (xs : List (DataW H × List MemPlace)), shFs f P tot off fs = some l → xs.length = fs.length → off ≤ tot →
      (∀ (i : Nat) (fd : Field), fs[i]? = some fd → DataW.trod enc P w base sp held m fd.type ((cs.drop fd.offset).take (P.cellsOf fd.type)) = xs[i]?) →
      RepL w F (cellsAll l (xs.map (·.1))) (cs.drop off) ∧ (∀ U ∈ cs.drop off, U.oneCell' = true) ∧ HasA l (cellsAll l (xs.map (·.1)))
  | [], off, l, xs, hs, hx, ho, hall => by
    simp only [shFs] at hs
    cases hb : Nat.beq off tot with
    | false => rw [hb] at hs; cases hs
    | true =>
      rw [hb] at hs
      injection hs with hs
      subst hs
      have he := Nat.eq_of_beq_eq_true hb
      have hd : cs.drop off = [] := List.drop_eq_nil_of_le (by omega)
      rw [hd]
      simp [cellsAll, RepL, HasA]
  | fd :: r, off, l, xs, hs, hx, ho, hall => by
    simp only [shFs] at hs
    cases hb : Nat.beq fd.offset off with
    | false => rw [hb] at hs; cases hs
    | true =>
      rw [hb] at hs
      simp only [cond_true] at hs
      have he := Nat.eq_of_beq_eq_true hb
      split at hs
      · rename_i s hsf
        split at hs
        · rename_i l' hl'
          injection hs with hs
          subst hs
          cases xs with
          | nil => simp at hx
          | cons x xs =>
            have h0 := hall 0 fd rfl
            simp only [List.getElem?_cons_zero] at h0
            obtain ⟨g1, g2, g3, g4⟩ := ih _ _ hsf _ _ h0
            rw [he] at g1 g2 g3
            have hle : off + P.cellsOf fd.type ≤ tot := by
              simp only [List.length_take, List.length_drop] at g2
              omega
            obtain ⟨k1, k2, k3⟩ := fs_good cs hlen ih r (off + P.cellsOf fd.type) l' xs hl' (by simpa using hx) hle (fun i fd' hf => by simpa using hall (i + 1) fd' (by simpa using hf))
            have hsplit : cs.drop off = (cs.drop off).take (P.cellsOf fd.type) ++ cs.drop (off + P.cellsOf fd.type) := by
              rw [← List.drop_drop]; exact (List.take_append_drop _ _).symm
            refine ⟨?_, ?_, ?_⟩
            · rw [hsplit]
              simpa [cellsAll] using RepL_append g1 k1
            · rw [hsplit]
              intro U hU
              rcases List.mem_append.1 hU with h | h
              · exact g3 U h
              · exact k2 U h
            · simp only [List.map_cons, cellsAll, HasA]
              exact ⟨_, _, rfl, g4, k3⟩
        · cases hs
      · cases hs

theorem arr_good {s : Sh} {e : TypeId} {m : Nat} (cs : List Value)
    (ih : ∀ cs x, DataW.trod enc P w base sp held m e cs = some x → Good P w F e s cs x.1) :
    ∀ (n i0 : Nat) (xs : List (DataW H × List MemPlace)), xs.length = n → cs.length = (i0 + n) * P.cellsOf e →
      (∀ i, i < n → DataW.trod enc P w base sp held m e ((cs.drop ((i0 + i) * P.cellsOf e)).take (P.cellsOf e)) = xs[i]?) →
      RepL w F (cellsAll (List.replicate n s) (xs.map (·.1))) (cs.drop (i0 * P.cellsOf e)) ∧ (∀ U ∈ cs.drop (i0 * P.cellsOf e), U.oneCell' = true) ∧ HasA (List.replicate n s) (cellsAll (List.replicate n s) (xs.map (·.1)))
  | 0, i0, xs, hx, hl, hall => by
    have hd : cs.drop (i0 * P.cellsOf e) = [] := List.drop_eq_nil_of_le (by rw [hl]; simp)
    rw [hd]
    simp [cellsAll, RepL, HasA]
  | n + 1, i0, xs, hx, hl, hall => by
    cases xs with
    | nil => simp at hx
    | cons x xs =>
      have h0 := hall 0 (by omega)
      simp only [List.getElem?_cons_zero, Nat.add_zero] at h0
      obtain ⟨g1, g2, g3, g4⟩ := ih _ _ h0
      obtain ⟨k1, k2, k3⟩ := arr_good cs ih n (i0 + 1) xs (by simpa using hx) (by rw [hl]; congr 1; omega) (fun i hi => by simpa [Nat.add_assoc, Nat.add_comm 1 i] using hall (i + 1) (by omega))
      have hsplit : cs.drop (i0 * P.cellsOf e) = (cs.drop (i0 * P.cellsOf e)).take (P.cellsOf e) ++ cs.drop ((i0 + 1) * P.cellsOf e) := by
        rw [Nat.succ_mul, ← List.drop_drop]; exact (List.take_append_drop _ _).symm
      refine ⟨?_, ?_, ?_⟩
      · rw [hsplit]
        simpa [cellsAll, List.replicate_succ] using RepL_append g1 k1
      · rw [hsplit]
        intro U hU
        rcases List.mem_append.1 hU with h | h
        · exact g3 U h
        · exact k2 U h
      · simp only [List.map_cons, List.replicate_succ, cellsAll, HasA]
        exact ⟨_, _, rfl, g4, k3⟩

theorem cells?_at {a : Addr} {n : Nat} {cs : List Value} (h : w.cells? base a n = some cs) : cs.length = n ∧ ∀ i, i < n → w.cell? (a.add i) = cs[i]? := by
  unfold World.cells? at h
  split at h
  · refine ⟨by simpa using mapM_some_length h, fun i hi => mapM_some_get h i i (by simp [hi])⟩
  · cases h

theorem trod_iface {m : Nat} {t : TypeId} {ms : Array (String × TypeId)} {cs : List Value} {x : DataW H × List MemPlace} (ht : P.underlying t = some (.interface ms)) (h : DataW.trod enc P w base sp held m t cs = some x) :
    (cs = [.nilIface] ∧ x.1 = .nil) ∨ ∃ u v, cs = [.iface u v] ∧ ((∃ e, x.1 = .held e) ∨ ∃ n d, x.1 = .iface n d) := by
  cases m with
  | zero => simp [DataW.trod] at h
  | succ m =>
    rcases cs with _ | ⟨v, _ | ⟨v2, r⟩⟩
    · simp [DataW.trod, ht] at h
    · cases v <;> simp only [DataW.trod, ht] at h <;> try (cases h; done)
      · right
        split at h
        · injection h with h; exact ⟨_, _, rfl, .inl ⟨_, by rw [← h]⟩⟩
        · rw [Option.map_eq_some_iff] at h
          obtain ⟨y, _, rfl⟩ := h
          exact ⟨_, _, rfl, .inr ⟨_, _, rfl⟩⟩
        · cases h
      · left; injection h with h; exact ⟨rfl, by rw [← h]⟩
    · simp [DataW.trod, ht] at h

theorem rep_of (hF : ∀ b i v, w.cell? ⟨b, i, none⟩ = some v → F b i) : ∀ (n : Nat) (t : TypeId) (s : Sh), shOf P n t = some s → ∀ (m : Nat) (cs : List Value) (x : DataW H × List MemPlace),
    DataW.trod enc P w base sp held m t cs = some x → Good P w F t s cs x.1
  | 0, t, s, hs, m, cs, x, h => by cases hs
  | n + 1, t, s, hs, m, cs, x, h => by
    unfold shOf at hs
    split at hs
    · rename_i ht
      obtain ⟨rfl, h1⟩ := sh1_ok hs
      obtain ⟨b, rfl, rfl⟩ := DataW.trod_bool ht h
      exact ⟨by simp [cellsOf, RepL, RepP], h1.symm, by simp [Value.oneCell'], by simp [cellsOf, HasC]⟩
    · rename_i k ht
      obtain ⟨rfl, h1⟩ := sh1_ok hs
      obtain ⟨b, rfl, rfl, hw⟩ := DataW.trod_int ht h
      exact ⟨by simp [cellsOf, RepL, RepP], h1.symm, by simp [Value.oneCell'], by simp only [cellsOf, HasC]; exact ⟨b, rfl, hw⟩⟩
    · rename_i ht
      obtain ⟨rfl, h1⟩ := sh1_ok hs
      obtain ⟨b, rfl, rfl, hw⟩ := DataW.trod_string ht h
      refine ⟨?_, h1.symm, by simp [Value.oneCell'], ?_⟩
      · simp only [cellsOf, RepL, RepP]
        exact ⟨_, [], rfl, by simp, rfl⟩
      · simp only [cellsOf, HasC]
        exact ⟨_, rfl, by simpa using hw⟩
    · rename_i ms ht
      obtain ⟨rfl, h1⟩ := sh1_ok hs
      rcases trod_iface ht h with ⟨rfl, hx⟩ | ⟨u, v, rfl, hx⟩
      · rw [Good, hx]
        exact ⟨by simp [cellsOf, RepL, RepP], h1.symm, by simp [Value.oneCell'], by simp [cellsOf, HasC]⟩
      · have hc : cellsOf .iface x.1 = [.err] := by rcases hx with ⟨e, he⟩ | ⟨n, d, he⟩ <;> rw [he] <;> simp [cellsOf]
        rw [Good, hc]
        refine ⟨?_, h1.symm, by simp [Value.oneCell'], by simp [HasC]⟩
        simp only [RepL, RepP]
        exact ⟨_, [], rfl, ⟨_, _, rfl⟩, rfl⟩
    · rename_i e ht
      cases hb : Nat.blt 0 (P.cellsOf e) with
      | false => rw [hb] at hs; cases hs
      | true =>
        rw [hb] at hs
        simp only [cond_true] at hs
        split at hs
        · rename_i s' hs'
          obtain ⟨rfl, h1⟩ := sh1_ok hs
          have hk : 0 < P.cellsOf e := Nat.le_of_ble_eq_true hb
          rcases DataW.trod_slice ht h with ⟨rfl, rfl⟩ | ⟨a, len, cap, elems, rest, m', rfl, rfl, rfl, _, hlc, hcm, hle, hel, _⟩
          · refine ⟨?_, h1.symm, by simp [Value.oneCell'], ?_⟩
            · simp only [cellsOf, RepL, RepP]
              exact ⟨_, [], rfl, ⟨none, 0, rfl, Nat.le_refl _, .inl trivial⟩, rfl⟩
            · simp only [cellsOf, HasC]
              exact ⟨[], rfl, by simp, by simp⟩
          · have hat : ∀ i (hi : i < len), ∃ cs', ∃ y, elems[i]? = some y ∧ w.cells? base (a.add (i * P.cellsOf e)) (P.cellsOf e) = some cs' ∧ Good P w F e s' cs' y.1 := fun i hi => by
              have hE := hel i hi
              have hy : elems[i]? = some (elems[i]'(by omega)) := List.getElem?_eq_getElem _
              rw [hy, Option.bind_eq_some_iff] at hE
              obtain ⟨cs', hc', hd'⟩ := hE
              exact ⟨cs', _, hy, hc', rep_of hF n e s' hs' m' cs' _ hd'⟩
            refine ⟨?_, h1.symm, by simp [Value.oneCell'], ?_⟩
            · simp only [cellsOf, RepL, RepP]
              refine ⟨_, [], rfl, ⟨some a, cap, by simp [hle], by simp [hle, hlc], ?_⟩, rfl⟩
              cases hx : elems with
              | nil => exact .inl rfl
              | cons y0 ys =>
                right
                have hsp : a.spot = none := by
                  obtain ⟨cs', y, hy, hc', hg⟩ := hat 0 (by rw [← hle, hx]; simp)
                  obtain ⟨hl', hcc⟩ := cells?_at hc'
                  have h0 := hcc 0 hk
                  simp only [Nat.zero_mul] at h0
                  have e0 : (a.add 0).add 0 = a := by simp [Addr.add]
                  rw [e0, List.getElem?_eq_getElem (by omega)] at h0
                  exact World.cell?_spot h0
                obtain ⟨b, off, spt⟩ := a
                simp only at hsp
                subst hsp
                refine ⟨b, off, P.cellsOf e, hk, rfl, ?_⟩
                rw [← hx, RepRow_iff]
                intro j x hxj
                simp only [List.map_map, List.getElem?_map, Option.map_eq_some_iff, Function.comp] at hxj
                obtain ⟨y, hy, rfl⟩ := hxj
                have hj : j < len := by rw [← hle]; exact (List.getElem?_eq_some_iff.1 hy).1
                obtain ⟨cs', y', hy', hc', g1, g2, g3, g4⟩ := hat j hj
                rw [hy] at hy'
                injection hy' with hy'
                subst hy'
                obtain ⟨hl', hcc⟩ := cells?_at hc'
                rw [pk_cells g4]
                rw [RepL_iff] at g1
                refine ⟨g1.1.trans g2, fun i c hc => ?_⟩
                obtain ⟨v, hv, hr⟩ := g1.2 i c hc
                have hi : i < P.cellsOf e := by rw [← hl']; exact (List.getElem?_eq_some_iff.1 hv).1
                have hcell := hcc i hi
                have hadd : ((⟨b, off, none⟩ : Addr).add (j * P.cellsOf e)).add i = ⟨b, off + j * P.cellsOf e + i, none⟩ := by
                  unfold Addr.add
                  split <;> split <;> simp_all
                rw [hadd, hv] at hcell
                exact ⟨hF _ _ _ hcell, v, hcell, g3 v (List.mem_of_getElem? hv), hr⟩
            · simp only [cellsOf, HasC]
              refine ⟨_, rfl, by simp only [List.length_map]; omega, fun x hx => ?_⟩
              simp only [List.map_map, List.mem_map, Function.comp] at hx
              obtain ⟨y, hy, rfl⟩ := hx
              obtain ⟨j, hj⟩ := List.mem_iff_getElem?.1 hy
              obtain ⟨cs', y', hy', hc', g1, g2, g3, g4⟩ := hat j (by rw [← hle]; exact (List.getElem?_eq_some_iff.1 hj).1)
              rw [hj] at hy'
              injection hy' with hy'
              subst hy'
              exact ⟨_, rfl, g4⟩
        · cases hs
    · rename_i fs ht
      split at hs
      · rename_i l hl
        injection hs with hs
        subst hs
        obtain ⟨xs, m', rfl, rfl, hc, hn, hall⟩ := DataW.trod_struct ht h
        obtain ⟨g1, g2, g3⟩ := fs_good (F := F) cs hc (fun t s hts cs x hx => rep_of hF n t s hts m' cs x hx) fs.toList 0 l xs hl (by simpa using hn) (Nat.zero_le _) (fun i fd hf => hall i fd (by simpa using hf))
        exact ⟨by simpa [cellsOf] using g1, hc, by simpa using g2, by simpa [cellsOf, HasC] using g3⟩
      · cases hs
    · rename_i k e ht
      cases hb : Nat.beq (P.cellsOf t) (k * P.cellsOf e) with
      | false => rw [hb] at hs; cases hs
      | true =>
        rw [hb] at hs
        simp only [cond_true] at hs
        split at hs
        · rename_i s' hs'
          injection hs with hs
          subst hs
          obtain ⟨xs, m', rfl, rfl, hc, hn, hall⟩ := DataW.trod_array ht h
          have he := Nat.eq_of_beq_eq_true hb
          obtain ⟨g1, g2, g3⟩ := arr_good (F := F) cs (fun cs x hx => rep_of hF n e s' hs' m' cs x hx) k 0 xs hn (by rw [hc, he]; simp) (fun i hi => by simpa using hall i hi)
          exact ⟨by simpa [cellsOf] using g1, hc, by simpa using g2, by simpa [cellsOf, HasC] using g3⟩
        · cases hs
    · cases hs
end
end Go.Px

set_option linter.unusedVariables false
set_option linter.unusedSimpArgs false
set_option linter.unnecessarySimpa false
namespace Go.Px
open Go Go.ChangeShapes Go.WideShapes Go.RowKit

/-! ### From a contract of pure values to a law's row -/
def HasArgs : List Sh → List PV → Prop
  | [], vs => vs = []
  | s :: ss, vs => ∃ cs r, vs = pk s cs :: r ∧ HasC s cs ∧ HasArgs ss r

theorem shOf_agg {P : Program} {n : Nat} {t : TypeId} {l : List Sh} (h : shOf P n t = some (.agg l)) : (∃ fs, P.underlying t = some (.struct fs)) ∨ ∃ k e, P.underlying t = some (.array k e) := by
  cases n with
  | zero => cases h
  | succ n =>
    unfold shOf at h
    split at h
    · exact absurd (sh1_ok h).1 (by simp)
    · exact absurd (sh1_ok h).1 (by simp)
    · exact absurd (sh1_ok h).1 (by simp)
    · exact absurd (sh1_ok h).1 (by simp)
    · rename_i e _
      cases hb : Nat.blt 0 (P.cellsOf e) with
      | false => rw [hb] at h; cases h
      | true =>
        rw [hb] at h
        simp only [cond_true] at h
        split at h
        · exact absurd (sh1_ok h).1 (by simp)
        · cases h
    · exact .inl ⟨_, by assumption⟩
    · exact .inr ⟨_, _, by assumption⟩
    · cases h
theorem shOf_cell {P : Program} {n : Nat} {t : TypeId} {s : Sh} (h : shOf P n t = some s) (hs : ∀ l, s ≠ .agg l) : ∀ {w r base v}, Value.okWide P w r base t v → v.cells = #[v] := by
  intro w r base v hv
  have key : ∀ u, P.underlying t = some u → (∀ fs, u ≠ .struct fs) → (∀ k e, u ≠ .array k e) → v.cells = #[v] := by
    intro u hu h1 h2
    unfold Value.okWide at hv
    rw [hu] at hv
    split at hv
    · rename_i fs he; injection he with he; exact absurd he (h1 _)
    · rename_i k e he; injection he with he; exact absurd he (h2 _ _)
    · cases v with
      | agg cs =>
        exfalso
        unfold Cell.okWide Cell.ok at hv
        rw [hu] at hv
        revert hv
        cases u <;> simp
      | _ => rfl
  cases n with
  | zero => cases h
  | succ n =>
    unfold shOf at h
    split at h
    · exact key _ (by assumption) (by simp) (by simp)
    · exact key _ (by assumption) (by simp) (by simp)
    · exact key _ (by assumption) (by simp) (by simp)
    · exact key _ (by assumption) (by simp) (by simp)
    · exact key _ (by assumption) (by simp) (by simp)
    · split at h
      · injection h with h; exact absurd h.symm (hs _)
      · cases h
    · rename_i k e _
      cases hb : Nat.beq (P.cellsOf t) (k * P.cellsOf e) with
      | false => rw [hb] at h; cases h
      | true =>
        rw [hb] at h
        simp only [cond_true] at h
        split at h
        · injection h with h; exact absurd h.symm (hs _)
        · cases h
    · cases h

section
variable {H : Type} {enc : TypeId × Value → H} {P : Program} {W : World} {sp : Nat → Bool} {held : Bool}

theorem rep_arg {n : Nat} {t : TypeId} {s : Sh} {v : Value} {d : DataW H} {p : List MemPlace} {base : Nat} (hs : shOf P n t = some s) (h : DataW.Trod enc P W 0 sp held t v d p) (hv : Value.okWide P W .any base t v) :
    RepP W (fun b _ => b < W.heap.size) (pk s (cellsOf s d)) v ∧ HasC s (cellsOf s d) := by
  obtain ⟨m, hm⟩ := h
  obtain ⟨g1, g2, g3, g4⟩ := rep_of (F := fun b _ => b < W.heap.size) (fun b i v hc => by
    simp only [World.cell?] at hc
    split at hc
    · rename_i he
      exact (Array.getElem?_eq_some_iff.1 he).1
    · cases hc) n t s hs m _ _ hm
  refine ⟨?_, g4⟩
  by_cases ha : ∃ l, s = .agg l
  · obtain ⟨l, rfl⟩ := ha
    have hag : ∃ cs, v = .agg cs := by
      unfold Value.okWide at hv
      rcases shOf_agg hs with ⟨fs, hu⟩ | ⟨k, e, hu⟩ <;> rw [hu] at hv <;> obtain ⟨cs, hcs, _⟩ := hv <;> exact ⟨cs, hcs⟩
    obtain ⟨cs, rfl⟩ := hag
    simp only [pk, RepP]
    exact ⟨cs, rfl, g1⟩
  · have hc := shOf_cell hs (fun l e => ha ⟨l, e⟩) hv
    rw [hc] at g1
    simp only at g1
    have hone : ∃ x, cellsOf s d = [x] := by
      have := ((RepL_iff _ _).1 g1).1
      exact List.length_eq_one_iff.1 (by simpa using this)
    obtain ⟨x, hx⟩ := hone
    rw [hx] at g1 ⊢
    simp only [RepL] at g1
    obtain ⟨u, vs, h1, h2, h3⟩ := g1
    injection h1 with h1
    have hp : pk s [x] = x := by
      cases s with
      | agg l => exact absurd ⟨l, rfl⟩ ha
      | _ => rfl
    rw [hp, h1]
    exact h2

theorem rep_args {n : Nat} : ∀ (ts : List TypeId) (shs : List Sh) (vs : List Value) (ds : List (DataW H)) (p : List MemPlace), ts.map (shOf P n) = shs.map some →
    DataW.TrodAll enc P W 0 sp held ts vs ds p → (∀ (j : Nat) t v, ts[j]? = some t → vs[j]? = some v → ∃ base, Value.okWide P W .any base t v) →
    ∃ pvs, HasArgs shs pvs ∧ RepL W (fun b _ => b < W.heap.size) pvs vs
  | [], shs, vs, ds, p, hm, h, hv => by
    cases shs with
    | nil =>
      obtain ⟨rfl, rfl, rfl⟩ := trodAll_nil h
      exact ⟨[], by simp [HasArgs], by simp [RepL]⟩
    | cons s ss => simp at hm
  | t :: ts, shs, vs, ds, p, hm, h, hv => by
    cases shs with
    | nil => simp at hm
    | cons s ss =>
      simp only [List.map_cons, List.cons.injEq] at hm
      obtain ⟨v, vs1, d, ds1, a, b, rfl, rfl, rfl, h1, h2⟩ := trodAll_cons h
      obtain ⟨base, hb⟩ := hv 0 t v rfl rfl
      obtain ⟨g1, g2⟩ := rep_arg hm.1 h1 hb
      obtain ⟨pvs, k1, k2⟩ := rep_args ts ss vs1 ds1 b hm.2 h2 (fun j t v ht hv' => hv (j + 1) t v (by simpa using ht) (by simpa using hv'))
      refine ⟨pk s (cellsOf s d) :: pvs, ?_, ?_⟩
      · simp only [HasArgs]
        exact ⟨_, _, rfl, g2, k1⟩
      · simp only [RepL]
        exact ⟨v, vs1, rfl, g1, k2⟩

theorem stay_args {W' : World} (hl : laidOutB P = true) (hb : Below W.heap.size W W') : ∀ (ts : List TypeId) (vs : List Value) (ds : List (DataW H)) (p : List MemPlace),
    (ts.all fun t => P.readableRec t && Nat.blt t P.types.size) = true → DataW.TrodAll enc P W 0 (fun _ => true) true ts vs ds p → (∀ x ∈ p, x.block < W.heap.size) →
    DataW.TrodAll enc P W' 0 (fun b => decide (b < W.heap.size)) true ts vs ds p
  | [], vs, ds, p, _, h, _ => by
    obtain ⟨rfl, rfl, rfl⟩ := trodAll_nil h
    rfl
  | t :: ts, vs, ds, p, hr, h, hlt => by
    obtain ⟨v, vs1, d, ds1, a, b, rfl, rfl, rfl, h1, h2⟩ := trodAll_cons h
    simp only [List.all_cons, Bool.and_eq_true] at hr
    exact ⟨a, b, Below.trod hl hr.1.1 (Nat.le_of_ble_eq_true hr.1.2) h1 hb (fun x hx => hlt x (by simp [hx])), stay_args hl hb ts vs1 ds1 b hr.2 h2 (fun x hx => hlt x (by simp [hx])), rfl⟩

theorem keptBut_of_below {W W' : World} {may : MemPlace → Prop} (hb : Below W.heap.size W W') : W.keptBut W' may := by
  refine ⟨hb.os, hb.output, fun i hi => ?_⟩
  rw [hb.block i hi]
  cases W.heap[i]? with
  | none => rfl
  | some o => cases o <;> simp
end

/-- A law whose walk is a contract of pure values. -/
theorem law_calls {Tb : Tab} (E : Env Tb) {H : Type} {enc : TypeId × Value → H} {s : ChangeSpec} {f : FuncId} {fn : Func} {apart : Bool} (hlaid : laidOutB E.P = true) (shs : List Sh) (hsh : fn.params.toList.map (shOf E.P 9) = shs.map some)
    (hread : (fn.params.toList.all fun t => E.P.readableRec t && Nat.blt t E.P.types.size) = true) (tb : TypeId) (hres : fn.resultTypes = #[tb]) (htb : E.P.underlying tb = some .bool) (hvars : s.vars = [])
    (hspec : ∀ (ds : List (DataW H)), ds.length = fn.params.toList.length → s.fn H ds = ⟨[.lit (.bool true)], ds, []⟩) (law : ∀ vs, HasArgs shs vs → AF E f vs (.bool true))
    (W : World) (base : Nat) (args : Array Value) (ds gs : List (DataW H)) (before : List MemPlace) (hGI : E.GI W)
    (hval : ∀ (j : Nat) t v, fn.params[j]? = some t → args[j]? = some v → Value.okWide E.P W .any base t v)
    (hW : DataW.Whole enc E.P fn.params.toList s.vars apart W args.toList ds gs before) :
    Calls E.P f args W fun e W' => ∃ v, e = .returned v ∧ s.post enc E.P fn apart true false false W args v W' := by
  have hlt : ∀ p ∈ before, p.block < W.heap.size := fun p hp => by simpa using hW.lt p hp
  have hW' := hW
  obtain ⟨p, q, hA, hV, rfl, hfz, hnd⟩ := hW
  rw [hvars] at hV
  obtain ⟨rfl, rfl⟩ := trodVars_none hV
  obtain ⟨pvs, g1, g2⟩ := rep_args _ _ _ _ _ hsh hA (fun j t v ht hv => ⟨base, hval j t v (by simpa using ht) (by simpa using hv)⟩)
  have hsim : SimH E.G W (fun b _ => b < W.heap.size) (fun _ => 0) [] := ⟨fun id b hb => by simp [getB] at hb, fun i j bi bj hi => by simp [getB] at hi, fun b i hb => hb, fun id b hb => by simp [getB] at hb, fun b i hb => Nat.lt_of_lt_of_le hb (E.gsz hGI)⟩
  refine (law pvs g1 W (fun b _ => b < W.heap.size) (fun _ => 0) args.toList hGI hsim (g2.toReL _ _)).mono fun e W' ⟨V, v, F', β', h', he, ⟨hv, _⟩, hrep, hsim', hev⟩ => ?_
  subst hv
  have hno : ∀ b, ¬ Own (fun _ => 0) ([] : Hp) b := fun b ⟨id, blk, hb, _⟩ => by simp [getB] at hb
  have hbel : Below W.heap.size W W' := ⟨hev.os, hev.tape, hev.output, hev.size, fun k hk => hev.keep k hk (hno k)⟩
  have hVb : V = .bool true := by simpa [Rep, RepP] using hrep
  subst hVb
  refine ⟨_, he, ?_⟩
  have hlen : ds.length = fn.params.toList.length := by
    have : ∀ (ts : List TypeId) (vs : List Value) (ds : List (DataW H)) (p : List MemPlace), DataW.TrodAll enc E.P W 0 (fun _ => true) true ts vs ds p → ds.length = ts.length := by
      intro ts
      induction ts with
      | nil => intro vs ds p h; obtain ⟨rfl, rfl, rfl⟩ := trodAll_nil h; rfl
      | cons t ts ih => intro vs ds p h; obtain ⟨v, vs1, d, ds1, a, b, rfl, rfl, rfl, h1, h2⟩ := trodAll_cons h; simp [ih _ _ _ h2]
    exact this _ _ _ _ hA
  refine ⟨ds, [], p ++ [], [], p, [], hW', ?_, ?_, ?_, keptBut_of_below hbel, fun h => by cases h⟩
  · rw [List.append_nil, hspec ds hlen, hres]
    exact trodAll_mk1 (shut_bool htb true)
  · rw [List.append_nil, hspec ds hlen]
    exact stay_args hlaid hbel _ _ _ _ hread hA (fun x hx => hlt x (by simp [hx]))
  · rw [List.append_nil, hspec ds hlen, hvars]
    rfl

/-- The wrap of a row that lists variables, the world's shape kept. -/
theorem returnsInHanded_laid_shaped {H : Type} {enc : TypeId × Value → H} {a : Assume} {C : Checked} {os : Os} {f : FuncId} {fn : Func} {s : ChangeSpec} {conds : List PathCond} {apart fresh handsOn again : Bool} {X : World → Array Value → Prop}
    (hX : ∀ (w w' : World) (args : Array Value), w.heap = w'.heap → X w args → X w' args)
    (own : ownKnob C.prog.godebug = none) (started : os.Started) (noInit : C.prog.inits.idxOf? f = none) (hfn : C.prog.funcs[f]? = some fn)
    (witness : ∃ (w : World) (tape : Tape) (i : Input), w.os = os ∧ (w.forCall tape i).Shaped C.prog ∧ i.vars = [] ∧ Input.okWide C.prog (w.forCall tape i) .any w.heap.size f i ∧
      ((s.pre enc C.prog fn conds apart (w.forCall tape i).memory i.args ∧ X (w.forCall tape i).memory i.args) ∧ sizedMet enc C.prog fn (OpenSpec.ofChange s) apart (w.forCall tape i).memory i.args) ∧ a.holds C.prog (lone (Frame.enter C.prog f i.args .normal) [] (w.forCall tape i)))
    (contract : ∀ (W : World) (base : Nat) (args : Array Value) (ds gs : List (DataW H)) (before : List MemPlace),
      (∀ (j : Nat) t v, fn.params[j]? = some t → args[j]? = some v → Value.okWide C.prog W .any base t v) →
      DataW.Whole enc C.prog fn.params.toList s.vars apart W args.toList ds gs before → W.ShapedOpen C.prog → X W args →
      Calls C.prog f args W fun e W' => ∃ v, e = .returned v ∧ s.post enc C.prog fn apart fresh handsOn again W args v W') :
    ReturnsInHanded a C os f .any (fun w args => (s.pre enc C.prog fn conds apart w args ∧ X w args) ∧ sizedMet enc C.prog fn (OpenSpec.ofChange s) apart w args) (s.post enc C.prog fn apart fresh handsOn again) := by
  refine returnsInHanded_of_calls own started noInit witness ?_
  intro w tape i _ hsh _ hok hpre hholds
  obtain ⟨_, _, _, fn', hfn', _, _, _, _, hval⟩ := hok
  have e : fn' = fn := Option.some.inj (hfn'.symm.trans hfn)
  subst e
  obtain ⟨⟨⟨ds, gs, before, hw, hc⟩, hx⟩, hz⟩ := hpre
  have hw' := DataW.Whole.of_heap (w' := w.forCall tape i) (by rfl) hw
  refine (contract (w.forCall tape i) w.heap.size i.args ds gs before hval hw' hsh (hX _ _ _ (by rfl) hx)).mono fun e W' ⟨v, he, hp⟩ => ?_
  subst he
  exact ChangeSpec.post_blind hp
end Go.Px
