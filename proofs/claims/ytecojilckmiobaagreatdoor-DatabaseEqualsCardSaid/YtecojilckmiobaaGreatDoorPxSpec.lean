/- Shows a part of the walk of the law; its conditions stand ahead of each theorem. -/
import Derived.Test.YtecojilckmiobaaGreatDoorPxE
import Derived.Test.YtecojilckmiobaaGreatDoorPxF
set_option linter.unusedVariables false
set_option linter.unusedSimpArgs false
set_option linter.unnecessarySimpa false
namespace Go.Px
open Go

/-! ### What the cells of lists are -/
def InI (n : Int) : Prop := -9223372036854775808 ≤ n ∧ n < 9223372036854775808
def Strs (xs : List PV) : Prop := ∀ x ∈ xs, ∃ s : List UInt8, x = .str s ∧ s.length ≤ 9223372036854775807
def Ints (xs : List PV) : Prop := ∀ x ∈ xs, ∃ n, x = .int .i64 n ∧ InI n
def Rngs (xs : List PV) : Prop := ∀ x ∈ xs, ∃ a b, x = .agg [.int .i64 a, .int .i64 b] ∧ InI a ∧ InI b
def Spans (xs : List PV) : Prop := ∀ x ∈ xs, ∃ a b c, x = .agg [.int .i64 a, .int .i64 b, .int .i64 c] ∧ InI a ∧ InI b ∧ InI c
def Len (xs : List PV) : Prop := xs.length ≤ 9223372036854775807
def MapE (x : PV) : Prop := ∃ f t g, x = .agg [.int .i64 f, .sl t, .str g] ∧ InI f ∧ Ints t ∧ Len t ∧ g.length ≤ 9223372036854775807
def Mps (xs : List PV) : Prop := ∀ x ∈ xs, MapE x
def MSmall (x : PV) : Prop := ∃ f t g, x = .agg [.int .i64 f, .sl t, .str g] ∧ t.length ≤ 65 ∧ g.length ≤ 40

/-! ### Steps of a walk -/
theorem ex_if {P : Prop} {G : Bool → Prop} (h1 : P → G true) (h2 : ¬P → G false) : ∃ t : Bool, (t = true ↔ P) ∧ G t := by
  by_cases hp : P
  · exact ⟨true, by simp [hp], h1 hp⟩
  · exact ⟨false, by simp [hp], h2 hp⟩
theorem ex_strne {α : Type} {a b : α} {G : Bool → Prop} (h1 : a ≠ b → G true) (h2 : a = b → G false) : ∃ t : Bool, (t = true ↔ a ≠ b) ∧ G t := by
  by_cases hp : a = b
  · exact ⟨false, by simp [hp], h2 hp⟩
  · exact ⟨true, by simp [hp], h1 hp⟩
theorem ex_bool {x : Bool} {G : Bool → Prop} (h : G x) : ∃ t : Bool, x = t ∧ G t := ⟨x, rfl, h⟩
theorem go_tt {A B : Prop} (h : A) : (true = true → A) ∧ (true = false → B) := ⟨fun _ => h, fun e => (nomatch e)⟩
theorem go_ff {A B : Prop} (h : B) : (false = true → A) ∧ (false = false → B) := ⟨fun e => (nomatch e), fun _ => h⟩
theorem go_tf {A B : Prop} (h : B) : (true = false → A) ∧ (true = true → B) := ⟨fun e => (nomatch e), fun _ => h⟩
theorem go_ft {A B : Prop} (h : A) : (false = false → A) ∧ (false = true → B) := ⟨fun _ => h, fun e => (nomatch e)⟩
theorem ex_len {xs : List PV} {n : Int} {G : Int → Prop} (hn : (xs.length : Int) = n) (h : G n) : ∃ m : Int, (xs.length : Int) = m ∧ G m := ⟨n, hn, h⟩
theorem ex_slen {xs : List UInt8} {n : Int} {G : Int → Prop} (hn : (xs.length : Int) = n) (h : G n) : ∃ m : Int, (xs.length : Int) = m ∧ G m := ⟨n, hn, h⟩
theorem ex_lenv {xs : List PV} {G : Int → Prop} (h : ∀ m : Int, (xs.length : Int) = m → 0 ≤ m → G m) : ∃ m : Int, (xs.length : Int) = m ∧ G m := ⟨_, rfl, h _ rfl (by omega)⟩
theorem ex_slenv {xs : List UInt8} {G : Int → Prop} (h : ∀ m : Int, (xs.length : Int) = m → 0 ≤ m → G m) : ∃ m : Int, (xs.length : Int) = m ∧ G m := ⟨_, rfl, h _ rfl (by omega)⟩
theorem ex_wrap {z : Int} {G : Int → Prop} (hz : -9223372036854775808 ≤ z ∧ z < 9223372036854775808) (h : ∀ x, x = z → G x) : ∃ x, IntKind.i64.wrap z = x ∧ G x := ⟨_, rfl, h _ (wrap64 hz)⟩
theorem ob_go {P B : Prop} (h : P) (k : B) : Ob (fun _ => P) ∧ B := ⟨⟨h⟩, k⟩
theorem lenI_of {α : Type} (xs : List α) : ∃ n : Int, (xs.length : Int) = n ∧ 0 ≤ n := ⟨_, rfl, by omega⟩
theorem mem_of_at {α : Type} {xs : List α} {i : Nat} {x : α} (h : xs[i]? = some x) : x ∈ xs := List.mem_of_getElem? h
theorem at_of {xs : List PV} {i n : Int} (hn : (xs.length : Int) = n) (h0 : 0 ≤ i) (hi : i < n) : ∃ x, xs[i.toNat]? = some x ∧ x ∈ xs := by
  have h := List.getElem?_eq_getElem (l := xs) (i := i.toNat) (by omega)
  exact ⟨_, h, mem_of_at h⟩
section
variable {xs : List PV} {i n : Int} {G : PV → Prop}
theorem ix_span (hx : Spans xs) (hn : (xs.length : Int) = n) (h0 : 0 ≤ i) (hi : i < n) (h : ∀ a b c, xs[i.toNat]? = some (.agg [.int .i64 a, .int .i64 b, .int .i64 c]) → G (.agg [.int .i64 a, .int .i64 b, .int .i64 c])) :
    ∃ y, xs[i.toNat]? = some y ∧ Ob (fun _ => 0 ≤ i) ∧ Ob (fun _ => y.cells.length = 3) ∧ G y := by
  obtain ⟨x, h1, h2⟩ := at_of hn h0 hi
  obtain ⟨a, b, c, rfl, _⟩ := hx x h2
  exact ⟨_, h1, ⟨h0⟩, ⟨rfl⟩, h a b c h1⟩
theorem ix_rng (hx : Rngs xs) (hn : (xs.length : Int) = n) (h0 : 0 ≤ i) (hi : i < n) (h : ∀ a b, xs[i.toNat]? = some (.agg [.int .i64 a, .int .i64 b]) → G (.agg [.int .i64 a, .int .i64 b])) :
    ∃ y, xs[i.toNat]? = some y ∧ Ob (fun _ => 0 ≤ i) ∧ Ob (fun _ => y.cells.length = 2) ∧ G y := by
  obtain ⟨x, h1, h2⟩ := at_of hn h0 hi
  obtain ⟨a, b, rfl, _⟩ := hx x h2
  exact ⟨_, h1, ⟨h0⟩, ⟨rfl⟩, h a b h1⟩
theorem ix_map (hx : Mps xs) (hn : (xs.length : Int) = n) (h0 : 0 ≤ i) (hi : i < n) (h : ∀ f t g, xs[i.toNat]? = some (.agg [.int .i64 f, .sl t, .str g]) → Ints t → Len t → g.length ≤ 9223372036854775807 → G (.agg [.int .i64 f, .sl t, .str g])) :
    ∃ y, xs[i.toNat]? = some y ∧ Ob (fun _ => 0 ≤ i) ∧ Ob (fun _ => y.cells.length = 3) ∧ G y := by
  obtain ⟨x, h1, h2⟩ := at_of hn h0 hi
  obtain ⟨f, t, g, rfl, _, ht, hl, hg⟩ := hx x h2
  exact ⟨_, h1, ⟨h0⟩, ⟨rfl⟩, h f t g h1 ht hl hg⟩
theorem ix_str (hx : Strs xs) (hn : (xs.length : Int) = n) (h0 : 0 ≤ i) (hi : i < n) (h : ∀ s, xs[i.toNat]? = some (.str s) → s.length ≤ 9223372036854775807 → G (.str s)) :
    ∃ y, xs[i.toNat]? = some y ∧ Ob (fun _ => 0 ≤ i) ∧ Ob (fun _ => y.cells.length = 1) ∧ G y := by
  obtain ⟨x, h1, h2⟩ := at_of hn h0 hi
  obtain ⟨s, rfl, hs⟩ := hx x h2
  exact ⟨_, h1, ⟨h0⟩, ⟨rfl⟩, h s h1 hs⟩
theorem ix_int (hx : Ints xs) (hn : (xs.length : Int) = n) (h0 : 0 ≤ i) (hi : i < n) (h : ∀ s, xs[i.toNat]? = some (.int .i64 s) → InI s → G (.int .i64 s)) :
    ∃ y, xs[i.toNat]? = some y ∧ Ob (fun _ => 0 ≤ i) ∧ Ob (fun _ => y.cells.length = 1) ∧ G y := by
  obtain ⟨x, h1, h2⟩ := at_of hn h0 hi
  obtain ⟨s, rfl, hs⟩ := hx x h2
  exact ⟨_, h1, ⟨h0⟩, ⟨rfl⟩, h s h1 hs⟩
end
theorem ix_at {xs : List PV} {i : Int} {G : PV → Prop} {k : Nat} {x : PV} (h : xs[i.toNat]? = some x) (h0 : 0 ≤ i) (hl : x.cells.length = k) (hk : G x) : ∃ y, xs[i.toNat]? = some y ∧ Ob (fun _ => 0 ≤ i) ∧ Ob (fun _ => y.cells.length = k) ∧ G y := ⟨x, h, ⟨h0⟩, ⟨hl⟩, hk⟩
/-! Comparisons of structs of numbers. -/
theorem ex_neq2 {a b c d : Int} {G : Bool → Bool → Prop} (h1 : ¬(a = c ∧ b = d) → G false true) (h2 : a = c → b = d → G true false) :
    ∃ r r', eqCs [.int .i64 a, .int .i64 b] [.int .i64 c, .int .i64 d] = some r ∧ (!r) = r' ∧ G r r' := by
  by_cases h : a = c ∧ b = d
  · exact ⟨true, false, by simp [eqCs, h.1, h.2], rfl, h2 h.1 h.2⟩
  · exact ⟨false, true, by simp [eqCs]; rintro rfl rfl; exact h ⟨rfl, rfl⟩, rfl, h1 h⟩
theorem ex_neq3 {a b c d e f : Int} {G : Bool → Bool → Prop} (h1 : ¬(a = d ∧ b = e ∧ c = f) → G false true) (h2 : a = d → b = e → c = f → G true false) :
    ∃ r r', eqCs [.int .i64 a, .int .i64 b, .int .i64 c] [.int .i64 d, .int .i64 e, .int .i64 f] = some r ∧ (!r) = r' ∧ G r r' := by
  by_cases h : a = d ∧ b = e ∧ c = f
  · exact ⟨true, false, by simp [eqCs, h.1, h.2.1, h.2.2], rfl, h2 h.1 h.2.1 h.2.2⟩
  · exact ⟨false, true, by simp [eqCs]; rintro rfl rfl rfl; exact h ⟨rfl, rfl, rfl⟩, rfl, h1 h⟩
/-! Lists that are alike place by place. -/
theorem eq_of_at {α : Type} {xs ys : List α} {n : Int} (hx : (xs.length : Int) = n) (hy : (ys.length : Int) = n) (h : ∀ j, j < n.toNat → xs[j]? = ys[j]?) : xs = ys := by
  apply List.ext_getElem?
  intro j
  rcases Nat.lt_or_ge j n.toNat with hj | hj
  · exact h j hj
  · rw [List.getElem?_eq_none (by omega), List.getElem?_eq_none (by omega)]
theorem at_step {P : Nat → Prop} {i : Int} (h0 : 0 ≤ i) (h : ∀ j, j < i.toNat → P j) (hi : P i.toNat) : ∀ j, j < (i + 1).toNat → P j := fun j hj => by
  by_cases hji : j < i.toNat
  · exact h j hji
  · have : j = i.toNat := by omega
    exact this ▸ hi
theorem tt_of {r : Bool} {P : Prop} (hr : r = true ↔ P) (h : P) : PV.bool true = PV.bool r := by rw [hr.2 h]
theorem ff_of {r : Bool} {P : Prop} (hr : r = true ↔ P) (h : ¬P) : PV.bool false = PV.bool r := by
  cases r with
  | true => exact absurd (hr.1 rfl) h
  | false => rfl
theorem ne_len {α : Type} {xs ys : List α} {n m : Int} (hx : (xs.length : Int) = n) (hy : (ys.length : Int) = m) (h : n ≠ m) : xs ≠ ys := by
  rintro rfl; exact h (hx.symm.trans hy)

theorem go_nil {xs : List PV} {K : Bool → Prop} (h1 : xs = [] → K true) (h2 : K false) : ∀ b : Bool, (b = true → xs = []) → K b := fun b hb => by
  cases b with
  | true => exact h1 (hb rfl)
  | false => exact h2
theorem AC_of_vcS {Tb : Tab} {E : Env Tb} {f : FuncId} {fn : Func} {c : Code} {N : Nat} {rs : List ResultVar} {args : List PV} {h : Hp} {R : PV → Hp → Prop} (hf : E.P.funcs[f]? = some fn) (hb : fn.body = some c) (hN : fn.ntmps = N) (hrs : fn.results.toList = rs) {K : Option (List (List Nat))} (hlen : Nat.ble args.length N = true)
    (hk : ∀ P : ACode → Prop, P = (fun ac => vc E N h.length ac ⟨number 0 args, h⟩ (endK E rs R)) → P (erase K N c)) : AC E f args h R := AC_of_vc hf hb hN hrs rfl hlen (hk _ rfl)
theorem line_app {Tb : Tab} {E : Env Tb} {gs : Option Nat → Bool} {n0 : Nat} {K : AS → List DInfo → Prop} {l2 : List AOp} : ∀ (l1 : List AOp) (i : Nat) (st : AS) (acc : List DInfo),
    vcLine E gs n0 (l1 ++ l2) i st acc K = vcLine E gs n0 l1 i st acc (fun st' acc' => vcLine E gs n0 l2 (i + l1.length) st' acc' K)
  | [], i, st, acc => rfl
  | o :: r, i, st, acc => by
    have e : i + (o :: r).length = i + 1 + r.length := by simp only [List.length_cons]; omega
    simp only [List.cons_append, vcLine, line_app r, e]
/-- A region whose order is open: some operations, then the others. -/
theorem line_go {Tb : Tab} {E : Env Tb} {gs : Option Nat → Bool} {n0 : Nat} {K : AS → List DInfo → Prop} {l : List AOp} {i : Nat} {st : AS} {acc : List DInfo} (k : Nat)
    (h : vcLine E gs n0 (l.take k) i st acc (fun st' acc' => match l.drop k with
      | [] => K st' acc'
      | x :: r => Ob (fun _ => vcLine E gs n0 (x :: r) (i + k) st' acc' K))) : Ob (fun _ => vcLine E gs n0 l i st acc K) := by
  refine ⟨?_⟩
  cases hd : l.drop k with
  | nil =>
    rw [hd] at h
    have ht : l.take k = l := by
      have := List.take_append_drop k l
      rw [hd, List.append_nil] at this
      exact this
    rw [ht] at h
    exact h
  | cons x r =>
    rw [hd] at h
    have hk : (l.take k).length = k := by
      have h1 : k < l.length := by
        rcases Nat.lt_or_ge k l.length with h1 | h1
        · exact h1
        · rw [List.drop_eq_nil_of_le h1] at hd; cases hd
      simp; omega
    rw [← List.take_append_drop k l, line_app, hk, hd]
    have e : (fun st' acc' => Ob (fun _ => vcLine E gs n0 (x :: r) (i + k) st' acc' K)) = (fun st' acc' => vcLine E gs n0 (x :: r) (i + k) st' acc' K) := by
      funext st' acc'
      exact propext ⟨fun h => h.out, fun h => ⟨h⟩⟩
    rw [← e]
    exact h
/-! ### Rounds that leave dead blocks -/
theorem Evo.cutk {w0 w : World} {F0 F : Foot} {β0 β : Nat → Nat} {h0 h : Hp} {n k : Nat} (hk : n ≤ k) (e : Evo n w0 F0 β0 h0 w F β h) : Evo n w0 F0 β0 h0 w F β (h.take k) := by
  refine ⟨e.size, e.keep, e.tape, e.os, e.output, e.cell, e.org, fun b ⟨id, blk, h1, h2⟩ => e.own b ⟨id, blk, (getB_take_some h1).2, h2⟩, fun id cs fz hi hb => ?_, fun id el q pr xs fz hi hb => ?_⟩
  · obtain ⟨⟨cs', fz', h1⟩, h2⟩ := e.box id cs fz hi hb
    exact ⟨⟨cs', fz', by rw [getB_take _ _ _ (by omega)]; exact h1⟩, h2⟩
  · obtain ⟨pr', xs', fz', h1, h2⟩ := e.row id el q pr xs fz hi hb
    exact ⟨pr', xs', fz', by rw [getB_take _ _ _ (by omega)]; exact h1, h2⟩
def idsT (k : Nat) : List (Nat × PV) → Bool
  | [] => true
  | p :: r => bif idsLt k p.2 then idsT k r else false
theorem idsT_get {k : Nat} : ∀ {tm : List (Nat × PV)}, idsT k tm = true → ∀ t, idsLt k (get tm t) = true
  | [], _, t => rfl
  | (s, v) :: r, h, t => by
    simp only [idsT] at h
    cases hv : idsLt k v with
    | false => rw [hv] at h; cases h
    | true =>
      rw [hv] at h
      simp only [get]
      cases hb : Nat.beq s t with
      | true => exact hv
      | false => exact idsT_get h t
theorem Sim.cut {Tb : Tab} {E : Env Tb} {N B k : Nat} {F : Foot} {β : Nat → Nat} {tm : List (Nat × PV)} {h : Hp} {a : Act} {w : World} (s : Sim E N B F β ⟨tm, h⟩ a w) (ha : allLt k k h = true) (ht : idsT k tm = true) : Sim E N B F β ⟨tm, h.take k⟩ a w :=
  ⟨s.gi, s.sh.cut ha, fun t => Rep.cut _ _ (idsT_get ht t) (s.tm t), s.sz, s.df⟩
/-- A round's end, where what nobody knows any more is forgotten. -/
def nextG {ι : Type} (n : Nat) (S : ι → AS) (I : ι → Prop) (μ : ι → Nat) (m : Nat) (Q : Exit → AS → Prop) (e : Exit) (st : AS) : Prop :=
  match e with
  | .normal => ∃ j, μ j < m ∧ I j ∧ sel (slotsOf (S j).tm) st.tm = (S j).tm ∧ Nat.ble n (S j).h.length = true ∧ allLt (S j).h.length (S j).h.length st.h = true ∧ idsT (S j).h.length (S j).tm = true ∧ st.h.take (S j).h.length = (S j).h
  | e => Q e st
theorem LoopVC.runG {Tb : Tab} {E : Env Tb} {N n : Nat} {ι : Type} (S : ι → AS) (I : ι → Prop) (μ : ι → Nat) {ac : ACode} {Q : Exit → AS → Prop} (i : ι) (st : AS) (hI : I i) (ht : sel (slotsOf (S i).tm) st.tm = (S i).tm) (hh : st.h = (S i).h)
    (hk : ∀ (Q' : Exit → AS → Prop) (m : Nat) (S' : ι → AS) (μ' : ι → Nat) (I' : ι → Prop), Q' = Q → S' = S → μ' = μ → I' = I → ∀ i, I i → m = μ i → vc E N n ac (S i) (nextG n S' I' μ' m Q')) : LoopVC E N n ac Q st := by
  have hk : ∀ i, I i → vc E N n ac (S i) (nextG n S I μ (μ i) Q) := fun i hi => hk Q (μ i) S μ I rfl rfl rfl rfl i hi rfl
  have main : ∀ (m : Nat) (i : ι), μ i < m → I i → LoopVC E N n ac Q (S i) := by
    intro m
    induction m with
    | zero => intro i hi; exact absurd hi (Nat.not_lt_zero _)
    | succ m ih =>
      intro i hi hI
      refine ⟨fun K c hc r hr B F β a w s => ?_⟩
      refine LoopAt.unroll (wpIn_mono (vc_sound K c ac r hr B (S i) _ F β a w (hk i hI) hc s) ?_)
      rintro e a1 w1 ⟨st1, F1, β1, h1, s1, e1⟩
      cases e with
      | normal =>
        obtain ⟨j, hj, hIj, ht, hn, ha, hi2, hh⟩ := h1
        intro b k cs hro
        have s2 : Sim E N B F1 β1 (S j) a1 w1 := by
          have h0 := Sim.keep (slotsOf (S j).tm) (tm := st1.tm) (h := st1.h) s1
          rw [ht] at h0
          have h1 := h0.cut ha hi2
          rw [hh] at h1
          exact h1
        have e2 := Evo.cutk (Nat.le_of_ble_eq_true hn) e1
        rw [hh] at e2
        obtain ⟨e3, a2, w2, h2, h3⟩ := (ih j (by omega) hIj).out K c hc r hr B F1 β1 a1 w1 s2 b k cs hro
        exact ⟨e3, a2, w2, Post.trans e2 h2, h3⟩
      | _ => exact ⟨st1, F1, β1, h1, s1, e1⟩
  obtain ⟨tm, h⟩ := st
  refine LoopVC.keep (slotsOf (S i).tm) ?_
  simp only at ht hh
  rw [ht, hh]
  exact main (μ i + 1) i (Nat.lt_succ_self _) hI
/-! Calls whose contract is known. -/
section
variable {Tb : Tab} {E : Env Tb} {g : FuncId} {args : List PV} {K : PV → Prop} {A : Prop}
theorem go_val {r : PV} (h : AF E g args r) (hk : K r) : (∃ r, AF E g args r ∧ K r) ∨ A := .inl ⟨_, h, hk⟩
theorem go_sl {x : List PV} (h : AF E g args (.sl x)) (hk : ∀ X, x = X → K (.sl X)) : (∃ r, AF E g args r ∧ K r) ∨ A := .inl ⟨_, h, hk _ rfl⟩
theorem go_agg1 {x : List PV} (h : AF E g args (.agg [.sl x])) (hk : ∀ X, x = X → K (.agg [.sl X])) : (∃ r, AF E g args r ∧ K r) ∨ A := .inl ⟨_, h, hk _ rfl⟩
theorem go_agg2 {x y : List PV} (h : AF E g args (.agg [.sl x, .sl y])) (hk : ∀ X Y, x = X → y = Y → K (.agg [.sl X, .sl Y])) : (∃ r, AF E g args r ∧ K r) ∨ A := .inl ⟨_, h, hk _ _ rfl rfl⟩
theorem go_if {P : Prop} (h : ∀ r : Bool, (r = true ↔ P) → AF E g args (.bool r)) (h1 : P → K (.bool true)) (h2 : ¬P → K (.bool false)) : (∃ r, AF E g args r ∧ K r) ∨ A := by
  by_cases hp : P
  · exact .inl ⟨_, h true (by simp [hp]), h1 hp⟩
  · exact .inl ⟨_, h false (by simp [hp]), h2 hp⟩
end
end Go.Px
