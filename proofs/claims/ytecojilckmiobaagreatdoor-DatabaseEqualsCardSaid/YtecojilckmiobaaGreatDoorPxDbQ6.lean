/- Shows a part of the walk of the law; its conditions stand ahead of each theorem. -/
import Derived.Test.YtecojilckmiobaaGreatDoorPxDbQ1
import Derived.Test.YtecojilckmiobaaGreatDoorPxDbP6
set_option linter.unusedVariables false
set_option maxRecDepth 100000
set_option maxHeartbeats 4000000
namespace Go.Px.Db
open Go Go.Px Go.Proofs
noncomputable section
section
variable {mm : Int} {E : Env (tab mm)} {a b a2 b2 : Int} {n0 s0 n1 s1 n2 s2 n3 s3 n4 s4 n5 s5 n6 s6 cl de ex lo up ti fo ca ig st co me cf n0q s0q n1q s1q n2q s2q n3q s3q n4q s4q n5q s5q n6q s6q clq deq exq loq upq tiq foq caq igq stq coq meq cfq : List PV}
theorem nAt_P {P : List PV → Prop} (i : Int) (h_n0 : P n0) (h_n1 : P n1) (h_n2 : P n2) (h_n3 : P n3) (h_n4 : P n4) (h_n5 : P n5) (h_n6 : P n6) (hd : P []) : P (nAt i n0 n1 n2 n3 n4 n5 n6) := by
  unfold nAt
  repeat' split
  all_goals assumption
theorem sAt_P {P : List PV → Prop} (i : Int) (h_s0 : P s0) (h_s1 : P s1) (h_s2 : P s2) (h_s3 : P s3) (h_s4 : P s4) (h_s5 : P s5) (h_s6 : P s6) (hd : P []) : P (sAt i s0 s1 s2 s3 s4 s5 s6) := by
  unfold sAt
  repeat' split
  all_goals assumption
theorem tAt_P {P : List PV → Prop} (i : Int) (h_ex : P ex) (h_ca : P ca) (h_ig : P ig) (h_st : P st) (h_co : P co) (h_me : P me) (hd : P []) : P (tAt i ex ca ig st co me) := by
  unfold tAt
  repeat' split
  all_goals assumption
theorem mAtS_P {P : List PV → Prop} (s : List UInt8) (h_de : P de) (h_lo : P lo) (h_up : P up) (h_ti : P ti) (h_fo : P fo) (h_cf : P cf) : P (mAtS s de lo up ti fo cf) := by
  unfold mAtS
  repeat' split
  all_goals assumption
theorem nl {p : PV → Prop} : ∀ x ∈ ([] : List PV), p x := fun x h => by cases h
theorem ll : Len [] := Nat.zero_le _
section
variable {g : FuncId} {args : List PV} {K : PV → Prop} {A : Prop}
theorem go_pr {x y : List PV} (h : AF E g args (.agg [.sl x, .sl y])) (hx : Strs x) (hy : Spans y) (lx : Len x) (ly : Len y) (hk : ∀ X Y, x = X → y = Y → Strs X → Spans Y → Len X → Len Y → K (.agg [.sl X, .sl Y])) : (∃ r, AF E g args r ∧ K r) ∨ A := .inl ⟨_, h, hk _ _ rfl rfl hx hy lx ly⟩
theorem go_st {x : List PV} (h : AF E g args (.agg [.sl x])) (hx : Rngs x) (lx : Len x) (hk : ∀ X, x = X → Rngs X → Len X → K (.agg [.sl X])) : (∃ r, AF E g args r ∧ K r) ∨ A := .inl ⟨_, h, hk _ rfl hx lx⟩
theorem go_mp {x : List PV} (h : AF E g args (.sl x)) (hx : Mps x) (lx : Len x) (hk : ∀ X, x = X → Mps X → Len X → K (.sl X)) : (∃ r, AF E g args r ∧ K r) ∨ A := .inl ⟨_, h, hk _ rfl hx lx⟩
end
theorem a15 (hP : E.P = Tryz.prog) (hT : PowOk E) (q_n0 : Strs n0) (t_n0 : Len n0) (q_s0 : Spans s0) (t_s0 : Len s0) (q_n1 : Strs n1) (t_n1 : Len n1) (q_s1 : Spans s1) (t_s1 : Len s1) (q_n2 : Strs n2) (t_n2 : Len n2) (q_s2 : Spans s2) (t_s2 : Len s2) (q_n3 : Strs n3) (t_n3 : Len n3) (q_s3 : Spans s3) (t_s3 : Len s3) (q_n4 : Strs n4) (t_n4 : Len n4) (q_s4 : Spans s4) (t_s4 : Len s4) (q_n5 : Strs n5) (t_n5 : Len n5) (q_s5 : Spans s5) (t_s5 : Len s5) (q_n6 : Strs n6) (t_n6 : Len n6) (q_s6 : Spans s6) (t_s6 : Len s6) (q_cl : Spans cl) (t_cl : Len cl) (q_de : Mps de) (t_de : Len de) (q_ex : Rngs ex) (t_ex : Len ex) (q_lo : Mps lo) (t_lo : Len lo) (q_up : Mps up) (t_up : Len up) (q_ti : Mps ti) (t_ti : Len ti) (q_fo : Mps fo) (t_fo : Len fo) (q_ca : Rngs ca) (t_ca : Len ca) (q_ig : Rngs ig) (t_ig : Len ig) (q_st : Rngs st) (t_st : Len st) (q_co : Rngs co) (t_co : Len co) (q_me : Rngs me) (t_me : Len me) (q_cf : Mps cf) (t_cf : Len cf) (q_n0q : Strs n0q) (t_n0q : Len n0q) (q_s0q : Spans s0q) (t_s0q : Len s0q) (q_n1q : Strs n1q) (t_n1q : Len n1q) (q_s1q : Spans s1q) (t_s1q : Len s1q) (q_n2q : Strs n2q) (t_n2q : Len n2q) (q_s2q : Spans s2q) (t_s2q : Len s2q) (q_n3q : Strs n3q) (t_n3q : Len n3q) (q_s3q : Spans s3q) (t_s3q : Len s3q) (q_n4q : Strs n4q) (t_n4q : Len n4q) (q_s4q : Spans s4q) (t_s4q : Len s4q) (q_n5q : Strs n5q) (t_n5q : Len n5q) (q_s5q : Spans s5q) (t_s5q : Len s5q) (q_n6q : Strs n6q) (t_n6q : Len n6q) (q_s6q : Spans s6q) (t_s6q : Len s6q) (q_clq : Spans clq) (t_clq : Len clq) (q_deq : Mps deq) (t_deq : Len deq) (q_exq : Rngs exq) (t_exq : Len exq) (q_loq : Mps loq) (t_loq : Len loq) (q_upq : Mps upq) (t_upq : Len upq) (q_tiq : Mps tiq) (t_tiq : Len tiq) (q_foq : Mps foq) (t_foq : Len foq) (q_caq : Rngs caq) (t_caq : Len caq) (q_igq : Rngs igq) (t_igq : Len igq) (q_stq : Rngs stq) (t_stq : Len stq) (q_coq : Rngs coq) (t_coq : Len coq) (q_meq : Rngs meq) (t_meq : Len meq) (q_cfq : Mps cfq) (t_cfq : Len cfq) {r : Bool} (hr : r = true ↔ (a = a2 ∧ b = b2) ∧ cl = clq ∧ (de = deq ∧ lo = loq ∧ up = upq ∧ ti = tiq ∧ fo = foq ∧ cf = cfq) ∧ ((n0 = n0q ∧ s0 = s0q) ∧ (n1 = n1q ∧ s1 = s1q) ∧ (n2 = n2q ∧ s2 = s2q) ∧ (n3 = n3q ∧ s3 = s3q) ∧ (n4 = n4q ∧ s4 = s4q) ∧ (n5 = n5q ∧ s5 = s5q) ∧ (n6 = n6q ∧ s6 = s6q)) ∧ (ex = exq ∧ ca = caq ∧ ig = igq ∧ st = stq ∧ co = coq ∧ me = meq)) : AF E 15 [.agg [.int .i64 a, .int .i64 b, .sl n0, .sl s0, .sl n1, .sl s1, .sl n2, .sl s2, .sl n3, .sl s3, .sl n4, .sl s4, .sl n5, .sl s5, .sl n6, .sl s6, .sl cl, .sl de, .sl ex, .sl lo, .sl up, .sl ti, .sl fo, .sl ca, .sl ig, .sl st, .sl co, .sl me, .sl cf], .agg [.int .i64 a2, .int .i64 b2, .sl n0q, .sl s0q, .sl n1q, .sl s1q, .sl n2q, .sl s2q, .sl n3q, .sl s3q, .sl n4q, .sl s4q, .sl n5q, .sl s5q, .sl n6q, .sl s6q, .sl clq, .sl deq, .sl exq, .sl loq, .sl upq, .sl tiq, .sl foq, .sl caq, .sl igq, .sl stq, .sl coq, .sl meq, .sl cfq]] (.bool r) := by
  apply AF_of_AC
  refine AC_of_vc (K := keepT 15) (fn := Tryz.f15) (by rw [hP]; exact Tryz.func15) rfl rfl rfl rfl rfl ?_
  cbv <;> repeat' (first
    | (refine go_if (fun r hr => a40 hP q_cl q_clq t_cl t_clq hr) ?_ ?_ <;> intro _ <;> cbv)
    | (refine ex_strne ?_ ?_ <;> intro _ <;> first | (exfalso; omega) | cbv)
    | (refine ex_if ?_ ?_ <;> intro _ <;> first | (exfalso; omega) | cbv)
    | (refine line_go 10 ?_; cbv)
    | (refine go_nil ?_ ?_ <;> (try intro _) <;> cbv)
    | (refine ex_bool ?_; cbv)
    | (refine go_tt ?_; cbv)
    | (refine go_ff ?_; cbv)
    | (refine go_tf ?_; cbv)
    | (refine go_ft ?_; cbv)
    | (refine ex_len (by assumption) ?_; cbv)
    | (refine ex_slen (by assumption) ?_; cbv)
    | (refine ex_lenv (fun _ _ _ => ?_); cbv)
    | (refine ex_slenv (fun _ _ _ => ?_); cbv)
    | (refine ex_wrap (by omega) (fun _ _ => ?_); cbv)
    | (refine ix_span (by assumption) (by assumption) (by omega) (by omega) (fun _ _ _ _ => ?_); cbv)
    | (refine ix_rng (by assumption) (by assumption) (by omega) (by omega) (fun _ _ _ => ?_); cbv)
    | (refine ix_str (by assumption) (by assumption) (by omega) (by omega) (fun _ _ _ => ?_); cbv)
    | (refine ix_map (by assumption) (by assumption) (by omega) (by omega) (fun _ _ _ _ _ _ _ => ?_); cbv)
    | (refine ix_int (by assumption) (by assumption) (by omega) (by omega) (fun _ _ _ => ?_); cbv)
    | (refine ex_neq3 (fun _ => ?_) (fun _ _ _ => ?_) <;> cbv)
    | (refine ex_neq2 (fun _ => ?_) (fun _ _ => ?_) <;> cbv)
    | (refine ob_go (by omega) ?_; cbv)
    | (refine ob_go (by kernel_rfl) ?_; cbv)
    | fail)
  · exact ff_of hr (fun h => absurd h.1 (by assumption))
  · refine LoopVC.runG (fun i : Int => ⟨[(2, .ptr 0 0), (3, .ptr 1 0), (5, .int .i64 i)], [some (.box [.int .i64 a, .int .i64 b, .sl n0, .sl s0, .sl n1, .sl s1, .sl n2, .sl s2, .sl n3, .sl s3, .sl n4, .sl s4, .sl n5, .sl s5, .sl n6, .sl s6, .sl cl, .sl de, .sl ex, .sl lo, .sl up, .sl ti, .sl fo, .sl ca, .sl ig, .sl st, .sl co, .sl me, .sl cf] false), some (.box [.int .i64 a2, .int .i64 b2, .sl n0q, .sl s0q, .sl n1q, .sl s1q, .sl n2q, .sl s2q, .sl n3q, .sl s3q, .sl n4q, .sl s4q, .sl n5q, .sl s5q, .sl n6q, .sl s6q, .sl clq, .sl deq, .sl exq, .sl loq, .sl upq, .sl tiq, .sl foq, .sl caq, .sl igq, .sl stq, .sl coq, .sl meq, .sl cfq] false)]⟩) (fun i => 0 ≤ i ∧ i ≤ 7 ∧ ∀ j : Int, 0 ≤ j → j < i → nAt j n0 n1 n2 n3 n4 n5 n6 = nAt j n0q n1q n2q n3q n4q n5q n6q ∧ sAt j s0 s1 s2 s3 s4 s5 s6 = sAt j s0q s1q s2q s3q s4q s5q s6q) (fun i => (7 - i).toNat) 0 _ ⟨by omega, by omega, fun j h1 h2 => by omega⟩ rfl rfl ?_
    rintro Q mu S' μ' I' hQ hS hμ hI i ⟨h0, hi, hno⟩ hmu
    cbv <;> repeat' (first
      | (refine go_pr (a26 hP i) (nAt_P i q_n0 q_n1 q_n2 q_n3 q_n4 q_n5 q_n6 nl) (sAt_P i q_s0 q_s1 q_s2 q_s3 q_s4 q_s5 q_s6 nl) (nAt_P i t_n0 t_n1 t_n2 t_n3 t_n4 t_n5 t_n6 ll) (sAt_P i t_s0 t_s1 t_s2 t_s3 t_s4 t_s5 t_s6 ll) (fun X Y hX hY _ _ _ _ => ?_); cbv)
      | (refine go_pr (a26 hP i) (nAt_P i q_n0q q_n1q q_n2q q_n3q q_n4q q_n5q q_n6q nl) (sAt_P i q_s0q q_s1q q_s2q q_s3q q_s4q q_s5q q_s6q nl) (nAt_P i t_n0q t_n1q t_n2q t_n3q t_n4q t_n5q t_n6q ll) (sAt_P i t_s0q t_s1q t_s2q t_s3q t_s4q t_s5q t_s6q ll) (fun U Z hU hZ _ _ _ _ => ?_); cbv)
      | (refine go_if (fun r hr => a24 hP (by assumption) (by assumption) (by assumption) (by assumption) (by assumption) (by assumption) (by assumption) (by assumption) hr) ?_ ?_ <;> intro _ <;> cbv)
      | (refine ex_strne ?_ ?_ <;> intro _ <;> first | (exfalso; omega) | cbv)
      | (refine ex_if ?_ ?_ <;> intro _ <;> first | (exfalso; omega) | cbv)
      | (refine line_go 10 ?_; cbv)
      | (refine go_nil ?_ ?_ <;> (try intro _) <;> cbv)
      | (refine ex_bool ?_; cbv)
      | (refine go_tt ?_; cbv)
      | (refine go_ff ?_; cbv)
      | (refine go_tf ?_; cbv)
      | (refine go_ft ?_; cbv)
      | (refine ex_len (by assumption) ?_; cbv)
      | (refine ex_slen (by assumption) ?_; cbv)
      | (refine ex_lenv (fun _ _ _ => ?_); cbv)
      | (refine ex_slenv (fun _ _ _ => ?_); cbv)
      | (refine ex_wrap (by omega) (fun _ _ => ?_); cbv)
      | (refine ix_span (by assumption) (by assumption) (by omega) (by omega) (fun _ _ _ _ => ?_); cbv)
      | (refine ix_rng (by assumption) (by assumption) (by omega) (by omega) (fun _ _ _ => ?_); cbv)
      | (refine ix_str (by assumption) (by assumption) (by omega) (by omega) (fun _ _ _ => ?_); cbv)
      | (refine ix_map (by assumption) (by assumption) (by omega) (by omega) (fun _ _ _ _ _ _ _ => ?_); cbv)
      | (refine ix_int (by assumption) (by assumption) (by omega) (by omega) (fun _ _ _ => ?_); cbv)
      | (refine ex_neq3 (fun _ => ?_) (fun _ _ _ => ?_) <;> cbv)
      | (refine ex_neq2 (fun _ => ?_) (fun _ _ => ?_) <;> cbv)
      | (refine ob_go (by omega) ?_; cbv)
      | (refine ob_go (by kernel_rfl) ?_; cbv)
      | fail)
    · rename_i h1 _ _
      subst hQ hS hμ hI
      subst_vars
      refine ⟨i + 1, by show (7 - (i + 1)).toNat < (7 - i).toNat; omega, ⟨by omega, by omega, fun j hj0 hj => ?_⟩, rfl, rfl, rfl, rfl, rfl⟩
      by_cases hji : j < i
      · exact hno j hj0 hji
      · have e : j = i := by omega
        subst e
        exact h1
    · subst hQ
      cbv
      rename_i h1
      refine ff_of hr (fun h' => ?_)
      obtain ⟨_, _, _, ⟨⟨rfl, rfl⟩, ⟨rfl, rfl⟩, ⟨rfl, rfl⟩, ⟨rfl, rfl⟩, ⟨rfl, rfl⟩, ⟨rfl, rfl⟩, ⟨rfl, rfl⟩⟩, _⟩ := h'
      exact h1 ⟨hX.symm.trans hU, hY.symm.trans hZ⟩
    · subst hQ
      have h7 : i = 7 := by omega
      subst h7
      cbv <;> repeat' (first
        | (refine ex_strne ?_ ?_ <;> intro _ <;> first | (exfalso; omega) | cbv)
        | (refine ex_if ?_ ?_ <;> intro _ <;> first | (exfalso; omega) | cbv)
        | (refine line_go 10 ?_; cbv)
        | (refine go_nil ?_ ?_ <;> (try intro _) <;> cbv)
        | (refine ex_bool ?_; cbv)
        | (refine go_tt ?_; cbv)
        | (refine go_ff ?_; cbv)
        | (refine go_tf ?_; cbv)
        | (refine go_ft ?_; cbv)
        | (refine ex_len (by assumption) ?_; cbv)
        | (refine ex_slen (by assumption) ?_; cbv)
        | (refine ex_lenv (fun _ _ _ => ?_); cbv)
        | (refine ex_slenv (fun _ _ _ => ?_); cbv)
        | (refine ex_wrap (by omega) (fun _ _ => ?_); cbv)
        | (refine ix_span (by assumption) (by assumption) (by omega) (by omega) (fun _ _ _ _ => ?_); cbv)
        | (refine ix_rng (by assumption) (by assumption) (by omega) (by omega) (fun _ _ _ => ?_); cbv)
        | (refine ix_str (by assumption) (by assumption) (by omega) (by omega) (fun _ _ _ => ?_); cbv)
        | (refine ix_map (by assumption) (by assumption) (by omega) (by omega) (fun _ _ _ _ _ _ _ => ?_); cbv)
        | (refine ix_int (by assumption) (by assumption) (by omega) (by omega) (fun _ _ _ => ?_); cbv)
        | (refine ex_neq3 (fun _ => ?_) (fun _ _ _ => ?_) <;> cbv)
        | (refine ex_neq2 (fun _ => ?_) (fun _ _ => ?_) <;> cbv)
        | (refine ob_go (by omega) ?_; cbv)
        | (refine ob_go (by kernel_rfl) ?_; cbv)
        | fail)
      refine LoopVC.runG (fun i : Int => ⟨[(2, .ptr 0 0), (3, .ptr 1 0), (6, .int .i64 i)], [some (.box [.int .i64 a, .int .i64 b, .sl n0, .sl s0, .sl n1, .sl s1, .sl n2, .sl s2, .sl n3, .sl s3, .sl n4, .sl s4, .sl n5, .sl s5, .sl n6, .sl s6, .sl cl, .sl de, .sl ex, .sl lo, .sl up, .sl ti, .sl fo, .sl ca, .sl ig, .sl st, .sl co, .sl me, .sl cf] false), some (.box [.int .i64 a2, .int .i64 b2, .sl n0q, .sl s0q, .sl n1q, .sl s1q, .sl n2q, .sl s2q, .sl n3q, .sl s3q, .sl n4q, .sl s4q, .sl n5q, .sl s5q, .sl n6q, .sl s6q, .sl clq, .sl deq, .sl exq, .sl loq, .sl upq, .sl tiq, .sl foq, .sl caq, .sl igq, .sl stq, .sl coq, .sl meq, .sl cfq] false)]⟩) (fun i => 0 ≤ i ∧ i ≤ 6 ∧ ∀ j : Int, 0 ≤ j → j < i → tAt j ex ca ig st co me = tAt j exq caq igq stq coq meq) (fun i => (6 - i).toNat) 0 _ ⟨by omega, by omega, fun j h1 h2 => by omega⟩ rfl rfl ?_
      rintro Q mu S' μ' I' hQ hS hμ hI i ⟨h0, hi, hno2⟩ hmu
      cbv <;> repeat' (first
        | (refine go_st (a29 hP i) (tAt_P i q_ex q_ca q_ig q_st q_co q_me nl) (tAt_P i t_ex t_ca t_ig t_st t_co t_me ll) (fun X hX _ _ => ?_); cbv)
        | (refine go_st (a29 hP i) (tAt_P i q_exq q_caq q_igq q_stq q_coq q_meq nl) (tAt_P i t_exq t_caq t_igq t_stq t_coq t_meq ll) (fun U hU _ _ => ?_); cbv)
        | (refine go_if (fun r hr => a27 hP (by assumption) (by assumption) (by assumption) (by assumption) hr) ?_ ?_ <;> intro _ <;> cbv)
        | (refine ex_strne ?_ ?_ <;> intro _ <;> first | (exfalso; omega) | cbv)
        | (refine ex_if ?_ ?_ <;> intro _ <;> first | (exfalso; omega) | cbv)
        | (refine line_go 10 ?_; cbv)
        | (refine go_nil ?_ ?_ <;> (try intro _) <;> cbv)
        | (refine ex_bool ?_; cbv)
        | (refine go_tt ?_; cbv)
        | (refine go_ff ?_; cbv)
        | (refine go_tf ?_; cbv)
        | (refine go_ft ?_; cbv)
        | (refine ex_len (by assumption) ?_; cbv)
        | (refine ex_slen (by assumption) ?_; cbv)
        | (refine ex_lenv (fun _ _ _ => ?_); cbv)
        | (refine ex_slenv (fun _ _ _ => ?_); cbv)
        | (refine ex_wrap (by omega) (fun _ _ => ?_); cbv)
        | (refine ix_span (by assumption) (by assumption) (by omega) (by omega) (fun _ _ _ _ => ?_); cbv)
        | (refine ix_rng (by assumption) (by assumption) (by omega) (by omega) (fun _ _ _ => ?_); cbv)
        | (refine ix_str (by assumption) (by assumption) (by omega) (by omega) (fun _ _ _ => ?_); cbv)
        | (refine ix_map (by assumption) (by assumption) (by omega) (by omega) (fun _ _ _ _ _ _ _ => ?_); cbv)
        | (refine ix_int (by assumption) (by assumption) (by omega) (by omega) (fun _ _ _ => ?_); cbv)
        | (refine ex_neq3 (fun _ => ?_) (fun _ _ _ => ?_) <;> cbv)
        | (refine ex_neq2 (fun _ => ?_) (fun _ _ => ?_) <;> cbv)
        | (refine ob_go (by omega) ?_; cbv)
        | (refine ob_go (by kernel_rfl) ?_; cbv)
        | fail)
      · rename_i h1 _ _
        subst hQ hS hμ hI
        subst_vars
        refine ⟨i + 1, by show (6 - (i + 1)).toNat < (6 - i).toNat; omega, ⟨by omega, by omega, fun j hj0 hj => ?_⟩, rfl, rfl, rfl, rfl, rfl⟩
        by_cases hji : j < i
        · exact hno2 j hj0 hji
        · have e : j = i := by omega
          subst e
          exact h1
      · subst hQ
        cbv
        rename_i h1
        refine ff_of hr (fun h' => ?_)
        obtain ⟨_, _, _, _, rfl, rfl, rfl, rfl, rfl, rfl⟩ := h'
        exact h1 (hX.symm.trans hU)
      · subst hQ
        have h7 : i = 6 := by omega
        subst h7
        cbv <;> repeat' (first
          | (refine ex_strne ?_ ?_ <;> intro _ <;> first | (exfalso; omega) | cbv)
          | (refine ex_if ?_ ?_ <;> intro _ <;> first | (exfalso; omega) | cbv)
          | (refine line_go 10 ?_; cbv)
          | (refine go_nil ?_ ?_ <;> (try intro _) <;> cbv)
          | (refine ex_bool ?_; cbv)
          | (refine go_tt ?_; cbv)
          | (refine go_ff ?_; cbv)
          | (refine go_tf ?_; cbv)
          | (refine go_ft ?_; cbv)
          | (refine ex_len (by assumption) ?_; cbv)
          | (refine ex_slen (by assumption) ?_; cbv)
          | (refine ex_lenv (fun _ _ _ => ?_); cbv)
          | (refine ex_slenv (fun _ _ _ => ?_); cbv)
          | (refine ex_wrap (by omega) (fun _ _ => ?_); cbv)
          | (refine ix_span (by assumption) (by assumption) (by omega) (by omega) (fun _ _ _ _ => ?_); cbv)
          | (refine ix_rng (by assumption) (by assumption) (by omega) (by omega) (fun _ _ _ => ?_); cbv)
          | (refine ix_str (by assumption) (by assumption) (by omega) (by omega) (fun _ _ _ => ?_); cbv)
          | (refine ix_map (by assumption) (by assumption) (by omega) (by omega) (fun _ _ _ _ _ _ _ => ?_); cbv)
          | (refine ix_int (by assumption) (by assumption) (by omega) (by omega) (fun _ _ _ => ?_); cbv)
          | (refine ex_neq3 (fun _ => ?_) (fun _ _ _ => ?_) <;> cbv)
          | (refine ex_neq2 (fun _ => ?_) (fun _ _ => ?_) <;> cbv)
          | (refine ob_go (by omega) ?_; cbv)
          | (refine ob_go (by kernel_rfl) ?_; cbv)
          | fail)
        refine LoopVC.runG (fun i : Int => ⟨[(2, .ptr 0 0), (3, .ptr 1 0), (7, .int .i64 i)], [some (.box [.int .i64 a, .int .i64 b, .sl n0, .sl s0, .sl n1, .sl s1, .sl n2, .sl s2, .sl n3, .sl s3, .sl n4, .sl s4, .sl n5, .sl s5, .sl n6, .sl s6, .sl cl, .sl de, .sl ex, .sl lo, .sl up, .sl ti, .sl fo, .sl ca, .sl ig, .sl st, .sl co, .sl me, .sl cf] false), some (.box [.int .i64 a2, .int .i64 b2, .sl n0q, .sl s0q, .sl n1q, .sl s1q, .sl n2q, .sl s2q, .sl n3q, .sl s3q, .sl n4q, .sl s4q, .sl n5q, .sl s5q, .sl n6q, .sl s6q, .sl clq, .sl deq, .sl exq, .sl loq, .sl upq, .sl tiq, .sl foq, .sl caq, .sl igq, .sl stq, .sl coq, .sl meq, .sl cfq] false)]⟩) (fun i => 0 ≤ i ∧ i ≤ 21 ∧ ∀ (j : Int) s, 0 ≤ j → j < i → filesL[j.toNat]? = some (.str s) → mAtS s de lo up ti fo cf = mAtS s deq loq upq tiq foq cfq) (fun i => (21 - i).toNat) 0 _ ⟨by omega, by omega, fun j s h1 h2 => by omega⟩ rfl rfl ?_
        rintro Q mu S' μ' I' hQ hS hμ hI i ⟨h0, hi, hno3⟩ hmu
        by_cases hi21 : i < 21
        · obtain ⟨s, hs⟩ := at_file i (by omega) (by omega)
          cbv <;> repeat' (first
            | (refine go_val (a32 hP hT) ?_; cbv)
            | (refine ⟨21, rfl, ?_⟩; cbv)
            | (refine go_mp (a36 hP hT i (by omega) (by omega) s hs _ rfl) (mAtS_P s q_de q_lo q_up q_ti q_fo q_cf) (mAtS_P s t_de t_lo t_up t_ti t_fo t_cf) (fun X hX _ _ => ?_); cbv)
            | (refine go_mp (a36 hP hT i (by omega) (by omega) s hs _ rfl) (mAtS_P s q_deq q_loq q_upq q_tiq q_foq q_cfq) (mAtS_P s t_deq t_loq t_upq t_tiq t_foq t_cfq) (fun U hU _ _ => ?_); cbv)
            | (refine go_if (fun r hr => a41 hP (by assumption) (by assumption) (by assumption) (by assumption) hr) ?_ ?_ <;> intro _ <;> cbv)
            | (refine ex_strne ?_ ?_ <;> intro _ <;> first | (exfalso; omega) | cbv)
            | (refine ex_if ?_ ?_ <;> intro _ <;> first | (exfalso; omega) | cbv)
            | (refine line_go 10 ?_; cbv)
            | (refine go_nil ?_ ?_ <;> (try intro _) <;> cbv)
            | (refine ex_bool ?_; cbv)
            | (refine go_tt ?_; cbv)
            | (refine go_ff ?_; cbv)
            | (refine go_tf ?_; cbv)
            | (refine go_ft ?_; cbv)
            | (refine ex_len (by assumption) ?_; cbv)
            | (refine ex_slen (by assumption) ?_; cbv)
            | (refine ex_lenv (fun _ _ _ => ?_); cbv)
            | (refine ex_slenv (fun _ _ _ => ?_); cbv)
            | (refine ex_wrap (by omega) (fun _ _ => ?_); cbv)
            | (refine ix_span (by assumption) (by assumption) (by omega) (by omega) (fun _ _ _ _ => ?_); cbv)
            | (refine ix_rng (by assumption) (by assumption) (by omega) (by omega) (fun _ _ _ => ?_); cbv)
            | (refine ix_str (by assumption) (by assumption) (by omega) (by omega) (fun _ _ _ => ?_); cbv)
            | (refine ix_map (by assumption) (by assumption) (by omega) (by omega) (fun _ _ _ _ _ _ _ => ?_); cbv)
            | (refine ix_int (by assumption) (by assumption) (by omega) (by omega) (fun _ _ _ => ?_); cbv)
            | (refine ex_neq3 (fun _ => ?_) (fun _ _ _ => ?_) <;> cbv)
            | (refine ex_neq2 (fun _ => ?_) (fun _ _ => ?_) <;> cbv)
            | (refine ob_go (by omega) ?_; cbv)
            | (refine ob_go (by kernel_rfl) ?_; cbv)
            | fail)
          · rename_i h1 _ _
            subst hQ hS hμ hI
            subst_vars
            refine ⟨i + 1, by show (21 - (i + 1)).toNat < (21 - i).toNat; omega, ⟨by omega, by omega, fun j s' hj0 hj hs' => ?_⟩, rfl, rfl, rfl, rfl, rfl⟩
            by_cases hji : j < i
            · exact hno3 j s' hj0 hji hs'
            · have e : j = i := by omega
              subst e
              rw [hs] at hs'
              cases hs'
              exact h1
          · subst hQ
            cbv
            rename_i h1
            refine ff_of hr (fun h' => ?_)
            obtain ⟨_, _, ⟨rfl, rfl, rfl, rfl, rfl, rfl⟩, _⟩ := h'
            exact h1 (hX.symm.trans hU)
        · cbv <;> repeat' (first
            | (refine go_val (a32 hP hT) ?_; cbv)
            | (refine ⟨21, rfl, ?_⟩; cbv)
            | (refine go_mp (a36 hP hT i (by omega) (by omega) s hs _ rfl) (mAtS_P s q_de q_lo q_up q_ti q_fo q_cf) (mAtS_P s t_de t_lo t_up t_ti t_fo t_cf) (fun X hX _ _ => ?_); cbv)
            | (refine go_mp (a36 hP hT i (by omega) (by omega) s hs _ rfl) (mAtS_P s q_deq q_loq q_upq q_tiq q_foq q_cfq) (mAtS_P s t_deq t_loq t_upq t_tiq t_foq t_cfq) (fun U hU _ _ => ?_); cbv)
            | (refine go_if (fun r hr => a41 hP (by assumption) (by assumption) (by assumption) (by assumption) hr) ?_ ?_ <;> intro _ <;> cbv)
            | (refine ex_strne ?_ ?_ <;> intro _ <;> first | (exfalso; omega) | cbv)
            | (refine ex_if ?_ ?_ <;> intro _ <;> first | (exfalso; omega) | cbv)
            | (refine line_go 10 ?_; cbv)
            | (refine go_nil ?_ ?_ <;> (try intro _) <;> cbv)
            | (refine ex_bool ?_; cbv)
            | (refine go_tt ?_; cbv)
            | (refine go_ff ?_; cbv)
            | (refine go_tf ?_; cbv)
            | (refine go_ft ?_; cbv)
            | (refine ex_len (by assumption) ?_; cbv)
            | (refine ex_slen (by assumption) ?_; cbv)
            | (refine ex_lenv (fun _ _ _ => ?_); cbv)
            | (refine ex_slenv (fun _ _ _ => ?_); cbv)
            | (refine ex_wrap (by omega) (fun _ _ => ?_); cbv)
            | (refine ix_span (by assumption) (by assumption) (by omega) (by omega) (fun _ _ _ _ => ?_); cbv)
            | (refine ix_rng (by assumption) (by assumption) (by omega) (by omega) (fun _ _ _ => ?_); cbv)
            | (refine ix_str (by assumption) (by assumption) (by omega) (by omega) (fun _ _ _ => ?_); cbv)
            | (refine ix_map (by assumption) (by assumption) (by omega) (by omega) (fun _ _ _ _ _ _ _ => ?_); cbv)
            | (refine ix_int (by assumption) (by assumption) (by omega) (by omega) (fun _ _ _ => ?_); cbv)
            | (refine ex_neq3 (fun _ => ?_) (fun _ _ _ => ?_) <;> cbv)
            | (refine ex_neq2 (fun _ => ?_) (fun _ _ => ?_) <;> cbv)
            | (refine ob_go (by omega) ?_; cbv)
            | (refine ob_go (by kernel_rfl) ?_; cbv)
            | fail)
          subst hQ
          have h7 : i = 21 := by omega
          subst h7
          cbv
          refine tt_of hr ⟨⟨by assumption, by assumption⟩, by assumption, ⟨?_, ?_, ?_, ?_, ?_, ?_⟩, ⟨(hno 0 (by omega) (by omega) : n0 = n0q ∧ s0 = s0q), (hno 1 (by omega) (by omega) : n1 = n1q ∧ s1 = s1q), (hno 2 (by omega) (by omega) : n2 = n2q ∧ s2 = s2q), (hno 3 (by omega) (by omega) : n3 = n3q ∧ s3 = s3q), (hno 4 (by omega) (by omega) : n4 = n4q ∧ s4 = s4q), (hno 5 (by omega) (by omega) : n5 = n5q ∧ s5 = s5q), (hno 6 (by omega) (by omega) : n6 = n6q ∧ s6 = s6q)⟩, ⟨(hno2 0 (by omega) (by omega) : ex = exq), (hno2 1 (by omega) (by omega) : ca = caq), (hno2 2 (by omega) (by omega) : ig = igq), (hno2 3 (by omega) (by omega) : st = stq), (hno2 4 (by omega) (by omega) : co = coq), (hno2 5 (by omega) (by omega) : me = meq)⟩⟩
          all_goals first
            | (have h9 := hno3 9 _ (by omega) (by omega) rfl; simpa [mAtS] using h9)
            | (have h9 := hno3 11 _ (by omega) (by omega) rfl; simpa [mAtS] using h9)
            | (have h9 := hno3 12 _ (by omega) (by omega) rfl; simpa [mAtS] using h9)
            | (have h9 := hno3 13 _ (by omega) (by omega) rfl; simpa [mAtS] using h9)
            | (have h9 := hno3 14 _ (by omega) (by omega) rfl; simpa [mAtS] using h9)
            | (have h9 := hno3 20 _ (by omega) (by omega) rfl; simpa [mAtS] using h9)
  · exact ff_of hr (fun h => absurd h.2.1 (by assumption))
end
end
end Go.Px.Db
