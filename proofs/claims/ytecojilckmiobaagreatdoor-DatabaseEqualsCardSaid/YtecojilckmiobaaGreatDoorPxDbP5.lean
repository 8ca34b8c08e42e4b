/- Shows a part of the walk of the law; its conditions stand ahead of each theorem. -/
import Derived.Test.YtecojilckmiobaaGreatDoorPxDbP4
set_option linter.unusedVariables false
set_option maxRecDepth 100000
set_option maxHeartbeats 4000000
namespace Go.Px.Db
open Go Go.Px Go.Proofs
noncomputable section
section
variable {mm : Int} {E : Env (tab mm)} {a b : Int} {n0 s0 n1 s1 n2 s2 n3 s3 n4 s4 n5 s5 n6 s6 cl de ex lo up ti fo ca ig st co me cf : List PV}
/-- What Small asks. -/
def SmallDb (n0 s0 n1 s1 n2 s2 n3 s3 n4 s4 n5 s5 n6 s6 cl de ex lo up ti fo ca ig st co me cf : List PV) : Prop := cl.length ≤ 16 ∧ (∀ j : Int, 0 ≤ j → j < 7 → (nAt j n0 n1 n2 n3 n4 n5 n6).length ≤ 30 ∧ (sAt j s0 s1 s2 s3 s4 s5 s6).length ≤ 16) ∧ (∀ j : Int, 0 ≤ j → j < 6 → (tAt j ex ca ig st co me).length ≤ 12) ∧
  (∀ (j : Int) s, 0 ≤ j → j < 21 → filesL[j.toNat]? = some (.str s) → (mAtS s de lo up ti fo cf).length ≤ 20 ∧ ∀ x ∈ mAtS s de lo up ti fo cf, MSmall x)
theorem a11 (hP : E.P = Tryz.prog) (hT : PowOk E) (q_de : Mps de) (q_lo : Mps lo) (q_up : Mps up) (q_ti : Mps ti) (q_fo : Mps fo) (q_cf : Mps cf) {r : Bool} (hr : r = true ↔ SmallDb n0 s0 n1 s1 n2 s2 n3 s3 n4 s4 n5 s5 n6 s6 cl de ex lo up ti fo ca ig st co me cf) : AF E 11 [.agg [.int .i64 a, .int .i64 b, .sl n0, .sl s0, .sl n1, .sl s1, .sl n2, .sl s2, .sl n3, .sl s3, .sl n4, .sl s4, .sl n5, .sl s5, .sl n6, .sl s6, .sl cl, .sl de, .sl ex, .sl lo, .sl up, .sl ti, .sl fo, .sl ca, .sl ig, .sl st, .sl co, .sl me, .sl cf]] (.bool r) := by
  obtain ⟨n, hn, hn0⟩ := lenI_of cl
  have hcl : n ≤ 16 ↔ cl.length ≤ 16 := by omega
  apply AF_of_AC
  refine AC_of_vc (K := keepT 11) (fn := Tryz.f11) (by rw [hP]; exact Tryz.func11) rfl rfl rfl rfl rfl ?_
  cbv <;> repeat' (first
    | (refine ex_strne ?_ ?_ <;> intro _ <;> first | (exfalso; omega) | cbv)
    | (refine ex_if ?_ ?_ <;> intro _ <;> first | (exfalso; omega) | cbv)
    | (refine line_go 10 ?_; cbv)
    | (refine go_nil ?_ ?_ <;> (try intro _) <;> cbv)
    | (refine ex_bool ?_; cbv)
    | (refine go_tt ?_; cbv)
    | (refine go_ff ?_; cbv)
    | (refine go_tf ?_; cbv)
    | (refine go_ft ?_; cbv)
    | (refine ex_len (by assumption) ?_; cbv)
    | (refine ex_slen (by assumption) ?_; cbv)
    | (refine ex_lenv (fun _ _ _ => ?_); cbv)
    | (refine ex_slenv (fun _ _ _ => ?_); cbv)
    | (refine ex_wrap (by omega) (fun _ _ => ?_); cbv)
    | (refine ix_span (by assumption) (by assumption) (by omega) (by omega) (fun _ _ _ _ => ?_); cbv)
    | (refine ix_rng (by assumption) (by assumption) (by omega) (by omega) (fun _ _ _ => ?_); cbv)
    | (refine ix_str (by assumption) (by assumption) (by omega) (by omega) (fun _ _ _ => ?_); cbv)
    | (refine ix_map (by assumption) (by assumption) (by omega) (by omega) (fun _ _ _ _ _ _ _ => ?_); cbv)
    | (refine ix_int (by assumption) (by assumption) (by omega) (by omega) (fun _ _ _ => ?_); cbv)
    | (refine ex_neq3 (fun _ => ?_) (fun _ _ _ => ?_) <;> cbv)
    | (refine ex_neq2 (fun _ => ?_) (fun _ _ => ?_) <;> cbv)
    | (refine ob_go (by omega) ?_; cbv)
    | (refine ob_go (by kernel_rfl) ?_; cbv)
    | fail)
  · exact ff_of hr (fun h => absurd (hcl.2 h.1) (by omega))
  · refine LoopVC.runG (fun i : Int => ⟨[(1, .ptr 0 0), (3, .int .i64 i)], [some (.box [.int .i64 a, .int .i64 b, .sl n0, .sl s0, .sl n1, .sl s1, .sl n2, .sl s2, .sl n3, .sl s3, .sl n4, .sl s4, .sl n5, .sl s5, .sl n6, .sl s6, .sl cl, .sl de, .sl ex, .sl lo, .sl up, .sl ti, .sl fo, .sl ca, .sl ig, .sl st, .sl co, .sl me, .sl cf] false)]⟩) (fun i => 0 ≤ i ∧ i ≤ 7 ∧ ∀ j : Int, 0 ≤ j → j < i → (nAt j n0 n1 n2 n3 n4 n5 n6).length ≤ 30 ∧ (sAt j s0 s1 s2 s3 s4 s5 s6).length ≤ 16) (fun i => (7 - i).toNat) 0 _ ⟨by omega, by omega, fun j h1 h2 => by omega⟩ rfl rfl ?_
    rintro Q mu S' μ' I' hQ hS hμ hI i ⟨h0, hi, hno⟩ hmu
    cbv <;> repeat' (first
      | (refine go_agg2 (a26 hP i) (fun X Y hX hY => ?_); cbv)
      | (refine ex_strne ?_ ?_ <;> intro _ <;> first | (exfalso; omega) | cbv)
      | (refine ex_if ?_ ?_ <;> intro _ <;> first | (exfalso; omega) | cbv)
      | (refine line_go 10 ?_; cbv)
      | (refine go_nil ?_ ?_ <;> (try intro _) <;> cbv)
      | (refine ex_bool ?_; cbv)
      | (refine go_tt ?_; cbv)
      | (refine go_ff ?_; cbv)
      | (refine go_tf ?_; cbv)
      | (refine go_ft ?_; cbv)
      | (refine ex_len (by assumption) ?_; cbv)
      | (refine ex_slen (by assumption) ?_; cbv)
      | (refine ex_lenv (fun _ _ _ => ?_); cbv)
      | (refine ex_slenv (fun _ _ _ => ?_); cbv)
      | (refine ex_wrap (by omega) (fun _ _ => ?_); cbv)
      | (refine ix_span (by assumption) (by assumption) (by omega) (by omega) (fun _ _ _ _ => ?_); cbv)
      | (refine ix_rng (by assumption) (by assumption) (by omega) (by omega) (fun _ _ _ => ?_); cbv)
      | (refine ix_str (by assumption) (by assumption) (by omega) (by omega) (fun _ _ _ => ?_); cbv)
      | (refine ix_map (by assumption) (by assumption) (by omega) (by omega) (fun _ _ _ _ _ _ _ => ?_); cbv)
      | (refine ix_int (by assumption) (by assumption) (by omega) (by omega) (fun _ _ _ => ?_); cbv)
      | (refine ex_neq3 (fun _ => ?_) (fun _ _ _ => ?_) <;> cbv)
      | (refine ex_neq2 (fun _ => ?_) (fun _ _ => ?_) <;> cbv)
      | (refine ob_go (by omega) ?_; cbv)
      | (refine ob_go (by kernel_rfl) ?_; cbv)
      | fail)
    · subst hQ
      cbv
      rename_i m hm _ h
      have hm' : (X.length : Int) = m := hm
      exact ff_of hr (fun h' => by
        have h2 := (h'.2.1 i h0 (by omega)).1
        rw [hX] at h2
        omega)
    · subst hQ
      cbv
      rename_i m hm _ h
      have hm' : (Y.length : Int) = m := hm
      exact ff_of hr (fun h' => by
        have h2 := (h'.2.1 i h0 (by omega)).2
        rw [hY] at h2
        omega)
    · rename_i m1 hm1 _ _ m2 hm2 _ _ _ _
      have h1 : (X.length : Int) = m1 := hm1
      have h2 : (Y.length : Int) = m2 := hm2
      subst hQ hS hμ hI
      subst_vars
      refine ⟨i + 1, by show (7 - (i + 1)).toNat < (7 - i).toNat; omega, ⟨by omega, by omega, fun j hj0 hj => ?_⟩, rfl, rfl, rfl, rfl, rfl⟩
      by_cases hji : j < i
      · exact hno j hj0 hji
      · have e : j = i := by omega
        subst e
        exact ⟨by omega, by omega⟩
    · subst hQ
      have h7 : i = 7 := by omega
      subst h7
      cbv <;> repeat' (first
        | (refine ex_strne ?_ ?_ <;> intro _ <;> first | (exfalso; omega) | cbv)
        | (refine ex_if ?_ ?_ <;> intro _ <;> first | (exfalso; omega) | cbv)
        | (refine line_go 10 ?_; cbv)
        | (refine go_nil ?_ ?_ <;> (try intro _) <;> cbv)
        | (refine ex_bool ?_; cbv)
        | (refine go_tt ?_; cbv)
        | (refine go_ff ?_; cbv)
        | (refine go_tf ?_; cbv)
        | (refine go_ft ?_; cbv)
        | (refine ex_len (by assumption) ?_; cbv)
        | (refine ex_slen (by assumption) ?_; cbv)
        | (refine ex_lenv (fun _ _ _ => ?_); cbv)
        | (refine ex_slenv (fun _ _ _ => ?_); cbv)
        | (refine ex_wrap (by omega) (fun _ _ => ?_); cbv)
        | (refine ix_span (by assumption) (by assumption) (by omega) (by omega) (fun _ _ _ _ => ?_); cbv)
        | (refine ix_rng (by assumption) (by assumption) (by omega) (by omega) (fun _ _ _ => ?_); cbv)
        | (refine ix_str (by assumption) (by assumption) (by omega) (by omega) (fun _ _ _ => ?_); cbv)
        | (refine ix_map (by assumption) (by assumption) (by omega) (by omega) (fun _ _ _ _ _ _ _ => ?_); cbv)
        | (refine ix_int (by assumption) (by assumption) (by omega) (by omega) (fun _ _ _ => ?_); cbv)
        | (refine ex_neq3 (fun _ => ?_) (fun _ _ _ => ?_) <;> cbv)
        | (refine ex_neq2 (fun _ => ?_) (fun _ _ => ?_) <;> cbv)
        | (refine ob_go (by omega) ?_; cbv)
        | (refine ob_go (by kernel_rfl) ?_; cbv)
        | fail)
      refine LoopVC.runG (fun i : Int => ⟨[(1, .ptr 0 0), (5, .int .i64 i)], [some (.box [.int .i64 a, .int .i64 b, .sl n0, .sl s0, .sl n1, .sl s1, .sl n2, .sl s2, .sl n3, .sl s3, .sl n4, .sl s4, .sl n5, .sl s5, .sl n6, .sl s6, .sl cl, .sl de, .sl ex, .sl lo, .sl up, .sl ti, .sl fo, .sl ca, .sl ig, .sl st, .sl co, .sl me, .sl cf] false)]⟩) (fun i => 0 ≤ i ∧ i ≤ 6 ∧ ∀ j : Int, 0 ≤ j → j < i → (tAt j ex ca ig st co me).length ≤ 12) (fun i => (6 - i).toNat) 0 _ ⟨by omega, by omega, fun j h1 h2 => by omega⟩ rfl rfl ?_
      rintro Q mu S' μ' I' hQ hS hμ hI i ⟨h0, hi, hno2⟩ hmu
      cbv <;> repeat' (first
        | (refine go_agg1 (a29 hP i) (fun X hX => ?_); cbv)
        | (refine go_if (fun r hr => a34 hP hr) ?_ ?_ <;> intro _ <;> cbv)
        | (refine ex_strne ?_ ?_ <;> intro _ <;> first | (exfalso; omega) | cbv)
        | (refine ex_if ?_ ?_ <;> intro _ <;> first | (exfalso; omega) | cbv)
        | (refine line_go 10 ?_; cbv)
        | (refine go_nil ?_ ?_ <;> (try intro _) <;> cbv)
        | (refine ex_bool ?_; cbv)
        | (refine go_tt ?_; cbv)
        | (refine go_ff ?_; cbv)
        | (refine go_tf ?_; cbv)
        | (refine go_ft ?_; cbv)
        | (refine ex_len (by assumption) ?_; cbv)
        | (refine ex_slen (by assumption) ?_; cbv)
        | (refine ex_lenv (fun _ _ _ => ?_); cbv)
        | (refine ex_slenv (fun _ _ _ => ?_); cbv)
        | (refine ex_wrap (by omega) (fun _ _ => ?_); cbv)
        | (refine ix_span (by assumption) (by assumption) (by omega) (by omega) (fun _ _ _ _ => ?_); cbv)
        | (refine ix_rng (by assumption) (by assumption) (by omega) (by omega) (fun _ _ _ => ?_); cbv)
        | (refine ix_str (by assumption) (by assumption) (by omega) (by omega) (fun _ _ _ => ?_); cbv)
        | (refine ix_map (by assumption) (by assumption) (by omega) (by omega) (fun _ _ _ _ _ _ _ => ?_); cbv)
        | (refine ix_int (by assumption) (by assumption) (by omega) (by omega) (fun _ _ _ => ?_); cbv)
        | (refine ex_neq3 (fun _ => ?_) (fun _ _ _ => ?_) <;> cbv)
        | (refine ex_neq2 (fun _ => ?_) (fun _ _ => ?_) <;> cbv)
        | (refine ob_go (by omega) ?_; cbv)
        | (refine ob_go (by kernel_rfl) ?_; cbv)
        | fail)
      · rename_i h1 _ _
        subst hQ hS hμ hI
        subst_vars
        refine ⟨i + 1, by show (6 - (i + 1)).toNat < (6 - i).toNat; omega, ⟨by omega, by omega, fun j hj0 hj => ?_⟩, rfl, rfl, rfl, rfl, rfl⟩
        by_cases hji : j < i
        · exact hno2 j hj0 hji
        · have e : j = i := by omega
          subst e
          exact h1
      · subst hQ
        cbv
        rename_i _ h1
        exact ff_of hr (fun h' => h1 (by rw [← hX]; exact h'.2.2.1 i h0 (by omega)))
      · subst hQ
        have h7 : i = 6 := by omega
        subst h7
        cbv <;> repeat' (first
          | (refine ex_strne ?_ ?_ <;> intro _ <;> first | (exfalso; omega) | cbv)
          | (refine ex_if ?_ ?_ <;> intro _ <;> first | (exfalso; omega) | cbv)
          | (refine line_go 10 ?_; cbv)
          | (refine go_nil ?_ ?_ <;> (try intro _) <;> cbv)
          | (refine ex_bool ?_; cbv)
          | (refine go_tt ?_; cbv)
          | (refine go_ff ?_; cbv)
          | (refine go_tf ?_; cbv)
          | (refine go_ft ?_; cbv)
          | (refine ex_len (by assumption) ?_; cbv)
          | (refine ex_slen (by assumption) ?_; cbv)
          | (refine ex_lenv (fun _ _ _ => ?_); cbv)
          | (refine ex_slenv (fun _ _ _ => ?_); cbv)
          | (refine ex_wrap (by omega) (fun _ _ => ?_); cbv)
          | (refine ix_span (by assumption) (by assumption) (by omega) (by omega) (fun _ _ _ _ => ?_); cbv)
          | (refine ix_rng (by assumption) (by assumption) (by omega) (by omega) (fun _ _ _ => ?_); cbv)
          | (refine ix_str (by assumption) (by assumption) (by omega) (by omega) (fun _ _ _ => ?_); cbv)
          | (refine ix_map (by assumption) (by assumption) (by omega) (by omega) (fun _ _ _ _ _ _ _ => ?_); cbv)
          | (refine ix_int (by assumption) (by assumption) (by omega) (by omega) (fun _ _ _ => ?_); cbv)
          | (refine ex_neq3 (fun _ => ?_) (fun _ _ _ => ?_) <;> cbv)
          | (refine ex_neq2 (fun _ => ?_) (fun _ _ => ?_) <;> cbv)
          | (refine ob_go (by omega) ?_; cbv)
          | (refine ob_go (by kernel_rfl) ?_; cbv)
          | fail)
        refine LoopVC.runG (fun i : Int => ⟨[(1, .ptr 0 0), (6, .int .i64 i)], [some (.box [.int .i64 a, .int .i64 b, .sl n0, .sl s0, .sl n1, .sl s1, .sl n2, .sl s2, .sl n3, .sl s3, .sl n4, .sl s4, .sl n5, .sl s5, .sl n6, .sl s6, .sl cl, .sl de, .sl ex, .sl lo, .sl up, .sl ti, .sl fo, .sl ca, .sl ig, .sl st, .sl co, .sl me, .sl cf] false)]⟩) (fun i => 0 ≤ i ∧ i ≤ 21 ∧ ∀ (j : Int) s, 0 ≤ j → j < i → filesL[j.toNat]? = some (.str s) → (mAtS s de lo up ti fo cf).length ≤ 20 ∧ ∀ x ∈ mAtS s de lo up ti fo cf, MSmall x) (fun i => (21 - i).toNat) 0 _ ⟨by omega, by omega, fun j s h1 h2 => by omega⟩ rfl rfl ?_
        rintro Q mu S' μ' I' hQ hS hμ hI i ⟨h0, hi, hno3⟩ hmu
        cbv <;> repeat' (first
          | (refine go_val (a32 hP hT) ?_; cbv)
          | (refine ⟨21, rfl, ?_⟩; cbv)
          | (obtain ⟨s, hs⟩ := at_file i (by omega) (by omega); refine go_sl (a36 hP hT i (by omega) (by omega) s hs _ rfl) (fun X hX => ?_); cbv)
          | (refine go_if (fun r hr => a35 hP (hX ▸ mAtS_mps s q_de q_lo q_up q_ti q_fo q_cf) hr) ?_ ?_ <;> intro _ <;> cbv)
          | (refine ex_strne ?_ ?_ <;> intro _ <;> first | (exfalso; omega) | cbv)
          | (refine ex_if ?_ ?_ <;> intro _ <;> first | (exfalso; omega) | cbv)
          | (refine line_go 10 ?_; cbv)
          | (refine go_nil ?_ ?_ <;> (try intro _) <;> cbv)
          | (refine ex_bool ?_; cbv)
          | (refine go_tt ?_; cbv)
          | (refine go_ff ?_; cbv)
          | (refine go_tf ?_; cbv)
          | (refine go_ft ?_; cbv)
          | (refine ex_len (by assumption) ?_; cbv)
          | (refine ex_slen (by assumption) ?_; cbv)
          | (refine ex_lenv (fun _ _ _ => ?_); cbv)
          | (refine ex_slenv (fun _ _ _ => ?_); cbv)
          | (refine ex_wrap (by omega) (fun _ _ => ?_); cbv)
          | (refine ix_span (by assumption) (by assumption) (by omega) (by omega) (fun _ _ _ _ => ?_); cbv)
          | (refine ix_rng (by assumption) (by assumption) (by omega) (by omega) (fun _ _ _ => ?_); cbv)
          | (refine ix_str (by assumption) (by assumption) (by omega) (by omega) (fun _ _ _ => ?_); cbv)
          | (refine ix_map (by assumption) (by assumption) (by omega) (by omega) (fun _ _ _ _ _ _ _ => ?_); cbv)
          | (refine ix_int (by assumption) (by assumption) (by omega) (by omega) (fun _ _ _ => ?_); cbv)
          | (refine ex_neq3 (fun _ => ?_) (fun _ _ _ => ?_) <;> cbv)
          | (refine ex_neq2 (fun _ => ?_) (fun _ _ => ?_) <;> cbv)
          | (refine ob_go (by omega) ?_; cbv)
          | (refine ob_go (by kernel_rfl) ?_; cbv)
          | fail)
        · rename_i h1 _ _
          subst hQ hS hμ hI
          subst_vars
          refine ⟨i + 1, by show (21 - (i + 1)).toNat < (21 - i).toNat; omega, ⟨by omega, by omega, fun j s' hj0 hj hs' => ?_⟩, rfl, rfl, rfl, rfl, rfl⟩
          by_cases hji : j < i
          · exact hno3 j s' hj0 hji hs'
          · have e : j = i := by omega
            subst e
            rw [hs] at hs'
            cases hs'
            exact h1
        · subst hQ
          cbv
          rename_i _ h1
          exact ff_of hr (fun h' => h1 (by rw [← hX]; exact h'.2.2.2 i s h0 (by omega) hs))
        · subst hQ
          have h7 : i = 21 := by omega
          subst h7
          cbv
          exact tt_of hr ⟨hcl.1 (by omega), hno, hno2, hno3⟩

end
end
end Go.Px.Db

