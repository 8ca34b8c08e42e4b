/- Shows a part of the walk of the law; its conditions stand ahead of each theorem. -/
import Derived.Test.YtecojilckmiobaaGreatDoorPxDbSp
set_option linter.unusedVariables false
set_option maxRecDepth 100000
set_option maxHeartbeats 4000000
namespace Go.Px.Db
open Go Go.Px Go.Proofs
section
variable {mm : Int} {E : Env (tab mm)}

theorem a40 (hP : E.P = Tryz.prog) {xs ys : List PV} (hx : Spans xs) (hy : Spans ys) (lx : Len xs) (ly : Len ys) {r : Bool} (hr : r = true ↔ xs = ys) : AF E 40 [.sl xs, .sl ys] (.bool r) := by
  obtain ⟨n, hn, n0⟩ := lenI_of xs
  obtain ⟨m, hm, m0⟩ := lenI_of ys
  have ln : n ≤ 9223372036854775807 := by unfold Len at lx; omega
  apply AF_of_AC
  refine AC_of_vc (K := keepT 40) (fn := Tryz.f40) (by rw [hP]; exact Tryz.func40) rfl rfl rfl rfl rfl ?_
  cbv <;> repeat' (first
    | (refine ex_strne ?_ ?_ <;> intro _ <;> first | (exfalso; omega) | cbv)
    | (refine ex_if ?_ ?_ <;> intro _ <;> first | (exfalso; omega) | cbv)
    | (refine line_go 10 ?_; cbv)
    | (refine go_nil ?_ ?_ <;> (try intro _) <;> cbv)
    | (refine ex_bool ?_; cbv)
    | (refine go_tt ?_; cbv)
    | (refine go_ff ?_; cbv)
    | (refine go_tf ?_; cbv)
    | (refine go_ft ?_; cbv)
    | (refine ex_len (by assumption) ?_; cbv)
    | (refine ex_slen (by assumption) ?_; cbv)
    | (refine ex_lenv (fun _ _ _ => ?_); cbv)
    | (refine ex_slenv (fun _ _ _ => ?_); cbv)
    | (refine ex_wrap (by omega) (fun _ _ => ?_); cbv)
    | (refine ix_span (by assumption) (by assumption) (by omega) (by omega) (fun _ _ _ _ => ?_); cbv)
    | (refine ix_rng (by assumption) (by assumption) (by omega) (by omega) (fun _ _ _ => ?_); cbv)
    | (refine ix_str (by assumption) (by assumption) (by omega) (by omega) (fun _ _ _ => ?_); cbv)
    | (refine ix_map (by assumption) (by assumption) (by omega) (by omega) (fun _ _ _ _ _ _ _ => ?_); cbv)
    | (refine ix_int (by assumption) (by assumption) (by omega) (by omega) (fun _ _ _ => ?_); cbv)
    | (refine ex_neq3 (fun _ => ?_) (fun _ _ _ => ?_) <;> cbv)
    | (refine ex_neq2 (fun _ => ?_) (fun _ _ => ?_) <;> cbv)
    | (refine ob_go (by omega) ?_; cbv)
    | (refine ob_go (by kernel_rfl) ?_; cbv)
    | fail)
  · exact ff_of hr (ne_len hn hm (by assumption))
  · have hnm : n = m := by assumption
    subst hnm
    refine LoopVC.run (fun i : Int => ⟨[(0, .sl xs), (1, .sl ys), (5, .int .i64 i)], []⟩) (fun i => 0 ≤ i ∧ i ≤ n ∧ ∀ j, j < i.toNat → xs[j]? = ys[j]?) (fun i => (n - i).toNat) 0 _ ⟨by omega, by omega, fun j hj => by simp at hj⟩ rfl rfl ?_
    rintro Q mu S' μ' I' hQ hS hμ hI i ⟨h0, hi, hno⟩ hmu
    cbv <;> repeat' (first
      | (refine ex_strne ?_ ?_ <;> intro _ <;> first | (exfalso; omega) | cbv)
      | (refine ex_if ?_ ?_ <;> intro _ <;> first | (exfalso; omega) | cbv)
      | (refine line_go 10 ?_; cbv)
      | (refine go_nil ?_ ?_ <;> (try intro _) <;> cbv)
      | (refine ex_bool ?_; cbv)
      | (refine go_tt ?_; cbv)
      | (refine go_ff ?_; cbv)
      | (refine go_tf ?_; cbv)
      | (refine go_ft ?_; cbv)
      | (refine ex_len (by assumption) ?_; cbv)
      | (refine ex_slen (by assumption) ?_; cbv)
      | (refine ex_lenv (fun _ _ _ => ?_); cbv)
      | (refine ex_slenv (fun _ _ _ => ?_); cbv)
      | (refine ex_wrap (by omega) (fun _ _ => ?_); cbv)
      | (refine ix_span (by assumption) (by assumption) (by omega) (by omega) (fun _ _ _ _ => ?_); cbv)
      | (refine ix_rng (by assumption) (by assumption) (by omega) (by omega) (fun _ _ _ => ?_); cbv)
      | (refine ix_str (by assumption) (by assumption) (by omega) (by omega) (fun _ _ _ => ?_); cbv)
      | (refine ix_map (by assumption) (by assumption) (by omega) (by omega) (fun _ _ _ _ _ _ _ => ?_); cbv)
      | (refine ix_int (by assumption) (by assumption) (by omega) (by omega) (fun _ _ _ => ?_); cbv)
      | (refine ex_neq3 (fun _ => ?_) (fun _ _ _ => ?_) <;> cbv)
      | (refine ex_neq2 (fun _ => ?_) (fun _ _ => ?_) <;> cbv)
      | (refine ob_go (by omega) ?_; cbv)
      | (refine ob_go (by kernel_rfl) ?_; cbv)
      | fail)
    · subst hQ
      cbv
      exact ff_of hr (by rintro rfl; simp_all)
    · subst hQ hS hμ hI
      subst_vars
      exact ⟨i + 1, by show (_ - (i + 1)).toNat < (_ - i).toNat; omega, ⟨by omega, by omega, at_step h0 hno (Eq.trans (by assumption) (Eq.symm (by assumption)))⟩, rfl, rfl⟩
    · subst hQ
      cbv
      exact tt_of hr (eq_of_at hn hm (by have : i = n := (by omega); rw [← this]; exact hno))

theorem a27 (hP : E.P = Tryz.prog) {xs ys : List PV} (hx : Rngs xs) (hy : Rngs ys) (lx : Len xs) (ly : Len ys) {r : Bool} (hr : r = true ↔ xs = ys) : AF E 27 [.agg [.sl xs], .agg [.sl ys]] (.bool r) := by
  obtain ⟨n, hn, n0⟩ := lenI_of xs
  obtain ⟨m, hm, m0⟩ := lenI_of ys
  have ln : n ≤ 9223372036854775807 := by unfold Len at lx; omega
  apply AF_of_AC
  refine AC_of_vc (K := keepT 27) (fn := Tryz.f27) (by rw [hP]; exact Tryz.func27) rfl rfl rfl rfl rfl ?_
  cbv <;> repeat' (first
    | (refine ex_strne ?_ ?_ <;> intro _ <;> first | (exfalso; omega) | cbv)
    | (refine ex_if ?_ ?_ <;> intro _ <;> first | (exfalso; omega) | cbv)
    | (refine line_go 10 ?_; cbv)
    | (refine go_nil ?_ ?_ <;> (try intro _) <;> cbv)
    | (refine ex_bool ?_; cbv)
    | (refine go_tt ?_; cbv)
    | (refine go_ff ?_; cbv)
    | (refine go_tf ?_; cbv)
    | (refine go_ft ?_; cbv)
    | (refine ex_len (by assumption) ?_; cbv)
    | (refine ex_slen (by assumption) ?_; cbv)
    | (refine ex_lenv (fun _ _ _ => ?_); cbv)
    | (refine ex_slenv (fun _ _ _ => ?_); cbv)
    | (refine ex_wrap (by omega) (fun _ _ => ?_); cbv)
    | (refine ix_span (by assumption) (by assumption) (by omega) (by omega) (fun _ _ _ _ => ?_); cbv)
    | (refine ix_rng (by assumption) (by assumption) (by omega) (by omega) (fun _ _ _ => ?_); cbv)
    | (refine ix_str (by assumption) (by assumption) (by omega) (by omega) (fun _ _ _ => ?_); cbv)
    | (refine ix_map (by assumption) (by assumption) (by omega) (by omega) (fun _ _ _ _ _ _ _ => ?_); cbv)
    | (refine ix_int (by assumption) (by assumption) (by omega) (by omega) (fun _ _ _ => ?_); cbv)
    | (refine ex_neq3 (fun _ => ?_) (fun _ _ _ => ?_) <;> cbv)
    | (refine ex_neq2 (fun _ => ?_) (fun _ _ => ?_) <;> cbv)
    | (refine ob_go (by omega) ?_; cbv)
    | (refine ob_go (by kernel_rfl) ?_; cbv)
    | fail)
  · exact ff_of hr (ne_len hn hm (by assumption))
  · have hnm : n = m := by assumption
    subst hnm
    refine LoopVC.run (fun i : Int => ⟨[(2, .ptr 0 0), (3, .ptr 1 0), (5, .int .i64 i)], [some (.box [.sl xs] false), some (.box [.sl ys] false)]⟩) (fun i => 0 ≤ i ∧ i ≤ n ∧ ∀ j, j < i.toNat → xs[j]? = ys[j]?) (fun i => (n - i).toNat) 0 _ ⟨by omega, by omega, fun j hj => by simp at hj⟩ rfl rfl ?_
    rintro Q mu S' μ' I' hQ hS hμ hI i ⟨h0, hi, hno⟩ hmu
    cbv <;> repeat' (first
      | (refine ex_strne ?_ ?_ <;> intro _ <;> first | (exfalso; omega) | cbv)
      | (refine ex_if ?_ ?_ <;> intro _ <;> first | (exfalso; omega) | cbv)
      | (refine line_go 10 ?_; cbv)
      | (refine go_nil ?_ ?_ <;> (try intro _) <;> cbv)
      | (refine ex_bool ?_; cbv)
      | (refine go_tt ?_; cbv)
      | (refine go_ff ?_; cbv)
      | (refine go_tf ?_; cbv)
      | (refine go_ft ?_; cbv)
      | (refine ex_len (by assumption) ?_; cbv)
      | (refine ex_slen (by assumption) ?_; cbv)
      | (refine ex_lenv (fun _ _ _ => ?_); cbv)
      | (refine ex_slenv (fun _ _ _ => ?_); cbv)
      | (refine ex_wrap (by omega) (fun _ _ => ?_); cbv)
      | (refine ix_span (by assumption) (by assumption) (by omega) (by omega) (fun _ _ _ _ => ?_); cbv)
      | (refine ix_rng (by assumption) (by assumption) (by omega) (by omega) (fun _ _ _ => ?_); cbv)
      | (refine ix_str (by assumption) (by assumption) (by omega) (by omega) (fun _ _ _ => ?_); cbv)
      | (refine ix_map (by assumption) (by assumption) (by omega) (by omega) (fun _ _ _ _ _ _ _ => ?_); cbv)
      | (refine ix_int (by assumption) (by assumption) (by omega) (by omega) (fun _ _ _ => ?_); cbv)
      | (refine ex_neq3 (fun _ => ?_) (fun _ _ _ => ?_) <;> cbv)
      | (refine ex_neq2 (fun _ => ?_) (fun _ _ => ?_) <;> cbv)
      | (refine ob_go (by omega) ?_; cbv)
      | (refine ob_go (by kernel_rfl) ?_; cbv)
      | fail)
    · subst hQ
      cbv
      exact ff_of hr (by rintro rfl; simp_all)
    · subst hQ hS hμ hI
      subst_vars
      exact ⟨i + 1, by show (_ - (i + 1)).toNat < (_ - i).toNat; omega, ⟨by omega, by omega, at_step h0 hno (Eq.trans (by assumption) (Eq.symm (by assumption)))⟩, rfl, rfl⟩
    · subst hQ
      cbv
      exact tt_of hr (eq_of_at hn hm (by have : i = n := (by omega); rw [← this]; exact hno))

theorem a30 (hP : E.P = Tryz.prog) {xs ys : List PV} (hx : Strs xs) (hy : Strs ys) (lx : Len xs) (ly : Len ys) {r : Bool} (hr : r = true ↔ xs = ys) : AF E 30 [.sl xs, .sl ys] (.bool r) := by
  obtain ⟨n, hn, n0⟩ := lenI_of xs
  obtain ⟨m, hm, m0⟩ := lenI_of ys
  have ln : n ≤ 9223372036854775807 := by unfold Len at lx; omega
  apply AF_of_AC
  refine AC_of_vc (K := keepT 30) (fn := Tryz.f30) (by rw [hP]; exact Tryz.func30) rfl rfl rfl rfl rfl ?_
  cbv <;> repeat' (first
    | (refine ex_strne ?_ ?_ <;> intro _ <;> first | (exfalso; omega) | cbv)
    | (refine ex_if ?_ ?_ <;> intro _ <;> first | (exfalso; omega) | cbv)
    | (refine line_go 10 ?_; cbv)
    | (refine go_nil ?_ ?_ <;> (try intro _) <;> cbv)
    | (refine ex_bool ?_; cbv)
    | (refine go_tt ?_; cbv)
    | (refine go_ff ?_; cbv)
    | (refine go_tf ?_; cbv)
    | (refine go_ft ?_; cbv)
    | (refine ex_len (by assumption) ?_; cbv)
    | (refine ex_slen (by assumption) ?_; cbv)
    | (refine ex_lenv (fun _ _ _ => ?_); cbv)
    | (refine ex_slenv (fun _ _ _ => ?_); cbv)
    | (refine ex_wrap (by omega) (fun _ _ => ?_); cbv)
    | (refine ix_span (by assumption) (by assumption) (by omega) (by omega) (fun _ _ _ _ => ?_); cbv)
    | (refine ix_rng (by assumption) (by assumption) (by omega) (by omega) (fun _ _ _ => ?_); cbv)
    | (refine ix_str (by assumption) (by assumption) (by omega) (by omega) (fun _ _ _ => ?_); cbv)
    | (refine ix_map (by assumption) (by assumption) (by omega) (by omega) (fun _ _ _ _ _ _ _ => ?_); cbv)
    | (refine ix_int (by assumption) (by assumption) (by omega) (by omega) (fun _ _ _ => ?_); cbv)
    | (refine ex_neq3 (fun _ => ?_) (fun _ _ _ => ?_) <;> cbv)
    | (refine ex_neq2 (fun _ => ?_) (fun _ _ => ?_) <;> cbv)
    | (refine ob_go (by omega) ?_; cbv)
    | (refine ob_go (by kernel_rfl) ?_; cbv)
    | fail)
  · exact ff_of hr (ne_len hn hm (by assumption))
  · have hnm : n = m := by assumption
    subst hnm
    refine LoopVC.run (fun i : Int => ⟨[(0, .sl xs), (1, .sl ys), (5, .int .i64 i)], []⟩) (fun i => 0 ≤ i ∧ i ≤ n ∧ ∀ j, j < i.toNat → xs[j]? = ys[j]?) (fun i => (n - i).toNat) 0 _ ⟨by omega, by omega, fun j hj => by simp at hj⟩ rfl rfl ?_
    rintro Q mu S' μ' I' hQ hS hμ hI i ⟨h0, hi, hno⟩ hmu
    cbv <;> repeat' (first
      | (refine ex_strne ?_ ?_ <;> intro _ <;> first | (exfalso; omega) | cbv)
      | (refine ex_if ?_ ?_ <;> intro _ <;> first | (exfalso; omega) | cbv)
      | (refine line_go 10 ?_; cbv)
      | (refine go_nil ?_ ?_ <;> (try intro _) <;> cbv)
      | (refine ex_bool ?_; cbv)
      | (refine go_tt ?_; cbv)
      | (refine go_ff ?_; cbv)
      | (refine go_tf ?_; cbv)
      | (refine go_ft ?_; cbv)
      | (refine ex_len (by assumption) ?_; cbv)
      | (refine ex_slen (by assumption) ?_; cbv)
      | (refine ex_lenv (fun _ _ _ => ?_); cbv)
      | (refine ex_slenv (fun _ _ _ => ?_); cbv)
      | (refine ex_wrap (by omega) (fun _ _ => ?_); cbv)
      | (refine ix_span (by assumption) (by assumption) (by omega) (by omega) (fun _ _ _ _ => ?_); cbv)
      | (refine ix_rng (by assumption) (by assumption) (by omega) (by omega) (fun _ _ _ => ?_); cbv)
      | (refine ix_str (by assumption) (by assumption) (by omega) (by omega) (fun _ _ _ => ?_); cbv)
      | (refine ix_map (by assumption) (by assumption) (by omega) (by omega) (fun _ _ _ _ _ _ _ => ?_); cbv)
      | (refine ix_int (by assumption) (by assumption) (by omega) (by omega) (fun _ _ _ => ?_); cbv)
      | (refine ex_neq3 (fun _ => ?_) (fun _ _ _ => ?_) <;> cbv)
      | (refine ex_neq2 (fun _ => ?_) (fun _ _ => ?_) <;> cbv)
      | (refine ob_go (by omega) ?_; cbv)
      | (refine ob_go (by kernel_rfl) ?_; cbv)
      | fail)
    · subst hQ
      cbv
      exact ff_of hr (by rintro rfl; simp_all)
    · subst hQ hS hμ hI
      subst_vars
      exact ⟨i + 1, by show (_ - (i + 1)).toNat < (_ - i).toNat; omega, ⟨by omega, by omega, at_step h0 hno (Eq.trans (by assumption) (Eq.symm (by assumption)))⟩, rfl, rfl⟩
    · subst hQ
      cbv
      exact tt_of hr (eq_of_at hn hm (by have : i = n := (by omega); rw [← this]; exact hno))

theorem a34 (hP : E.P = Tryz.prog) {xs : List PV} {r : Bool} (hr : r = true ↔ xs.length ≤ 12) : AF E 34 [.agg [.sl xs]] (.bool r) := by
  obtain ⟨n, hn, n0⟩ := lenI_of xs
  have hr' : r = true ↔ n ≤ 12 := by rw [hr]; omega
  apply AF_of_AC
  refine AC_of_vc (K := keepT 34) (fn := Tryz.f34) (by rw [hP]; exact Tryz.func34) rfl rfl rfl rfl rfl ?_
  cbv <;> repeat' (first
    | (refine ex_strne ?_ ?_ <;> intro _ <;> first | (exfalso; omega) | cbv)
    | (refine ex_if ?_ ?_ <;> intro _ <;> first | (exfalso; omega) | cbv)
    | (refine line_go 10 ?_; cbv)
    | (refine go_nil ?_ ?_ <;> (try intro _) <;> cbv)
    | (refine ex_bool ?_; cbv)
    | (refine go_tt ?_; cbv)
    | (refine go_ff ?_; cbv)
    | (refine go_tf ?_; cbv)
    | (refine go_ft ?_; cbv)
    | (refine ex_len (by assumption) ?_; cbv)
    | (refine ex_slen (by assumption) ?_; cbv)
    | (refine ex_lenv (fun _ _ _ => ?_); cbv)
    | (refine ex_slenv (fun _ _ _ => ?_); cbv)
    | (refine ex_wrap (by omega) (fun _ _ => ?_); cbv)
    | (refine ix_span (by assumption) (by assumption) (by omega) (by omega) (fun _ _ _ _ => ?_); cbv)
    | (refine ix_rng (by assumption) (by assumption) (by omega) (by omega) (fun _ _ _ => ?_); cbv)
    | (refine ix_str (by assumption) (by assumption) (by omega) (by omega) (fun _ _ _ => ?_); cbv)
    | (refine ix_map (by assumption) (by assumption) (by omega) (by omega) (fun _ _ _ _ _ _ _ => ?_); cbv)
    | (refine ix_int (by assumption) (by assumption) (by omega) (by omega) (fun _ _ _ => ?_); cbv)
    | (refine ex_neq3 (fun _ => ?_) (fun _ _ _ => ?_) <;> cbv)
    | (refine ex_neq2 (fun _ => ?_) (fun _ _ => ?_) <;> cbv)
    | (refine ob_go (by omega) ?_; cbv)
    | (refine ob_go (by kernel_rfl) ?_; cbv)
    | fail)
  · exact tt_of hr' (by omega)
  · exact ff_of hr' (by omega)
theorem a35 (hP : E.P = Tryz.prog) {xs : List PV} (hx : Mps xs) {r : Bool} (hr : r = true ↔ xs.length ≤ 20 ∧ ∀ x ∈ xs, MSmall x) : AF E 35 [.sl xs] (.bool r) := by
  obtain ⟨n, hn, n0⟩ := lenI_of xs
  have hr' : r = true ↔ n ≤ 20 ∧ ∀ x ∈ xs, MSmall x := by rw [hr]; constructor <;> (rintro ⟨h1, h2⟩; exact ⟨by omega, h2⟩)
  apply AF_of_AC
  refine AC_of_vc (K := keepT 35) (fn := Tryz.f35) (by rw [hP]; exact Tryz.func35) rfl rfl rfl rfl rfl ?_
  cbv <;> repeat' (first
    | (refine ex_strne ?_ ?_ <;> intro _ <;> first | (exfalso; omega) | cbv)
    | (refine ex_if ?_ ?_ <;> intro _ <;> first | (exfalso; omega) | cbv)
    | (refine line_go 10 ?_; cbv)
    | (refine go_nil ?_ ?_ <;> (try intro _) <;> cbv)
    | (refine ex_bool ?_; cbv)
    | (refine go_tt ?_; cbv)
    | (refine go_ff ?_; cbv)
    | (refine go_tf ?_; cbv)
    | (refine go_ft ?_; cbv)
    | (refine ex_len (by assumption) ?_; cbv)
    | (refine ex_slen (by assumption) ?_; cbv)
    | (refine ex_lenv (fun _ _ _ => ?_); cbv)
    | (refine ex_slenv (fun _ _ _ => ?_); cbv)
    | (refine ex_wrap (by omega) (fun _ _ => ?_); cbv)
    | (refine ix_span (by assumption) (by assumption) (by omega) (by omega) (fun _ _ _ _ => ?_); cbv)
    | (refine ix_rng (by assumption) (by assumption) (by omega) (by omega) (fun _ _ _ => ?_); cbv)
    | (refine ix_str (by assumption) (by assumption) (by omega) (by omega) (fun _ _ _ => ?_); cbv)
    | (refine ix_map (by assumption) (by assumption) (by omega) (by omega) (fun _ _ _ _ _ _ _ => ?_); cbv)
    | (refine ix_int (by assumption) (by assumption) (by omega) (by omega) (fun _ _ _ => ?_); cbv)
    | (refine ex_neq3 (fun _ => ?_) (fun _ _ _ => ?_) <;> cbv)
    | (refine ex_neq2 (fun _ => ?_) (fun _ _ => ?_) <;> cbv)
    | (refine ob_go (by omega) ?_; cbv)
    | (refine ob_go (by kernel_rfl) ?_; cbv)
    | fail)
  refine LoopVC.run (fun i : Int => ⟨[(0, .sl xs), (3, .int .i64 i)], []⟩) (fun i => 0 ≤ i ∧ i ≤ n ∧ i ≤ 30 ∧ ∀ j, j < i.toNat → ∀ x, xs[j]? = some x → MSmall x) (fun i => (30 - i).toNat) 0 _ ⟨by omega, by omega, by omega, fun j hj => by simp at hj⟩ rfl rfl ?_
  rintro Q mu S' μ' I' hQ hS hμ hI i ⟨h0, hi, hj, hno⟩ hmu
  cbv <;> repeat' (first
    | (refine ex_strne ?_ ?_ <;> intro _ <;> first | (exfalso; omega) | cbv)
    | (refine ex_if ?_ ?_ <;> intro _ <;> first | (exfalso; omega) | cbv)
    | (refine line_go 10 ?_; cbv)
    | (refine go_nil ?_ ?_ <;> (try intro _) <;> cbv)
    | (refine ex_bool ?_; cbv)
    | (refine go_tt ?_; cbv)
    | (refine go_ff ?_; cbv)
    | (refine go_tf ?_; cbv)
    | (refine go_ft ?_; cbv)
    | (refine ex_len (by assumption) ?_; cbv)
    | (refine ex_slen (by assumption) ?_; cbv)
    | (refine ex_lenv (fun _ _ _ => ?_); cbv)
    | (refine ex_slenv (fun _ _ _ => ?_); cbv)
    | (refine ex_wrap (by omega) (fun _ _ => ?_); cbv)
    | (refine ix_span (by assumption) (by assumption) (by omega) (by omega) (fun _ _ _ _ => ?_); cbv)
    | (refine ix_rng (by assumption) (by assumption) (by omega) (by omega) (fun _ _ _ => ?_); cbv)
    | (refine ix_str (by assumption) (by assumption) (by omega) (by omega) (fun _ _ _ => ?_); cbv)
    | (refine ix_map (by assumption) (by assumption) (by omega) (by omega) (fun _ _ _ _ _ _ _ => ?_); cbv)
    | (refine ix_int (by assumption) (by assumption) (by omega) (by omega) (fun _ _ _ => ?_); cbv)
    | (refine ex_neq3 (fun _ => ?_) (fun _ _ _ => ?_) <;> cbv)
    | (refine ex_neq2 (fun _ => ?_) (fun _ _ => ?_) <;> cbv)
    | (refine ob_go (by omega) ?_; cbv)
    | (refine ob_go (by kernel_rfl) ?_; cbv)
    | fail)
  · subst hQ
    cbv
    rename_i f t g hat ht hl hg m hm h0 h
    have hm' : (t.length : Int) = m := hm
    refine ff_of hr' fun ⟨_, h2⟩ => ?_
    obtain ⟨_, _, _, e, h3, h4⟩ := h2 _ (mem_of_at hat)
    cases e
    omega
  · subst hQ
    cbv
    rename_i f t g hat ht hl hg m hm _ h
    have hm' : (g.length : Int) = m := hm
    refine ff_of hr' fun ⟨_, h2⟩ => ?_
    obtain ⟨_, _, _, e, h3, h4⟩ := h2 _ (mem_of_at hat)
    cases e
    omega
  · rename_i f t g hat _ _ _ m hm _ _ f' t' g' hat' _ _ _ m' hm' _ _ _ _
    have hm1 : (t.length : Int) = m := hm
    have hm2 : (g'.length : Int) = m' := hm'
    have he := hat.symm.trans hat'
    subst hQ hS hμ hI
    subst_vars
    refine ⟨i + 1, by show (_ - (i + 1)).toNat < (_ - i).toNat; omega, ⟨by omega, by omega, by omega, at_step (by omega) hno ?_⟩, rfl, rfl⟩
    intro x hx
    rw [hat] at hx
    cases hx
    cases he
    exact ⟨f, t, g, rfl, by omega, by omega⟩
  · subst hQ
    cbv <;> repeat' (first
      | (refine ex_strne ?_ ?_ <;> intro _ <;> first | (exfalso; omega) | cbv)
      | (refine ex_if ?_ ?_ <;> intro _ <;> first | (exfalso; omega) | cbv)
      | (refine line_go 10 ?_; cbv)
      | (refine go_nil ?_ ?_ <;> (try intro _) <;> cbv)
      | (refine ex_bool ?_; cbv)
      | (refine go_tt ?_; cbv)
      | (refine go_ff ?_; cbv)
      | (refine go_tf ?_; cbv)
      | (refine go_ft ?_; cbv)
      | (refine ex_len (by assumption) ?_; cbv)
      | (refine ex_slen (by assumption) ?_; cbv)
      | (refine ex_lenv (fun _ _ _ => ?_); cbv)
      | (refine ex_slenv (fun _ _ _ => ?_); cbv)
      | (refine ex_wrap (by omega) (fun _ _ => ?_); cbv)
      | (refine ix_span (by assumption) (by assumption) (by omega) (by omega) (fun _ _ _ _ => ?_); cbv)
      | (refine ix_rng (by assumption) (by assumption) (by omega) (by omega) (fun _ _ _ => ?_); cbv)
      | (refine ix_str (by assumption) (by assumption) (by omega) (by omega) (fun _ _ _ => ?_); cbv)
      | (refine ix_map (by assumption) (by assumption) (by omega) (by omega) (fun _ _ _ _ _ _ _ => ?_); cbv)
      | (refine ix_int (by assumption) (by assumption) (by omega) (by omega) (fun _ _ _ => ?_); cbv)
      | (refine ex_neq3 (fun _ => ?_) (fun _ _ _ => ?_) <;> cbv)
      | (refine ex_neq2 (fun _ => ?_) (fun _ _ => ?_) <;> cbv)
      | (refine ob_go (by omega) ?_; cbv)
      | (refine ob_go (by kernel_rfl) ?_; cbv)
      | fail)
    exact ff_of hr' (fun ⟨h, _⟩ => absurd h (by assumption))
  · subst hQ
    cbv <;> repeat' (first
      | (refine ex_strne ?_ ?_ <;> intro _ <;> first | (exfalso; omega) | cbv)
      | (refine ex_if ?_ ?_ <;> intro _ <;> first | (exfalso; omega) | cbv)
      | (refine line_go 10 ?_; cbv)
      | (refine go_nil ?_ ?_ <;> (try intro _) <;> cbv)
      | (refine ex_bool ?_; cbv)
      | (refine go_tt ?_; cbv)
      | (refine go_ff ?_; cbv)
      | (refine go_tf ?_; cbv)
      | (refine go_ft ?_; cbv)
      | (refine ex_len (by assumption) ?_; cbv)
      | (refine ex_slen (by assumption) ?_; cbv)
      | (refine ex_lenv (fun _ _ _ => ?_); cbv)
      | (refine ex_slenv (fun _ _ _ => ?_); cbv)
      | (refine ex_wrap (by omega) (fun _ _ => ?_); cbv)
      | (refine ix_span (by assumption) (by assumption) (by omega) (by omega) (fun _ _ _ _ => ?_); cbv)
      | (refine ix_rng (by assumption) (by assumption) (by omega) (by omega) (fun _ _ _ => ?_); cbv)
      | (refine ix_str (by assumption) (by assumption) (by omega) (by omega) (fun _ _ _ => ?_); cbv)
      | (refine ix_map (by assumption) (by assumption) (by omega) (by omega) (fun _ _ _ _ _ _ _ => ?_); cbv)
      | (refine ix_int (by assumption) (by assumption) (by omega) (by omega) (fun _ _ _ => ?_); cbv)
      | (refine ex_neq3 (fun _ => ?_) (fun _ _ _ => ?_) <;> cbv)
      | (refine ex_neq2 (fun _ => ?_) (fun _ _ => ?_) <;> cbv)
      | (refine ob_go (by omega) ?_; cbv)
      | (refine ob_go (by kernel_rfl) ?_; cbv)
      | fail)
    · refine tt_of hr' ⟨by assumption, fun x hx => ?_⟩
      obtain ⟨j, hj⟩ := List.mem_iff_getElem?.1 hx
      exact hno j (by have hl := at_lt hj; have hn' : (xs.length : Int) = n := hn; omega) x hj
    · exact ff_of hr' fun ⟨h, _⟩ => absurd h (by assumption)

end
end Go.Px.Db

