/- Shows a part of the walk of the law; its conditions stand ahead of each theorem. -/
import Derived.Test.YtecojilckmiobaaGreatDoorPxDbP5
set_option linter.unusedVariables false
set_option maxRecDepth 100000
set_option maxHeartbeats 4000000
namespace Go.Px.Db
open Go Go.Px Go.Proofs
section
variable {mm : Int} {E : Env (tab mm)}

theorem a153 (hP : E.P = Tryz.prog) {xs ys : List PV} (hx : Ints xs) (hy : Ints ys) (lx : Len xs) (ly : Len ys) {r : Bool} (hr : r = true ↔ xs = ys) : AF E 153 [.sl xs, .sl ys] (.bool r) := by
  obtain ⟨n, hn, n0⟩ := lenI_of xs
  obtain ⟨m, hm, m0⟩ := lenI_of ys
  have ln : n ≤ 9223372036854775807 := by unfold Len at lx; omega
  apply AF_of_AC
  refine AC_of_vc (K := keepT 153) (fn := Tryz.f153) (by rw [hP]; exact Tryz.func153) rfl rfl rfl rfl rfl ?_
  cbv <;> repeat' (first
    | (refine ex_strne ?_ ?_ <;> intro _ <;> first | (exfalso; omega) | cbv)
    | (refine ex_if ?_ ?_ <;> intro _ <;> first | (exfalso; omega) | cbv)
    | (refine line_go 10 ?_; cbv)
    | (refine go_nil ?_ ?_ <;> (try intro _) <;> cbv)
    | (refine ex_bool ?_; cbv)
    | (refine go_tt ?_; cbv)
    | (refine go_ff ?_; cbv)
    | (refine go_tf ?_; cbv)
    | (refine go_ft ?_; cbv)
    | (refine ex_len (by assumption) ?_; cbv)
    | (refine ex_slen (by assumption) ?_; cbv)
    | (refine ex_lenv (fun _ _ _ => ?_); cbv)
    | (refine ex_slenv (fun _ _ _ => ?_); cbv)
    | (refine ex_wrap (by omega) (fun _ _ => ?_); cbv)
    | (refine ix_span (by assumption) (by assumption) (by omega) (by omega) (fun _ _ _ _ => ?_); cbv)
    | (refine ix_rng (by assumption) (by assumption) (by omega) (by omega) (fun _ _ _ => ?_); cbv)
    | (refine ix_str (by assumption) (by assumption) (by omega) (by omega) (fun _ _ _ => ?_); cbv)
    | (refine ix_map (by assumption) (by assumption) (by omega) (by omega) (fun _ _ _ _ _ _ _ => ?_); cbv)
    | (refine ix_int (by assumption) (by assumption) (by omega) (by omega) (fun _ _ _ => ?_); cbv)
    | (refine ex_neq3 (fun _ => ?_) (fun _ _ _ => ?_) <;> cbv)
    | (refine ex_neq2 (fun _ => ?_) (fun _ _ => ?_) <;> cbv)
    | (refine ob_go (by omega) ?_; cbv)
    | (refine ob_go (by kernel_rfl) ?_; cbv)
    | fail)
  · exact ff_of hr (ne_len hn hm (by assumption))
  · have hnm : n = m := by assumption
    subst hnm
    refine LoopVC.run (fun i : Int => ⟨[(0, .sl xs), (1, .sl ys), (12, .int .i64 n), (13, .int .i64 i)], []⟩) (fun i => 0 ≤ i ∧ i ≤ n ∧ ∀ j, j < i.toNat → xs[j]? = ys[j]?) (fun i => (n - i).toNat) 0 _ ⟨by omega, by omega, fun j hj => by simp at hj⟩ rfl rfl ?_
    rintro Q mu S' μ' I' hQ hS hμ hI i ⟨h0, hi, hno⟩ hmu
    cbv <;> repeat' (first
      | (refine ex_strne ?_ ?_ <;> intro _ <;> first | (exfalso; omega) | cbv)
      | (refine ex_if ?_ ?_ <;> intro _ <;> first | (exfalso; omega) | cbv)
      | (refine line_go 10 ?_; cbv)
      | (refine go_nil ?_ ?_ <;> (try intro _) <;> cbv)
      | (refine ex_bool ?_; cbv)
      | (refine go_tt ?_; cbv)
      | (refine go_ff ?_; cbv)
      | (refine go_tf ?_; cbv)
      | (refine go_ft ?_; cbv)
      | (refine ex_len (by assumption) ?_; cbv)
      | (refine ex_slen (by assumption) ?_; cbv)
      | (refine ex_lenv (fun _ _ _ => ?_); cbv)
      | (refine ex_slenv (fun _ _ _ => ?_); cbv)
      | (refine ex_wrap (by omega) (fun _ _ => ?_); cbv)
      | (refine ix_span (by assumption) (by assumption) (by omega) (by omega) (fun _ _ _ _ => ?_); cbv)
      | (refine ix_rng (by assumption) (by assumption) (by omega) (by omega) (fun _ _ _ => ?_); cbv)
      | (refine ix_str (by assumption) (by assumption) (by omega) (by omega) (fun _ _ _ => ?_); cbv)
      | (refine ix_map (by assumption) (by assumption) (by omega) (by omega) (fun _ _ _ _ _ _ _ => ?_); cbv)
      | (refine ix_int (by assumption) (by assumption) (by omega) (by omega) (fun _ _ _ => ?_); cbv)
      | (refine ex_neq3 (fun _ => ?_) (fun _ _ _ => ?_) <;> cbv)
      | (refine ex_neq2 (fun _ => ?_) (fun _ _ => ?_) <;> cbv)
      | (refine ob_go (by omega) ?_; cbv)
      | (refine ob_go (by kernel_rfl) ?_; cbv)
      | fail)
    · subst hQ
      cbv
      exact ff_of hr (by rintro rfl; simp_all)
    · subst hQ hS hμ hI
      subst_vars
      exact ⟨i + 1, by show (_ - (i + 1)).toNat < (_ - i).toNat; omega, ⟨by omega, by omega, at_step h0 hno (Eq.trans (by assumption) (Eq.symm (by assumption)))⟩, rfl, rfl⟩
    · subst hQ
      cbv
      exact tt_of hr (eq_of_at hn hm (by have : i = n := (by omega); rw [← this]; exact hno))

theorem a100 (hP : E.P = Tryz.prog) {xs ys : List PV} (hx : Spans xs) (hy : Spans ys) (lx : Len xs) (ly : Len ys) {r : Bool} (hr : r = true ↔ xs = ys) : AF E 100 [.sl xs, .sl ys] (.bool r) := by
  obtain ⟨n, hn, n0⟩ := lenI_of xs
  obtain ⟨m, hm, m0⟩ := lenI_of ys
  have ln : n ≤ 9223372036854775807 := by unfold Len at lx; omega
  apply AF_of_AC
  refine AC_of_vc (K := keepT 100) (fn := Tryz.f100) (by rw [hP]; exact Tryz.func100) rfl rfl rfl rfl rfl ?_
  cbv <;> repeat' (first
    | (refine ex_strne ?_ ?_ <;> intro _ <;> first | (exfalso; omega) | cbv)
    | (refine ex_if ?_ ?_ <;> intro _ <;> first | (exfalso; omega) | cbv)
    | (refine line_go 10 ?_; cbv)
    | (refine go_nil ?_ ?_ <;> (try intro _) <;> cbv)
    | (refine ex_bool ?_; cbv)
    | (refine go_tt ?_; cbv)
    | (refine go_ff ?_; cbv)
    | (refine go_tf ?_; cbv)
    | (refine go_ft ?_; cbv)
    | (refine ex_len (by assumption) ?_; cbv)
    | (refine ex_slen (by assumption) ?_; cbv)
    | (refine ex_lenv (fun _ _ _ => ?_); cbv)
    | (refine ex_slenv (fun _ _ _ => ?_); cbv)
    | (refine ex_wrap (by omega) (fun _ _ => ?_); cbv)
    | (refine ix_span (by assumption) (by assumption) (by omega) (by omega) (fun _ _ _ _ => ?_); cbv)
    | (refine ix_rng (by assumption) (by assumption) (by omega) (by omega) (fun _ _ _ => ?_); cbv)
    | (refine ix_str (by assumption) (by assumption) (by omega) (by omega) (fun _ _ _ => ?_); cbv)
    | (refine ix_map (by assumption) (by assumption) (by omega) (by omega) (fun _ _ _ _ _ _ _ => ?_); cbv)
    | (refine ix_int (by assumption) (by assumption) (by omega) (by omega) (fun _ _ _ => ?_); cbv)
    | (refine ex_neq3 (fun _ => ?_) (fun _ _ _ => ?_) <;> cbv)
    | (refine ex_neq2 (fun _ => ?_) (fun _ _ => ?_) <;> cbv)
    | (refine ob_go (by omega) ?_; cbv)
    | (refine ob_go (by kernel_rfl) ?_; cbv)
    | fail)
  · exact ff_of hr (ne_len hn hm (by assumption))
  · have hnm : n = m := by assumption
    subst hnm
    refine LoopVC.run (fun i : Int => ⟨[(0, .sl xs), (1, .sl ys), (12, .int .i64 n), (13, .int .i64 i)], []⟩) (fun i => 0 ≤ i ∧ i ≤ n ∧ ∀ j, j < i.toNat → xs[j]? = ys[j]?) (fun i => (n - i).toNat) 0 _ ⟨by omega, by omega, fun j hj => by simp at hj⟩ rfl rfl ?_
    rintro Q mu S' μ' I' hQ hS hμ hI i ⟨h0, hi, hno⟩ hmu
    cbv <;> repeat' (first
      | (refine ex_strne ?_ ?_ <;> intro _ <;> first | (exfalso; omega) | cbv)
      | (refine ex_if ?_ ?_ <;> intro _ <;> first | (exfalso; omega) | cbv)
      | (refine line_go 10 ?_; cbv)
      | (refine go_nil ?_ ?_ <;> (try intro _) <;> cbv)
      | (refine ex_bool ?_; cbv)
      | (refine go_tt ?_; cbv)
      | (refine go_ff ?_; cbv)
      | (refine go_tf ?_; cbv)
      | (refine go_ft ?_; cbv)
      | (refine ex_len (by assumption) ?_; cbv)
      | (refine ex_slen (by assumption) ?_; cbv)
      | (refine ex_lenv (fun _ _ _ => ?_); cbv)
      | (refine ex_slenv (fun _ _ _ => ?_); cbv)
      | (refine ex_wrap (by omega) (fun _ _ => ?_); cbv)
      | (refine ix_span (by assumption) (by assumption) (by omega) (by omega) (fun _ _ _ _ => ?_); cbv)
      | (refine ix_rng (by assumption) (by assumption) (by omega) (by omega) (fun _ _ _ => ?_); cbv)
      | (refine ix_str (by assumption) (by assumption) (by omega) (by omega) (fun _ _ _ => ?_); cbv)
      | (refine ix_map (by assumption) (by assumption) (by omega) (by omega) (fun _ _ _ _ _ _ _ => ?_); cbv)
      | (refine ix_int (by assumption) (by assumption) (by omega) (by omega) (fun _ _ _ => ?_); cbv)
      | (refine ex_neq3 (fun _ => ?_) (fun _ _ _ => ?_) <;> cbv)
      | (refine ex_neq2 (fun _ => ?_) (fun _ _ => ?_) <;> cbv)
      | (refine ob_go (by omega) ?_; cbv)
      | (refine ob_go (by kernel_rfl) ?_; cbv)
      | fail)
    · subst hQ
      cbv
      exact ff_of hr (by rintro rfl; simp_all)
    · subst hQ hS hμ hI
      subst_vars
      exact ⟨i + 1, by show (_ - (i + 1)).toNat < (_ - i).toNat; omega, ⟨by omega, by omega, at_step h0 hno (Eq.trans (by assumption) (Eq.symm (by assumption)))⟩, rfl, rfl⟩
    · subst hQ
      cbv
      exact tt_of hr (eq_of_at hn hm (by have : i = n := (by omega); rw [← this]; exact hno))

theorem a108 (hP : E.P = Tryz.prog) {xs ys : List PV} (hx : Strs xs) (hy : Strs ys) (lx : Len xs) (ly : Len ys) {r : Bool} (hr : r = true ↔ xs = ys) : AF E 108 [.sl xs, .sl ys] (.bool r) := by
  obtain ⟨n, hn, n0⟩ := lenI_of xs
  obtain ⟨m, hm, m0⟩ := lenI_of ys
  have ln : n ≤ 9223372036854775807 := by unfold Len at lx; omega
  apply AF_of_AC
  refine AC_of_vc (K := keepT 108) (fn := Tryz.f108) (by rw [hP]; exact Tryz.func108) rfl rfl rfl rfl rfl ?_
  cbv <;> repeat' (first
    | (refine ex_strne ?_ ?_ <;> intro _ <;> first | (exfalso; omega) | cbv)
    | (refine ex_if ?_ ?_ <;> intro _ <;> first | (exfalso; omega) | cbv)
    | (refine line_go 10 ?_; cbv)
    | (refine go_nil ?_ ?_ <;> (try intro _) <;> cbv)
    | (refine ex_bool ?_; cbv)
    | (refine go_tt ?_; cbv)
    | (refine go_ff ?_; cbv)
    | (refine go_tf ?_; cbv)
    | (refine go_ft ?_; cbv)
    | (refine ex_len (by assumption) ?_; cbv)
    | (refine ex_slen (by assumption) ?_; cbv)
    | (refine ex_lenv (fun _ _ _ => ?_); cbv)
    | (refine ex_slenv (fun _ _ _ => ?_); cbv)
    | (refine ex_wrap (by omega) (fun _ _ => ?_); cbv)
    | (refine ix_span (by assumption) (by assumption) (by omega) (by omega) (fun _ _ _ _ => ?_); cbv)
    | (refine ix_rng (by assumption) (by assumption) (by omega) (by omega) (fun _ _ _ => ?_); cbv)
    | (refine ix_str (by assumption) (by assumption) (by omega) (by omega) (fun _ _ _ => ?_); cbv)
    | (refine ix_map (by assumption) (by assumption) (by omega) (by omega) (fun _ _ _ _ _ _ _ => ?_); cbv)
    | (refine ix_int (by assumption) (by assumption) (by omega) (by omega) (fun _ _ _ => ?_); cbv)
    | (refine ex_neq3 (fun _ => ?_) (fun _ _ _ => ?_) <;> cbv)
    | (refine ex_neq2 (fun _ => ?_) (fun _ _ => ?_) <;> cbv)
    | (refine ob_go (by omega) ?_; cbv)
    | (refine ob_go (by kernel_rfl) ?_; cbv)
    | fail)
  · exact ff_of hr (ne_len hn hm (by assumption))
  · have hnm : n = m := by assumption
    subst hnm
    refine LoopVC.run (fun i : Int => ⟨[(0, .sl xs), (1, .sl ys), (12, .int .i64 n), (13, .int .i64 i)], []⟩) (fun i => 0 ≤ i ∧ i ≤ n ∧ ∀ j, j < i.toNat → xs[j]? = ys[j]?) (fun i => (n - i).toNat) 0 _ ⟨by omega, by omega, fun j hj => by simp at hj⟩ rfl rfl ?_
    rintro Q mu S' μ' I' hQ hS hμ hI i ⟨h0, hi, hno⟩ hmu
    cbv <;> repeat' (first
      | (refine ex_strne ?_ ?_ <;> intro _ <;> first | (exfalso; omega) | cbv)
      | (refine ex_if ?_ ?_ <;> intro _ <;> first | (exfalso; omega) | cbv)
      | (refine line_go 10 ?_; cbv)
      | (refine go_nil ?_ ?_ <;> (try intro _) <;> cbv)
      | (refine ex_bool ?_; cbv)
      | (refine go_tt ?_; cbv)
      | (refine go_ff ?_; cbv)
      | (refine go_tf ?_; cbv)
      | (refine go_ft ?_; cbv)
      | (refine ex_len (by assumption) ?_; cbv)
      | (refine ex_slen (by assumption) ?_; cbv)
      | (refine ex_lenv (fun _ _ _ => ?_); cbv)
      | (refine ex_slenv (fun _ _ _ => ?_); cbv)
      | (refine ex_wrap (by omega) (fun _ _ => ?_); cbv)
      | (refine ix_span (by assumption) (by assumption) (by omega) (by omega) (fun _ _ _ _ => ?_); cbv)
      | (refine ix_rng (by assumption) (by assumption) (by omega) (by omega) (fun _ _ _ => ?_); cbv)
      | (refine ix_str (by assumption) (by assumption) (by omega) (by omega) (fun _ _ _ => ?_); cbv)
      | (refine ix_map (by assumption) (by assumption) (by omega) (by omega) (fun _ _ _ _ _ _ _ => ?_); cbv)
      | (refine ix_int (by assumption) (by assumption) (by omega) (by omega) (fun _ _ _ => ?_); cbv)
      | (refine ex_neq3 (fun _ => ?_) (fun _ _ _ => ?_) <;> cbv)
      | (refine ex_neq2 (fun _ => ?_) (fun _ _ => ?_) <;> cbv)
      | (refine ob_go (by omega) ?_; cbv)
      | (refine ob_go (by kernel_rfl) ?_; cbv)
      | fail)
    · subst hQ
      cbv
      exact ff_of hr (by rintro rfl; simp_all)
    · subst hQ hS hμ hI
      subst_vars
      exact ⟨i + 1, by show (_ - (i + 1)).toNat < (_ - i).toNat; omega, ⟨by omega, by omega, at_step h0 hno (Eq.trans (by assumption) (Eq.symm (by assumption)))⟩, rfl, rfl⟩
    · subst hQ
      cbv
      exact tt_of hr (eq_of_at hn hm (by have : i = n := (by omega); rw [← this]; exact hno))

theorem a111 (hP : E.P = Tryz.prog) {xs ys : List PV} (hx : Rngs xs) (hy : Rngs ys) (lx : Len xs) (ly : Len ys) {r : Bool} (hr : r = true ↔ xs = ys) : AF E 111 [.sl xs, .sl ys] (.bool r) := by
  obtain ⟨n, hn, n0⟩ := lenI_of xs
  obtain ⟨m, hm, m0⟩ := lenI_of ys
  have ln : n ≤ 9223372036854775807 := by unfold Len at lx; omega
  apply AF_of_AC
  refine AC_of_vc (K := keepT 111) (fn := Tryz.f111) (by rw [hP]; exact Tryz.func111) rfl rfl rfl rfl rfl ?_
  cbv <;> repeat' (first
    | (refine ex_strne ?_ ?_ <;> intro _ <;> first | (exfalso; omega) | cbv)
    | (refine ex_if ?_ ?_ <;> intro _ <;> first | (exfalso; omega) | cbv)
    | (refine line_go 10 ?_; cbv)
    | (refine go_nil ?_ ?_ <;> (try intro _) <;> cbv)
    | (refine ex_bool ?_; cbv)
    | (refine go_tt ?_; cbv)
    | (refine go_ff ?_; cbv)
    | (refine go_tf ?_; cbv)
    | (refine go_ft ?_; cbv)
    | (refine ex_len (by assumption) ?_; cbv)
    | (refine ex_slen (by assumption) ?_; cbv)
    | (refine ex_lenv (fun _ _ _ => ?_); cbv)
    | (refine ex_slenv (fun _ _ _ => ?_); cbv)
    | (refine ex_wrap (by omega) (fun _ _ => ?_); cbv)
    | (refine ix_span (by assumption) (by assumption) (by omega) (by omega) (fun _ _ _ _ => ?_); cbv)
    | (refine ix_rng (by assumption) (by assumption) (by omega) (by omega) (fun _ _ _ => ?_); cbv)
    | (refine ix_str (by assumption) (by assumption) (by omega) (by omega) (fun _ _ _ => ?_); cbv)
    | (refine ix_map (by assumption) (by assumption) (by omega) (by omega) (fun _ _ _ _ _ _ _ => ?_); cbv)
    | (refine ix_int (by assumption) (by assumption) (by omega) (by omega) (fun _ _ _ => ?_); cbv)
    | (refine ex_neq3 (fun _ => ?_) (fun _ _ _ => ?_) <;> cbv)
    | (refine ex_neq2 (fun _ => ?_) (fun _ _ => ?_) <;> cbv)
    | (refine ob_go (by omega) ?_; cbv)
    | (refine ob_go (by kernel_rfl) ?_; cbv)
    | fail)
  · exact ff_of hr (ne_len hn hm (by assumption))
  · have hnm : n = m := by assumption
    subst hnm
    refine LoopVC.run (fun i : Int => ⟨[(0, .sl xs), (1, .sl ys), (12, .int .i64 n), (13, .int .i64 i)], []⟩) (fun i => 0 ≤ i ∧ i ≤ n ∧ ∀ j, j < i.toNat → xs[j]? = ys[j]?) (fun i => (n - i).toNat) 0 _ ⟨by omega, by omega, fun j hj => by simp at hj⟩ rfl rfl ?_
    rintro Q mu S' μ' I' hQ hS hμ hI i ⟨h0, hi, hno⟩ hmu
    cbv <;> repeat' (first
      | (refine ex_strne ?_ ?_ <;> intro _ <;> first | (exfalso; omega) | cbv)
      | (refine ex_if ?_ ?_ <;> intro _ <;> first | (exfalso; omega) | cbv)
      | (refine line_go 10 ?_; cbv)
      | (refine go_nil ?_ ?_ <;> (try intro _) <;> cbv)
      | (refine ex_bool ?_; cbv)
      | (refine go_tt ?_; cbv)
      | (refine go_ff ?_; cbv)
      | (refine go_tf ?_; cbv)
      | (refine go_ft ?_; cbv)
      | (refine ex_len (by assumption) ?_; cbv)
      | (refine ex_slen (by assumption) ?_; cbv)
      | (refine ex_lenv (fun _ _ _ => ?_); cbv)
      | (refine ex_slenv (fun _ _ _ => ?_); cbv)
      | (refine ex_wrap (by omega) (fun _ _ => ?_); cbv)
      | (refine ix_span (by assumption) (by assumption) (by omega) (by omega) (fun _ _ _ _ => ?_); cbv)
      | (refine ix_rng (by assumption) (by assumption) (by omega) (by omega) (fun _ _ _ => ?_); cbv)
      | (refine ix_str (by assumption) (by assumption) (by omega) (by omega) (fun _ _ _ => ?_); cbv)
      | (refine ix_map (by assumption) (by assumption) (by omega) (by omega) (fun _ _ _ _ _ _ _ => ?_); cbv)
      | (refine ix_int (by assumption) (by assumption) (by omega) (by omega) (fun _ _ _ => ?_); cbv)
      | (refine ex_neq3 (fun _ => ?_) (fun _ _ _ => ?_) <;> cbv)
      | (refine ex_neq2 (fun _ => ?_) (fun _ _ => ?_) <;> cbv)
      | (refine ob_go (by omega) ?_; cbv)
      | (refine ob_go (by kernel_rfl) ?_; cbv)
      | fail)
    · subst hQ
      cbv
      exact ff_of hr (by rintro rfl; simp_all)
    · subst hQ hS hμ hI
      subst_vars
      exact ⟨i + 1, by show (_ - (i + 1)).toNat < (_ - i).toNat; omega, ⟨by omega, by omega, at_step h0 hno (Eq.trans (by assumption) (Eq.symm (by assumption)))⟩, rfl, rfl⟩
    · subst hQ
      cbv
      exact tt_of hr (eq_of_at hn hm (by have : i = n := (by omega); rw [← this]; exact hno))

theorem a105 (hP : E.P = Tryz.prog) {xs ys : List PV} (hx : Ints xs) (hy : Ints ys) (lx : Len xs) (ly : Len ys) {r : Bool} (hr : r = true ↔ xs = ys) : AF E 105 [.sl xs, .sl ys] (.bool r) := by
  have c := a153 (E := E) hP hx hy lx ly hr
  apply AF_of_AC
  refine AC_of_vc (K := keepT 105) (fn := Tryz.f105) (by rw [hP]; exact Tryz.func105) rfl rfl rfl rfl rfl ?_
  cbv <;> repeat' (first
    | (refine go_val c ?_; cbv)
    | (refine ex_strne ?_ ?_ <;> intro _ <;> first | (exfalso; omega) | cbv)
    | (refine ex_if ?_ ?_ <;> intro _ <;> first | (exfalso; omega) | cbv)
    | (refine line_go 10 ?_; cbv)
    | (refine go_nil ?_ ?_ <;> (try intro _) <;> cbv)
    | (refine ex_bool ?_; cbv)
    | (refine go_tt ?_; cbv)
    | (refine go_ff ?_; cbv)
    | (refine go_tf ?_; cbv)
    | (refine go_ft ?_; cbv)
    | (refine ex_len (by assumption) ?_; cbv)
    | (refine ex_slen (by assumption) ?_; cbv)
    | (refine ex_lenv (fun _ _ _ => ?_); cbv)
    | (refine ex_slenv (fun _ _ _ => ?_); cbv)
    | (refine ex_wrap (by omega) (fun _ _ => ?_); cbv)
    | (refine ix_span (by assumption) (by assumption) (by omega) (by omega) (fun _ _ _ _ => ?_); cbv)
    | (refine ix_rng (by assumption) (by assumption) (by omega) (by omega) (fun _ _ _ => ?_); cbv)
    | (refine ix_str (by assumption) (by assumption) (by omega) (by omega) (fun _ _ _ => ?_); cbv)
    | (refine ix_map (by assumption) (by assumption) (by omega) (by omega) (fun _ _ _ _ _ _ _ => ?_); cbv)
    | (refine ix_int (by assumption) (by assumption) (by omega) (by omega) (fun _ _ _ => ?_); cbv)
    | (refine ex_neq3 (fun _ => ?_) (fun _ _ _ => ?_) <;> cbv)
    | (refine ex_neq2 (fun _ => ?_) (fun _ _ => ?_) <;> cbv)
    | (refine ob_go (by omega) ?_; cbv)
    | (refine ob_go (by kernel_rfl) ?_; cbv)
    | fail)
theorem a53 (hP : E.P = Tryz.prog) {xs ys : List PV} (hx : Spans xs) (hy : Spans ys) (lx : Len xs) (ly : Len ys) {r : Bool} (hr : r = true ↔ xs = ys) : AF E 53 [.sl xs, .sl ys] (.bool r) := by
  have c := a100 (E := E) hP hx hy lx ly hr
  apply AF_of_AC
  refine AC_of_vc (K := keepT 53) (fn := Tryz.f53) (by rw [hP]; exact Tryz.func53) rfl rfl rfl rfl rfl ?_
  cbv <;> repeat' (first
    | (refine go_val c ?_; cbv)
    | (refine ex_strne ?_ ?_ <;> intro _ <;> first | (exfalso; omega) | cbv)
    | (refine ex_if ?_ ?_ <;> intro _ <;> first | (exfalso; omega) | cbv)
    | (refine line_go 10 ?_; cbv)
    | (refine go_nil ?_ ?_ <;> (try intro _) <;> cbv)
    | (refine ex_bool ?_; cbv)
    | (refine go_tt ?_; cbv)
    | (refine go_ff ?_; cbv)
    | (refine go_tf ?_; cbv)
    | (refine go_ft ?_; cbv)
    | (refine ex_len (by assumption) ?_; cbv)
    | (refine ex_slen (by assumption) ?_; cbv)
    | (refine ex_lenv (fun _ _ _ => ?_); cbv)
    | (refine ex_slenv (fun _ _ _ => ?_); cbv)
    | (refine ex_wrap (by omega) (fun _ _ => ?_); cbv)
    | (refine ix_span (by assumption) (by assumption) (by omega) (by omega) (fun _ _ _ _ => ?_); cbv)
    | (refine ix_rng (by assumption) (by assumption) (by omega) (by omega) (fun _ _ _ => ?_); cbv)
    | (refine ix_str (by assumption) (by assumption) (by omega) (by omega) (fun _ _ _ => ?_); cbv)
    | (refine ix_map (by assumption) (by assumption) (by omega) (by omega) (fun _ _ _ _ _ _ _ => ?_); cbv)
    | (refine ix_int (by assumption) (by assumption) (by omega) (by omega) (fun _ _ _ => ?_); cbv)
    | (refine ex_neq3 (fun _ => ?_) (fun _ _ _ => ?_) <;> cbv)
    | (refine ex_neq2 (fun _ => ?_) (fun _ _ => ?_) <;> cbv)
    | (refine ob_go (by omega) ?_; cbv)
    | (refine ob_go (by kernel_rfl) ?_; cbv)
    | fail)
theorem a59 (hP : E.P = Tryz.prog) {xs ys : List PV} (hx : Strs xs) (hy : Strs ys) (lx : Len xs) (ly : Len ys) {r : Bool} (hr : r = true ↔ xs = ys) : AF E 59 [.sl xs, .sl ys] (.bool r) := by
  have c := a108 (E := E) hP hx hy lx ly hr
  apply AF_of_AC
  refine AC_of_vc (K := keepT 59) (fn := Tryz.f59) (by rw [hP]; exact Tryz.func59) rfl rfl rfl rfl rfl ?_
  cbv <;> repeat' (first
    | (refine go_val c ?_; cbv)
    | (refine ex_strne ?_ ?_ <;> intro _ <;> first | (exfalso; omega) | cbv)
    | (refine ex_if ?_ ?_ <;> intro _ <;> first | (exfalso; omega) | cbv)
    | (refine line_go 10 ?_; cbv)
    | (refine go_nil ?_ ?_ <;> (try intro _) <;> cbv)
    | (refine ex_bool ?_; cbv)
    | (refine go_tt ?_; cbv)
    | (refine go_ff ?_; cbv)
    | (refine go_tf ?_; cbv)
    | (refine go_ft ?_; cbv)
    | (refine ex_len (by assumption) ?_; cbv)
    | (refine ex_slen (by assumption) ?_; cbv)
    | (refine ex_lenv (fun _ _ _ => ?_); cbv)
    | (refine ex_slenv (fun _ _ _ => ?_); cbv)
    | (refine ex_wrap (by omega) (fun _ _ => ?_); cbv)
    | (refine ix_span (by assumption) (by assumption) (by omega) (by omega) (fun _ _ _ _ => ?_); cbv)
    | (refine ix_rng (by assumption) (by assumption) (by omega) (by omega) (fun _ _ _ => ?_); cbv)
    | (refine ix_str (by assumption) (by assumption) (by omega) (by omega) (fun _ _ _ => ?_); cbv)
    | (refine ix_map (by assumption) (by assumption) (by omega) (by omega) (fun _ _ _ _ _ _ _ => ?_); cbv)
    | (refine ix_int (by assumption) (by assumption) (by omega) (by omega) (fun _ _ _ => ?_); cbv)
    | (refine ex_neq3 (fun _ => ?_) (fun _ _ _ => ?_) <;> cbv)
    | (refine ex_neq2 (fun _ => ?_) (fun _ _ => ?_) <;> cbv)
    | (refine ob_go (by omega) ?_; cbv)
    | (refine ob_go (by kernel_rfl) ?_; cbv)
    | fail)
theorem a62 (hP : E.P = Tryz.prog) {xs ys : List PV} (hx : Rngs xs) (hy : Rngs ys) (lx : Len xs) (ly : Len ys) {r : Bool} (hr : r = true ↔ xs = ys) : AF E 62 [.sl xs, .sl ys] (.bool r) := by
  have c := a111 (E := E) hP hx hy lx ly hr
  apply AF_of_AC
  refine AC_of_vc (K := keepT 62) (fn := Tryz.f62) (by rw [hP]; exact Tryz.func62) rfl rfl rfl rfl rfl ?_
  cbv <;> repeat' (first
    | (refine go_val c ?_; cbv)
    | (refine ex_strne ?_ ?_ <;> intro _ <;> first | (exfalso; omega) | cbv)
    | (refine ex_if ?_ ?_ <;> intro _ <;> first | (exfalso; omega) | cbv)
    | (refine line_go 10 ?_; cbv)
    | (refine go_nil ?_ ?_ <;> (try intro _) <;> cbv)
    | (refine ex_bool ?_; cbv)
    | (refine go_tt ?_; cbv)
    | (refine go_ff ?_; cbv)
    | (refine go_tf ?_; cbv)
    | (refine go_ft ?_; cbv)
    | (refine ex_len (by assumption) ?_; cbv)
    | (refine ex_slen (by assumption) ?_; cbv)
    | (refine ex_lenv (fun _ _ _ => ?_); cbv)
    | (refine ex_slenv (fun _ _ _ => ?_); cbv)
    | (refine ex_wrap (by omega) (fun _ _ => ?_); cbv)
    | (refine ix_span (by assumption) (by assumption) (by omega) (by omega) (fun _ _ _ _ => ?_); cbv)
    | (refine ix_rng (by assumption) (by assumption) (by omega) (by omega) (fun _ _ _ => ?_); cbv)
    | (refine ix_str (by assumption) (by assumption) (by omega) (by omega) (fun _ _ _ => ?_); cbv)
    | (refine ix_map (by assumption) (by assumption) (by omega) (by omega) (fun _ _ _ _ _ _ _ => ?_); cbv)
    | (refine ix_int (by assumption) (by assumption) (by omega) (by omega) (fun _ _ _ => ?_); cbv)
    | (refine ex_neq3 (fun _ => ?_) (fun _ _ _ => ?_) <;> cbv)
    | (refine ex_neq2 (fun _ => ?_) (fun _ _ => ?_) <;> cbv)
    | (refine ob_go (by omega) ?_; cbv)
    | (refine ob_go (by kernel_rfl) ?_; cbv)
    | fail)
theorem a104 (hP : E.P = Tryz.prog) {f g : Int} {xs ys : List PV} {s u : List UInt8} (hx : Ints xs) (hy : Ints ys) (lx : Len xs) (ly : Len ys) {r : Bool} (hr : r = true ↔ f = g ∧ s = u ∧ xs = ys) : AF E 104 [.agg [.int .i64 f, .sl xs, .str s], .agg [.int .i64 g, .sl ys, .str u]] (.bool r) := by
  apply AF_of_AC
  refine AC_of_vc (K := keepT 104) (fn := Tryz.f104) (by rw [hP]; exact Tryz.func104) rfl rfl rfl rfl rfl ?_
  cbv <;> repeat' (first
    | (refine go_if (fun r hr => a105 hP hx hy lx ly hr) ?_ ?_ <;> intro _ <;> cbv)
    | (refine ex_strne ?_ ?_ <;> intro _ <;> first | (exfalso; omega) | cbv)
    | (refine ex_if ?_ ?_ <;> intro _ <;> first | (exfalso; omega) | cbv)
    | (refine line_go 10 ?_; cbv)
    | (refine go_nil ?_ ?_ <;> (try intro _) <;> cbv)
    | (refine ex_bool ?_; cbv)
    | (refine go_tt ?_; cbv)
    | (refine go_ff ?_; cbv)
    | (refine go_tf ?_; cbv)
    | (refine go_ft ?_; cbv)
    | (refine ex_len (by assumption) ?_; cbv)
    | (refine ex_slen (by assumption) ?_; cbv)
    | (refine ex_lenv (fun _ _ _ => ?_); cbv)
    | (refine ex_slenv (fun _ _ _ => ?_); cbv)
    | (refine ex_wrap (by omega) (fun _ _ => ?_); cbv)
    | (refine ix_span (by assumption) (by assumption) (by omega) (by omega) (fun _ _ _ _ => ?_); cbv)
    | (refine ix_rng (by assumption) (by assumption) (by omega) (by omega) (fun _ _ _ => ?_); cbv)
    | (refine ix_str (by assumption) (by assumption) (by omega) (by omega) (fun _ _ _ => ?_); cbv)
    | (refine ix_map (by assumption) (by assumption) (by omega) (by omega) (fun _ _ _ _ _ _ _ => ?_); cbv)
    | (refine ix_int (by assumption) (by assumption) (by omega) (by omega) (fun _ _ _ => ?_); cbv)
    | (refine ex_neq3 (fun _ => ?_) (fun _ _ _ => ?_) <;> cbv)
    | (refine ex_neq2 (fun _ => ?_) (fun _ _ => ?_) <;> cbv)
    | (refine ob_go (by omega) ?_; cbv)
    | (refine ob_go (by kernel_rfl) ?_; cbv)
    | fail)
  · exact tt_of hr ⟨by assumption, by assumption, by assumption⟩
  · exact ff_of hr (fun h => absurd h.2.2 (by assumption))
  · exact ff_of hr (fun h => absurd h.2.1 (by assumption))
  · exact ff_of hr (fun h => absurd h.1 (by assumption))
theorem a103 (hP : E.P = Tryz.prog) {xs ys : List PV} (hx : Mps xs) (hy : Mps ys) (lx : Len xs) (ly : Len ys) {r : Bool} (hr : r = true ↔ xs = ys) : AF E 103 [.sl xs, .sl ys, .fn (.func 104) [] []] (.bool r) := by
  obtain ⟨n, hn, n0⟩ := lenI_of xs
  obtain ⟨m, hm, m0⟩ := lenI_of ys
  have ln : n ≤ 9223372036854775807 := by unfold Len at lx; omega
  apply AF_of_AC
  refine AC_of_vc (K := keepT 103) (fn := Tryz.f103) (by rw [hP]; exact Tryz.func103) rfl rfl rfl rfl rfl ?_
  cbv <;> repeat' (first
    | (refine ex_strne ?_ ?_ <;> intro _ <;> first | (exfalso; omega) | cbv)
    | (refine ex_if ?_ ?_ <;> intro _ <;> first | (exfalso; omega) | cbv)
    | (refine line_go 10 ?_; cbv)
    | (refine go_nil ?_ ?_ <;> (try intro _) <;> cbv)
    | (refine ex_bool ?_; cbv)
    | (refine go_tt ?_; cbv)
    | (refine go_ff ?_; cbv)
    | (refine go_tf ?_; cbv)
    | (refine go_ft ?_; cbv)
    | (refine ex_len (by assumption) ?_; cbv)
    | (refine ex_slen (by assumption) ?_; cbv)
    | (refine ex_lenv (fun _ _ _ => ?_); cbv)
    | (refine ex_slenv (fun _ _ _ => ?_); cbv)
    | (refine ex_wrap (by omega) (fun _ _ => ?_); cbv)
    | (refine ix_span (by assumption) (by assumption) (by omega) (by omega) (fun _ _ _ _ => ?_); cbv)
    | (refine ix_rng (by assumption) (by assumption) (by omega) (by omega) (fun _ _ _ => ?_); cbv)
    | (refine ix_str (by assumption) (by assumption) (by omega) (by omega) (fun _ _ _ => ?_); cbv)
    | (refine ix_map (by assumption) (by assumption) (by omega) (by omega) (fun _ _ _ _ _ _ _ => ?_); cbv)
    | (refine ix_int (by assumption) (by assumption) (by omega) (by omega) (fun _ _ _ => ?_); cbv)
    | (refine ex_neq3 (fun _ => ?_) (fun _ _ _ => ?_) <;> cbv)
    | (refine ex_neq2 (fun _ => ?_) (fun _ _ => ?_) <;> cbv)
    | (refine ob_go (by omega) ?_; cbv)
    | (refine ob_go (by kernel_rfl) ?_; cbv)
    | fail)
  · exact ff_of hr (ne_len hn hm (by assumption))
  · have hnm : n = m := by assumption
    subst hnm
    refine LoopVC.runG (fun i : Int => ⟨[(1, .sl ys), (2, .fn (.func 104) [] []), (15, .sl xs), (16, .int .i64 n), (17, .int .i64 i)], []⟩) (fun i => 0 ≤ i ∧ i ≤ n ∧ ∀ j, j < i.toNat → xs[j]? = ys[j]?) (fun i => (n - i).toNat) 0 _ ⟨by omega, by omega, fun j hj => by simp at hj⟩ rfl rfl ?_
    rintro Q mu S' μ' I' hQ hS hμ hI i ⟨h0, hi, hno⟩ hmu
    cbv <;> repeat' (first
      | (refine go_if (fun r hr => a104 hP (by assumption) (by assumption) (by assumption) (by assumption) hr) ?_ ?_ <;> intro _ <;> cbv)
      | (refine ex_strne ?_ ?_ <;> intro _ <;> first | (exfalso; omega) | cbv)
      | (refine ex_if ?_ ?_ <;> intro _ <;> first | (exfalso; omega) | cbv)
      | (refine line_go 10 ?_; cbv)
      | (refine go_nil ?_ ?_ <;> (try intro _) <;> cbv)
      | (refine ex_bool ?_; cbv)
      | (refine go_tt ?_; cbv)
      | (refine go_ff ?_; cbv)
      | (refine go_tf ?_; cbv)
      | (refine go_ft ?_; cbv)
      | (refine ex_len (by assumption) ?_; cbv)
      | (refine ex_slen (by assumption) ?_; cbv)
      | (refine ex_lenv (fun _ _ _ => ?_); cbv)
      | (refine ex_slenv (fun _ _ _ => ?_); cbv)
      | (refine ex_wrap (by omega) (fun _ _ => ?_); cbv)
      | (refine ix_span (by assumption) (by assumption) (by omega) (by omega) (fun _ _ _ _ => ?_); cbv)
      | (refine ix_rng (by assumption) (by assumption) (by omega) (by omega) (fun _ _ _ => ?_); cbv)
      | (refine ix_str (by assumption) (by assumption) (by omega) (by omega) (fun _ _ _ => ?_); cbv)
      | (refine ix_map (by assumption) (by assumption) (by omega) (by omega) (fun _ _ _ _ _ _ _ => ?_); cbv)
      | (refine ix_int (by assumption) (by assumption) (by omega) (by omega) (fun _ _ _ => ?_); cbv)
      | (refine ex_neq3 (fun _ => ?_) (fun _ _ _ => ?_) <;> cbv)
      | (refine ex_neq2 (fun _ => ?_) (fun _ _ => ?_) <;> cbv)
      | (refine ob_go (by omega) ?_; cbv)
      | (refine ob_go (by kernel_rfl) ?_; cbv)
      | fail)
    · rename_i h3 _ _
      obtain ⟨h4, h5, h6⟩ := h3
      subst hQ hS hμ hI
      subst_vars
      exact ⟨i + 1, by show (_ - (i + 1)).toNat < (_ - i).toNat; omega, ⟨by omega, by omega, at_step h0 hno (Eq.trans (by assumption) (Eq.symm (by assumption)))⟩, rfl, rfl, rfl, rfl, rfl⟩
    · subst hQ
      cbv
      exact ff_of hr (by rintro rfl; simp_all)
    · subst hQ
      cbv
      exact tt_of hr (eq_of_at hn hm (by have : i = n := (by omega); rw [← this]; exact hno))
theorem a56 (hP : E.P = Tryz.prog) {xs ys : List PV} (hx : Mps xs) (hy : Mps ys) (lx : Len xs) (ly : Len ys) {r : Bool} (hr : r = true ↔ xs = ys) : AF E 56 [.sl xs, .sl ys] (.bool r) := by
  have c := a103 (E := E) hP hx hy lx ly hr
  apply AF_of_AC
  refine AC_of_vc (K := keepT 56) (fn := Tryz.f56) (by rw [hP]; exact Tryz.func56) rfl rfl rfl rfl rfl ?_
  cbv <;> repeat' (first
    | (refine go_val c ?_; cbv)
    | (refine ex_strne ?_ ?_ <;> intro _ <;> first | (exfalso; omega) | cbv)
    | (refine ex_if ?_ ?_ <;> intro _ <;> first | (exfalso; omega) | cbv)
    | (refine line_go 10 ?_; cbv)
    | (refine go_nil ?_ ?_ <;> (try intro _) <;> cbv)
    | (refine ex_bool ?_; cbv)
    | (refine go_tt ?_; cbv)
    | (refine go_ff ?_; cbv)
    | (refine go_tf ?_; cbv)
    | (refine go_ft ?_; cbv)
    | (refine ex_len (by assumption) ?_; cbv)
    | (refine ex_slen (by assumption) ?_; cbv)
    | (refine ex_lenv (fun _ _ _ => ?_); cbv)
    | (refine ex_slenv (fun _ _ _ => ?_); cbv)
    | (refine ex_wrap (by omega) (fun _ _ => ?_); cbv)
    | (refine ix_span (by assumption) (by assumption) (by omega) (by omega) (fun _ _ _ _ => ?_); cbv)
    | (refine ix_rng (by assumption) (by assumption) (by omega) (by omega) (fun _ _ _ => ?_); cbv)
    | (refine ix_str (by assumption) (by assumption) (by omega) (by omega) (fun _ _ _ => ?_); cbv)
    | (refine ix_map (by assumption) (by assumption) (by omega) (by omega) (fun _ _ _ _ _ _ _ => ?_); cbv)
    | (refine ix_int (by assumption) (by assumption) (by omega) (by omega) (fun _ _ _ => ?_); cbv)
    | (refine ex_neq3 (fun _ => ?_) (fun _ _ _ => ?_) <;> cbv)
    | (refine ex_neq2 (fun _ => ?_) (fun _ _ => ?_) <;> cbv)
    | (refine ob_go (by omega) ?_; cbv)
    | (refine ob_go (by kernel_rfl) ?_; cbv)
    | fail)
theorem a41 (hP : E.P = Tryz.prog) {xs ys : List PV} (hx : Mps xs) (hy : Mps ys) (lx : Len xs) (ly : Len ys) {r : Bool} (hr : r = true ↔ xs = ys) : AF E 41 [.sl xs, .sl ys] (.bool r) := by
  obtain ⟨n, hn, n0⟩ := lenI_of xs
  obtain ⟨m, hm, m0⟩ := lenI_of ys
  have ln : n ≤ 9223372036854775807 := by unfold Len at lx; omega
  apply AF_of_AC
  refine AC_of_vc (K := keepT 41) (fn := Tryz.f41) (by rw [hP]; exact Tryz.func41) rfl rfl rfl rfl rfl ?_
  cbv <;> repeat' (first
    | (refine ex_strne ?_ ?_ <;> intro _ <;> first | (exfalso; omega) | cbv)
    | (refine ex_if ?_ ?_ <;> intro _ <;> first | (exfalso; omega) | cbv)
    | (refine line_go 10 ?_; cbv)
    | (refine go_nil ?_ ?_ <;> (try intro _) <;> cbv)
    | (refine ex_bool ?_; cbv)
    | (refine go_tt ?_; cbv)
    | (refine go_ff ?_; cbv)
    | (refine go_tf ?_; cbv)
    | (refine go_ft ?_; cbv)
    | (refine ex_len (by assumption) ?_; cbv)
    | (refine ex_slen (by assumption) ?_; cbv)
    | (refine ex_lenv (fun _ _ _ => ?_); cbv)
    | (refine ex_slenv (fun _ _ _ => ?_); cbv)
    | (refine ex_wrap (by omega) (fun _ _ => ?_); cbv)
    | (refine ix_span (by assumption) (by assumption) (by omega) (by omega) (fun _ _ _ _ => ?_); cbv)
    | (refine ix_rng (by assumption) (by assumption) (by omega) (by omega) (fun _ _ _ => ?_); cbv)
    | (refine ix_str (by assumption) (by assumption) (by omega) (by omega) (fun _ _ _ => ?_); cbv)
    | (refine ix_map (by assumption) (by assumption) (by omega) (by omega) (fun _ _ _ _ _ _ _ => ?_); cbv)
    | (refine ix_int (by assumption) (by assumption) (by omega) (by omega) (fun _ _ _ => ?_); cbv)
    | (refine ex_neq3 (fun _ => ?_) (fun _ _ _ => ?_) <;> cbv)
    | (refine ex_neq2 (fun _ => ?_) (fun _ _ => ?_) <;> cbv)
    | (refine ob_go (by omega) ?_; cbv)
    | (refine ob_go (by kernel_rfl) ?_; cbv)
    | fail)
  · exact ff_of hr (ne_len hn hm (by assumption))
  · have hnm : n = m := by assumption
    subst hnm
    refine LoopVC.run (fun i : Int => ⟨[(0, .sl xs), (1, .sl ys), (5, .int .i64 i)], []⟩) (fun i => 0 ≤ i ∧ i ≤ n ∧ ∀ j, j < i.toNat → xs[j]? = ys[j]?) (fun i => (n - i).toNat) 0 _ ⟨by omega, by omega, fun j hj => by simp at hj⟩ rfl rfl ?_
    rintro Q mu S' μ' I' hQ hS hμ hI i ⟨h0, hi, hno⟩ hmu
    cbv <;> repeat' (first
      | (refine ix_at (by assumption) (by omega) rfl ?_; cbv)
      | (refine ex_strne ?_ ?_ <;> intro _ <;> first | (exfalso; omega) | cbv)
      | (refine ex_if ?_ ?_ <;> intro _ <;> first | (exfalso; omega) | cbv)
      | (refine line_go 10 ?_; cbv)
      | (refine go_nil ?_ ?_ <;> (try intro _) <;> cbv)
      | (refine ex_bool ?_; cbv)
      | (refine go_tt ?_; cbv)
      | (refine go_ff ?_; cbv)
      | (refine go_tf ?_; cbv)
      | (refine go_ft ?_; cbv)
      | (refine ex_len (by assumption) ?_; cbv)
      | (refine ex_slen (by assumption) ?_; cbv)
      | (refine ex_lenv (fun _ _ _ => ?_); cbv)
      | (refine ex_slenv (fun _ _ _ => ?_); cbv)
      | (refine ex_wrap (by omega) (fun _ _ => ?_); cbv)
      | (refine ix_span (by assumption) (by assumption) (by omega) (by omega) (fun _ _ _ _ => ?_); cbv)
      | (refine ix_rng (by assumption) (by assumption) (by omega) (by omega) (fun _ _ _ => ?_); cbv)
      | (refine ix_str (by assumption) (by assumption) (by omega) (by omega) (fun _ _ _ => ?_); cbv)
      | (refine ix_map (by assumption) (by assumption) (by omega) (by omega) (fun _ _ _ _ _ _ _ => ?_); cbv)
      | (refine ix_int (by assumption) (by assumption) (by omega) (by omega) (fun _ _ _ => ?_); cbv)
      | (refine ex_neq3 (fun _ => ?_) (fun _ _ _ => ?_) <;> cbv)
      | (refine ex_neq2 (fun _ => ?_) (fun _ _ => ?_) <;> cbv)
      | (refine ob_go (by omega) ?_; cbv)
      | (refine ob_go (by kernel_rfl) ?_; cbv)
      | fail)
    · subst hQ
      cbv
      exact ff_of hr (by rintro rfl; simp_all)
    · subst hQ
      cbv
      exact ff_of hr (by rintro rfl; simp_all)
    · subst hQ
      cbv
      exact ff_of hr (by rintro rfl; simp_all)
    · rename_i f t s hat it lt ls f2 t2 s2 hat2 it2 lt2 ls2 hf hs p hp p0 p2 hp2 p20 hpp
      subst hf hs hpp
      have lp : p ≤ 9223372036854775807 := by
        have hp' : (t.length : Int) = p := hp
        have lt' : t.length ≤ 9223372036854775807 := lt
        omega
      refine LoopVC.run (fun k : Int => ⟨[(0, .sl xs), (1, .sl ys), (5, .int .i64 i), (6, .int .i64 k)], []⟩) (fun k => 0 ≤ k ∧ k ≤ p ∧ ∀ j, j < k.toNat → t[j]? = t2[j]?) (fun k => (p - k).toNat) 0 _ ⟨by omega, by omega, fun j hj => by simp at hj⟩ rfl rfl ?_
      rintro Q2 mu2 S2 μ2 I2 hQ2 hS2 hμ2 hI2 k ⟨k0, hk, hno2⟩ hmu2
      cbv <;> repeat' (first
        | (refine ix_at (by assumption) (by omega) rfl ?_; cbv)
        | (refine ex_strne ?_ ?_ <;> intro _ <;> first | (exfalso; omega) | cbv)
        | (refine ex_if ?_ ?_ <;> intro _ <;> first | (exfalso; omega) | cbv)
        | (refine line_go 10 ?_; cbv)
        | (refine go_nil ?_ ?_ <;> (try intro _) <;> cbv)
        | (refine ex_bool ?_; cbv)
        | (refine go_tt ?_; cbv)
        | (refine go_ff ?_; cbv)
        | (refine go_tf ?_; cbv)
        | (refine go_ft ?_; cbv)
        | (refine ex_len (by assumption) ?_; cbv)
        | (refine ex_slen (by assumption) ?_; cbv)
        | (refine ex_lenv (fun _ _ _ => ?_); cbv)
        | (refine ex_slenv (fun _ _ _ => ?_); cbv)
        | (refine ex_wrap (by omega) (fun _ _ => ?_); cbv)
        | (refine ix_span (by assumption) (by assumption) (by omega) (by omega) (fun _ _ _ _ => ?_); cbv)
        | (refine ix_rng (by assumption) (by assumption) (by omega) (by omega) (fun _ _ _ => ?_); cbv)
        | (refine ix_str (by assumption) (by assumption) (by omega) (by omega) (fun _ _ _ => ?_); cbv)
        | (refine ix_map (by assumption) (by assumption) (by omega) (by omega) (fun _ _ _ _ _ _ _ => ?_); cbv)
        | (refine ix_int (by assumption) (by assumption) (by omega) (by omega) (fun _ _ _ => ?_); cbv)
        | (refine ex_neq3 (fun _ => ?_) (fun _ _ _ => ?_) <;> cbv)
        | (refine ex_neq2 (fun _ => ?_) (fun _ _ => ?_) <;> cbv)
        | (refine ob_go (by omega) ?_; cbv)
        | (refine ob_go (by kernel_rfl) ?_; cbv)
        | fail)
      · subst hQ2
        cbv
        subst hQ
        cbv
        exact ff_of hr (by rintro rfl; simp_all)
      · subst hQ2 hS2 hμ2 hI2
        subst_vars
        exact ⟨k + 1, by show (_ - (k + 1)).toNat < (_ - k).toNat; omega, ⟨by omega, by omega, at_step k0 hno2 (Eq.trans (by assumption) (Eq.symm (by assumption)))⟩, rfl, rfl⟩
      · subst hQ2
        have htt : t = t2 := eq_of_at hp hp2 (by have : k = p := (by omega); rw [← this]; exact hno2)
        cbv <;> repeat' (first
          | (refine ex_strne ?_ ?_ <;> intro _ <;> first | (exfalso; omega) | cbv)
          | (refine ex_if ?_ ?_ <;> intro _ <;> first | (exfalso; omega) | cbv)
          | (refine line_go 10 ?_; cbv)
          | (refine go_nil ?_ ?_ <;> (try intro _) <;> cbv)
          | (refine ex_bool ?_; cbv)
          | (refine go_tt ?_; cbv)
          | (refine go_ff ?_; cbv)
          | (refine go_tf ?_; cbv)
          | (refine go_ft ?_; cbv)
          | (refine ex_len (by assumption) ?_; cbv)
          | (refine ex_slen (by assumption) ?_; cbv)
          | (refine ex_lenv (fun _ _ _ => ?_); cbv)
          | (refine ex_slenv (fun _ _ _ => ?_); cbv)
          | (refine ex_wrap (by omega) (fun _ _ => ?_); cbv)
          | (refine ix_span (by assumption) (by assumption) (by omega) (by omega) (fun _ _ _ _ => ?_); cbv)
          | (refine ix_rng (by assumption) (by assumption) (by omega) (by omega) (fun _ _ _ => ?_); cbv)
          | (refine ix_str (by assumption) (by assumption) (by omega) (by omega) (fun _ _ _ => ?_); cbv)
          | (refine ix_map (by assumption) (by assumption) (by omega) (by omega) (fun _ _ _ _ _ _ _ => ?_); cbv)
          | (refine ix_int (by assumption) (by assumption) (by omega) (by omega) (fun _ _ _ => ?_); cbv)
          | (refine ex_neq3 (fun _ => ?_) (fun _ _ _ => ?_) <;> cbv)
          | (refine ex_neq2 (fun _ => ?_) (fun _ _ => ?_) <;> cbv)
          | (refine ob_go (by omega) ?_; cbv)
          | (refine ob_go (by kernel_rfl) ?_; cbv)
          | fail)
        subst hQ hS hμ hI
        subst_vars
        exact ⟨i + 1, by show (_ - (i + 1)).toNat < (_ - i).toNat; omega, ⟨by omega, by omega, at_step h0 hno (Eq.trans (by assumption) (Eq.symm (by assumption)))⟩, rfl, rfl⟩
    · subst hQ
      cbv
      exact tt_of hr (eq_of_at hn hm (by have : i = n := (by omega); rw [← this]; exact hno))

end
end Go.Px.Db

