/- Shows a part of the walk of the law; its conditions stand ahead of each theorem. -/
import Derived.Test.YtecojilckmiobaaGreatDoorPxDbP1
set_option linter.unusedVariables false
set_option maxRecDepth 100000
set_option maxHeartbeats 4000000
namespace Go.Px.Db
open Go Go.Px Go.Proofs
section
variable {mm : Int} {E : Env (tab mm)} {a b : Int} {n0 s0 n1 s1 n2 s2 n3 s3 n4 s4 n5 s5 n6 s6 cl de ex lo up ti fo ca ig st co me cf : List PV}
theorem a26 (hP : E.P = Tryz.prog) (i : Int) : AF E 26 [.agg [.int .i64 a, .int .i64 b, .sl n0, .sl s0, .sl n1, .sl s1, .sl n2, .sl s2, .sl n3, .sl s3, .sl n4, .sl s4, .sl n5, .sl s5, .sl n6, .sl s6, .sl cl, .sl de, .sl ex, .sl lo, .sl up, .sl ti, .sl fo, .sl ca, .sl ig, .sl st, .sl co, .sl me, .sl cf], .int .i64 i] (.agg [.sl (nAt i n0 n1 n2 n3 n4 n5 n6), .sl (sAt i s0 s1 s2 s3 s4 s5 s6)]) := by
  apply AF_of_ACw
  refine AC_of_vc (K := keepT 26) (fn := Tryz.f26) (by rw [hP]; exact Tryz.func26) rfl rfl rfl rfl rfl ?_
  cbv <;> repeat' (first
    | (refine ex_strne ?_ ?_ <;> intro _ <;> first | (exfalso; omega) | cbv)
    | (refine ex_if ?_ ?_ <;> intro _ <;> first | (exfalso; omega) | cbv)
    | (refine line_go 10 ?_; cbv)
    | (refine go_nil ?_ ?_ <;> (try intro _) <;> cbv)
    | (refine ex_bool ?_; cbv)
    | (refine go_tt ?_; cbv)
    | (refine go_ff ?_; cbv)
    | (refine go_tf ?_; cbv)
    | (refine go_ft ?_; cbv)
    | (refine ex_len (by assumption) ?_; cbv)
    | (refine ex_slen (by assumption) ?_; cbv)
    | (refine ex_lenv (fun _ _ _ => ?_); cbv)
    | (refine ex_slenv (fun _ _ _ => ?_); cbv)
    | (refine ex_wrap (by omega) (fun _ _ => ?_); cbv)
    | (refine ix_span (by assumption) (by assumption) (by omega) (by omega) (fun _ _ _ _ => ?_); cbv)
    | (refine ix_rng (by assumption) (by assumption) (by omega) (by omega) (fun _ _ _ => ?_); cbv)
    | (refine ix_str (by assumption) (by assumption) (by omega) (by omega) (fun _ _ _ => ?_); cbv)
    | (refine ix_map (by assumption) (by assumption) (by omega) (by omega) (fun _ _ _ _ _ _ _ => ?_); cbv)
    | (refine ix_int (by assumption) (by assumption) (by omega) (by omega) (fun _ _ _ => ?_); cbv)
    | (refine ex_neq3 (fun _ => ?_) (fun _ _ _ => ?_) <;> cbv)
    | (refine ex_neq2 (fun _ => ?_) (fun _ _ => ?_) <;> cbv)
    | (refine ob_go (by omega) ?_; cbv)
    | (refine ob_go (by kernel_rfl) ?_; cbv)
    | fail)
  all_goals simp_all
theorem a29 (hP : E.P = Tryz.prog) (i : Int) : AF E 29 [.agg [.int .i64 a, .int .i64 b, .sl n0, .sl s0, .sl n1, .sl s1, .sl n2, .sl s2, .sl n3, .sl s3, .sl n4, .sl s4, .sl n5, .sl s5, .sl n6, .sl s6, .sl cl, .sl de, .sl ex, .sl lo, .sl up, .sl ti, .sl fo, .sl ca, .sl ig, .sl st, .sl co, .sl me, .sl cf], .int .i64 i] (.agg [.sl (tAt i ex ca ig st co me)]) := by
  apply AF_of_ACw
  refine AC_of_vc (K := keepT 29) (fn := Tryz.f29) (by rw [hP]; exact Tryz.func29) rfl rfl rfl rfl rfl ?_
  cbv <;> repeat' (first
    | (refine ex_strne ?_ ?_ <;> intro _ <;> first | (exfalso; omega) | cbv)
    | (refine ex_if ?_ ?_ <;> intro _ <;> first | (exfalso; omega) | cbv)
    | (refine line_go 10 ?_; cbv)
    | (refine go_nil ?_ ?_ <;> (try intro _) <;> cbv)
    | (refine ex_bool ?_; cbv)
    | (refine go_tt ?_; cbv)
    | (refine go_ff ?_; cbv)
    | (refine go_tf ?_; cbv)
    | (refine go_ft ?_; cbv)
    | (refine ex_len (by assumption) ?_; cbv)
    | (refine ex_slen (by assumption) ?_; cbv)
    | (refine ex_lenv (fun _ _ _ => ?_); cbv)
    | (refine ex_slenv (fun _ _ _ => ?_); cbv)
    | (refine ex_wrap (by omega) (fun _ _ => ?_); cbv)
    | (refine ix_span (by assumption) (by assumption) (by omega) (by omega) (fun _ _ _ _ => ?_); cbv)
    | (refine ix_rng (by assumption) (by assumption) (by omega) (by omega) (fun _ _ _ => ?_); cbv)
    | (refine ix_str (by assumption) (by assumption) (by omega) (by omega) (fun _ _ _ => ?_); cbv)
    | (refine ix_map (by assumption) (by assumption) (by omega) (by omega) (fun _ _ _ _ _ _ _ => ?_); cbv)
    | (refine ix_int (by assumption) (by assumption) (by omega) (by omega) (fun _ _ _ => ?_); cbv)
    | (refine ex_neq3 (fun _ => ?_) (fun _ _ _ => ?_) <;> cbv)
    | (refine ex_neq2 (fun _ => ?_) (fun _ _ => ?_) <;> cbv)
    | (refine ob_go (by omega) ?_; cbv)
    | (refine ob_go (by kernel_rfl) ?_; cbv)
    | fail)
  all_goals simp_all
theorem a24 (hP : E.P = Tryz.prog) {xs ys us vs : List PV} (hx : Strs xs) (hy : Spans ys) (hu : Strs us) (hv : Spans vs) (lx : Len xs) (ly : Len ys) (lu : Len us) (lv : Len vs) {r : Bool} (hr : r = true ↔ xs = us ∧ ys = vs) : AF E 24 [.agg [.sl xs, .sl ys], .agg [.sl us, .sl vs]] (.bool r) := by
  apply AF_of_AC
  refine AC_of_vc (K := keepT 24) (fn := Tryz.f24) (by rw [hP]; exact Tryz.func24) rfl rfl rfl rfl rfl ?_
  cbv <;> repeat' (first
    | (refine go_if (fun r hr => a30 hP hx hu lx lu hr) ?_ ?_ <;> intro _ <;> cbv)
    | (refine go_if (fun r hr => a40 hP hy hv ly lv hr) ?_ ?_ <;> intro _ <;> cbv)
    | (refine ex_strne ?_ ?_ <;> intro _ <;> first | (exfalso; omega) | cbv)
    | (refine ex_if ?_ ?_ <;> intro _ <;> first | (exfalso; omega) | cbv)
    | (refine line_go 10 ?_; cbv)
    | (refine go_nil ?_ ?_ <;> (try intro _) <;> cbv)
    | (refine ex_bool ?_; cbv)
    | (refine go_tt ?_; cbv)
    | (refine go_ff ?_; cbv)
    | (refine go_tf ?_; cbv)
    | (refine go_ft ?_; cbv)
    | (refine ex_len (by assumption) ?_; cbv)
    | (refine ex_slen (by assumption) ?_; cbv)
    | (refine ex_lenv (fun _ _ _ => ?_); cbv)
    | (refine ex_slenv (fun _ _ _ => ?_); cbv)
    | (refine ex_wrap (by omega) (fun _ _ => ?_); cbv)
    | (refine ix_span (by assumption) (by assumption) (by omega) (by omega) (fun _ _ _ _ => ?_); cbv)
    | (refine ix_rng (by assumption) (by assumption) (by omega) (by omega) (fun _ _ _ => ?_); cbv)
    | (refine ix_str (by assumption) (by assumption) (by omega) (by omega) (fun _ _ _ => ?_); cbv)
    | (refine ix_map (by assumption) (by assumption) (by omega) (by omega) (fun _ _ _ _ _ _ _ => ?_); cbv)
    | (refine ix_int (by assumption) (by assumption) (by omega) (by omega) (fun _ _ _ => ?_); cbv)
    | (refine ex_neq3 (fun _ => ?_) (fun _ _ _ => ?_) <;> cbv)
    | (refine ex_neq2 (fun _ => ?_) (fun _ _ => ?_) <;> cbv)
    | (refine ob_go (by omega) ?_; cbv)
    | (refine ob_go (by kernel_rfl) ?_; cbv)
    | fail)
  · exact tt_of hr ⟨by assumption, by assumption⟩
  · exact ff_of hr (fun h => absurd h.2 (by assumption))
  · exact ff_of hr (fun h => absurd h.1 (by assumption))
theorem a42 (hP : E.P = Tryz.prog) (C : List PV) (hC : [.int .i64 a, .int .i64 b, .sl n0, .sl s0, .sl n1, .sl s1, .sl n2, .sl s2, .sl n3, .sl s3, .sl n4, .sl s4, .sl n5, .sl s5, .sl n6, .sl s6, .sl cl, .sl de, .sl ex, .sl lo, .sl up, .sl ti, .sl fo, .sl ca, .sl ig, .sl st, .sl co, .sl me, .sl cf] = C) : AF E 42 [.pp [.int .i64 a, .int .i64 b, .sl n0, .sl s0, .sl n1, .sl s1, .sl n2, .sl s2, .sl n3, .sl s3, .sl n4, .sl s4, .sl n5, .sl s5, .sl n6, .sl s6, .sl cl, .sl de, .sl ex, .sl lo, .sl up, .sl ti, .sl fo, .sl ca, .sl ig, .sl st, .sl co, .sl me, .sl cf] 0] (.sl [.pp C 2, .pp C 4, .pp C 6, .pp C 8, .pp C 10, .pp C 12, .pp C 14]) := by
  apply AF_of_AC
  refine AC_of_vc (K := keepT 42) (fn := Tryz.f42) (by rw [hP]; exact Tryz.func42) rfl rfl rfl rfl rfl ?_
  cbv <;> repeat' (first
    | (refine ex_strne ?_ ?_ <;> intro _ <;> first | (exfalso; omega) | cbv)
    | (refine ex_if ?_ ?_ <;> intro _ <;> first | (exfalso; omega) | cbv)
    | (refine line_go 10 ?_; cbv)
    | (refine go_nil ?_ ?_ <;> (try intro _) <;> cbv)
    | (refine ex_bool ?_; cbv)
    | (refine go_tt ?_; cbv)
    | (refine go_ff ?_; cbv)
    | (refine go_tf ?_; cbv)
    | (refine go_ft ?_; cbv)
    | (refine ex_len (by assumption) ?_; cbv)
    | (refine ex_slen (by assumption) ?_; cbv)
    | (refine ex_lenv (fun _ _ _ => ?_); cbv)
    | (refine ex_slenv (fun _ _ _ => ?_); cbv)
    | (refine ex_wrap (by omega) (fun _ _ => ?_); cbv)
    | (refine ix_span (by assumption) (by assumption) (by omega) (by omega) (fun _ _ _ _ => ?_); cbv)
    | (refine ix_rng (by assumption) (by assumption) (by omega) (by omega) (fun _ _ _ => ?_); cbv)
    | (refine ix_str (by assumption) (by assumption) (by omega) (by omega) (fun _ _ _ => ?_); cbv)
    | (refine ix_map (by assumption) (by assumption) (by omega) (by omega) (fun _ _ _ _ _ _ _ => ?_); cbv)
    | (refine ix_int (by assumption) (by assumption) (by omega) (by omega) (fun _ _ _ => ?_); cbv)
    | (refine ex_neq3 (fun _ => ?_) (fun _ _ _ => ?_) <;> cbv)
    | (refine ex_neq2 (fun _ => ?_) (fun _ _ => ?_) <;> cbv)
    | (refine ob_go (by omega) ?_; cbv)
    | (refine ob_go (by kernel_rfl) ?_; cbv)
    | fail)
  subst hC
  rfl
theorem a51 (hP : E.P = Tryz.prog) (C : List PV) (hC : [.int .i64 a, .int .i64 b, .sl n0, .sl s0, .sl n1, .sl s1, .sl n2, .sl s2, .sl n3, .sl s3, .sl n4, .sl s4, .sl n5, .sl s5, .sl n6, .sl s6, .sl cl, .sl de, .sl ex, .sl lo, .sl up, .sl ti, .sl fo, .sl ca, .sl ig, .sl st, .sl co, .sl me, .sl cf] = C) : AF E 51 [.pp [.int .i64 a, .int .i64 b, .sl n0, .sl s0, .sl n1, .sl s1, .sl n2, .sl s2, .sl n3, .sl s3, .sl n4, .sl s4, .sl n5, .sl s5, .sl n6, .sl s6, .sl cl, .sl de, .sl ex, .sl lo, .sl up, .sl ti, .sl fo, .sl ca, .sl ig, .sl st, .sl co, .sl me, .sl cf] 0] (.sl [.pp C 18, .pp C 23, .pp C 24, .pp C 25, .pp C 26, .pp C 27]) := by
  apply AF_of_AC
  refine AC_of_vc (K := keepT 51) (fn := Tryz.f51) (by rw [hP]; exact Tryz.func51) rfl rfl rfl rfl rfl ?_
  cbv <;> repeat' (first
    | (refine ex_strne ?_ ?_ <;> intro _ <;> first | (exfalso; omega) | cbv)
    | (refine ex_if ?_ ?_ <;> intro _ <;> first | (exfalso; omega) | cbv)
    | (refine line_go 10 ?_; cbv)
    | (refine go_nil ?_ ?_ <;> (try intro _) <;> cbv)
    | (refine ex_bool ?_; cbv)
    | (refine go_tt ?_; cbv)
    | (refine go_ff ?_; cbv)
    | (refine go_tf ?_; cbv)
    | (refine go_ft ?_; cbv)
    | (refine ex_len (by assumption) ?_; cbv)
    | (refine ex_slen (by assumption) ?_; cbv)
    | (refine ex_lenv (fun _ _ _ => ?_); cbv)
    | (refine ex_slenv (fun _ _ _ => ?_); cbv)
    | (refine ex_wrap (by omega) (fun _ _ => ?_); cbv)
    | (refine ix_span (by assumption) (by assumption) (by omega) (by omega) (fun _ _ _ _ => ?_); cbv)
    | (refine ix_rng (by assumption) (by assumption) (by omega) (by omega) (fun _ _ _ => ?_); cbv)
    | (refine ix_str (by assumption) (by assumption) (by omega) (by omega) (fun _ _ _ => ?_); cbv)
    | (refine ix_map (by assumption) (by assumption) (by omega) (by omega) (fun _ _ _ _ _ _ _ => ?_); cbv)
    | (refine ix_int (by assumption) (by assumption) (by omega) (by omega) (fun _ _ _ => ?_); cbv)
    | (refine ex_neq3 (fun _ => ?_) (fun _ _ _ => ?_) <;> cbv)
    | (refine ex_neq2 (fun _ => ?_) (fun _ _ => ?_) <;> cbv)
    | (refine ob_go (by omega) ?_; cbv)
    | (refine ob_go (by kernel_rfl) ?_; cbv)
    | fail)
  subst hC
  rfl
theorem a48 (hP : E.P = Tryz.prog) {xs : List PV} (hx : Strs xs) (ln : xs.length ≤ 100) : AF E 48 [.sl xs] (.sl xs) := by
  obtain ⟨k, hk⟩ : ∃ k : Nat, xs.length = k := ⟨_, rfl⟩
  rw [hk] at ln
  apply AF_of_ACw
  refine AC_of_vc (K := keepT 48) (fn := Tryz.f48) (by rw [hP]; exact Tryz.func48) rfl rfl rfl rfl rfl ?_
  cbv <;> repeat' (first
    | (refine ex_strne ?_ ?_ <;> intro _ <;> first | (exfalso; omega) | cbv)
    | (refine ex_if ?_ ?_ <;> intro _ <;> first | (exfalso; omega) | cbv)
    | (refine line_go 10 ?_; cbv)
    | (refine go_nil ?_ ?_ <;> (try intro _) <;> cbv)
    | (refine ex_bool ?_; cbv)
    | (refine go_tt ?_; cbv)
    | (refine go_ff ?_; cbv)
    | (refine go_tf ?_; cbv)
    | (refine go_ft ?_; cbv)
    | (refine ex_len (by assumption) ?_; cbv)
    | (refine ex_slen (by assumption) ?_; cbv)
    | (refine ex_lenv (fun _ _ _ => ?_); cbv)
    | (refine ex_slenv (fun _ _ _ => ?_); cbv)
    | (refine ex_wrap (by omega) (fun _ _ => ?_); cbv)
    | (refine ix_span (by assumption) (by assumption) (by omega) (by omega) (fun _ _ _ _ => ?_); cbv)
    | (refine ix_rng (by assumption) (by assumption) (by omega) (by omega) (fun _ _ _ => ?_); cbv)
    | (refine ix_str (by assumption) (by assumption) (by omega) (by omega) (fun _ _ _ => ?_); cbv)
    | (refine ix_map (by assumption) (by assumption) (by omega) (by omega) (fun _ _ _ _ _ _ _ => ?_); cbv)
    | (refine ix_int (by assumption) (by assumption) (by omega) (by omega) (fun _ _ _ => ?_); cbv)
    | (refine ex_neq3 (fun _ => ?_) (fun _ _ _ => ?_) <;> cbv)
    | (refine ex_neq2 (fun _ => ?_) (fun _ _ => ?_) <;> cbv)
    | (refine ob_go (by omega) ?_; cbv)
    | (refine ob_go (by kernel_rfl) ?_; cbv)
    | fail)
  · exact .inr (by rename_i h; rw [h])
  · refine ⟨ob (fun x h => ?_), ob rfl, xs, k, rfl, hk, ob (show k * 16 ≤ 140737488355328 by omega), ?_⟩
    · obtain ⟨_, rfl, _⟩ := hx x h
      rfl
    cbv <;> repeat' (first
      | (refine ex_strne ?_ ?_ <;> intro _ <;> first | (exfalso; omega) | cbv)
      | (refine ex_if ?_ ?_ <;> intro _ <;> first | (exfalso; omega) | cbv)
      | (refine line_go 10 ?_; cbv)
      | (refine go_nil ?_ ?_ <;> (try intro _) <;> cbv)
      | (refine ex_bool ?_; cbv)
      | (refine go_tt ?_; cbv)
      | (refine go_ff ?_; cbv)
      | (refine go_tf ?_; cbv)
      | (refine go_ft ?_; cbv)
      | (refine ex_len (by assumption) ?_; cbv)
      | (refine ex_slen (by assumption) ?_; cbv)
      | (refine ex_lenv (fun _ _ _ => ?_); cbv)
      | (refine ex_slenv (fun _ _ _ => ?_); cbv)
      | (refine ex_wrap (by omega) (fun _ _ => ?_); cbv)
      | (refine ix_span (by assumption) (by assumption) (by omega) (by omega) (fun _ _ _ _ => ?_); cbv)
      | (refine ix_rng (by assumption) (by assumption) (by omega) (by omega) (fun _ _ _ => ?_); cbv)
      | (refine ix_str (by assumption) (by assumption) (by omega) (by omega) (fun _ _ _ => ?_); cbv)
      | (refine ix_map (by assumption) (by assumption) (by omega) (by omega) (fun _ _ _ _ _ _ _ => ?_); cbv)
      | (refine ix_int (by assumption) (by assumption) (by omega) (by omega) (fun _ _ _ => ?_); cbv)
      | (refine ex_neq3 (fun _ => ?_) (fun _ _ _ => ?_) <;> cbv)
      | (refine ex_neq2 (fun _ => ?_) (fun _ _ => ?_) <;> cbv)
      | (refine ob_go (by omega) ?_; cbv)
      | (refine ob_go (by kernel_rfl) ?_; cbv)
      | fail)
    exact ⟨by subst hk; cases xs <;> rfl, trivial⟩
theorem a49 (hP : E.P = Tryz.prog) {xs : List PV} (hx : Spans xs) (ln : xs.length ≤ 100) : AF E 49 [.sl xs] (.sl xs) := by
  obtain ⟨k, hk⟩ : ∃ k : Nat, xs.length = k := ⟨_, rfl⟩
  rw [hk] at ln
  apply AF_of_ACw
  refine AC_of_vc (K := keepT 49) (fn := Tryz.f49) (by rw [hP]; exact Tryz.func49) rfl rfl rfl rfl rfl ?_
  cbv <;> repeat' (first
    | (refine ex_strne ?_ ?_ <;> intro _ <;> first | (exfalso; omega) | cbv)
    | (refine ex_if ?_ ?_ <;> intro _ <;> first | (exfalso; omega) | cbv)
    | (refine line_go 10 ?_; cbv)
    | (refine go_nil ?_ ?_ <;> (try intro _) <;> cbv)
    | (refine ex_bool ?_; cbv)
    | (refine go_tt ?_; cbv)
    | (refine go_ff ?_; cbv)
    | (refine go_tf ?_; cbv)
    | (refine go_ft ?_; cbv)
    | (refine ex_len (by assumption) ?_; cbv)
    | (refine ex_slen (by assumption) ?_; cbv)
    | (refine ex_lenv (fun _ _ _ => ?_); cbv)
    | (refine ex_slenv (fun _ _ _ => ?_); cbv)
    | (refine ex_wrap (by omega) (fun _ _ => ?_); cbv)
    | (refine ix_span (by assumption) (by assumption) (by omega) (by omega) (fun _ _ _ _ => ?_); cbv)
    | (refine ix_rng (by assumption) (by assumption) (by omega) (by omega) (fun _ _ _ => ?_); cbv)
    | (refine ix_str (by assumption) (by assumption) (by omega) (by omega) (fun _ _ _ => ?_); cbv)
    | (refine ix_map (by assumption) (by assumption) (by omega) (by omega) (fun _ _ _ _ _ _ _ => ?_); cbv)
    | (refine ix_int (by assumption) (by assumption) (by omega) (by omega) (fun _ _ _ => ?_); cbv)
    | (refine ex_neq3 (fun _ => ?_) (fun _ _ _ => ?_) <;> cbv)
    | (refine ex_neq2 (fun _ => ?_) (fun _ _ => ?_) <;> cbv)
    | (refine ob_go (by omega) ?_; cbv)
    | (refine ob_go (by kernel_rfl) ?_; cbv)
    | fail)
  · exact .inr (by rename_i h; rw [h])
  · refine ⟨ob (fun x h => ?_), ob rfl, xs, k, rfl, hk, ob (show k * 24 ≤ 140737488355328 by omega), ?_⟩
    · obtain ⟨_, _, _, rfl, _⟩ := hx x h
      rfl
    cbv <;> repeat' (first
      | (refine ex_strne ?_ ?_ <;> intro _ <;> first | (exfalso; omega) | cbv)
      | (refine ex_if ?_ ?_ <;> intro _ <;> first | (exfalso; omega) | cbv)
      | (refine line_go 10 ?_; cbv)
      | (refine go_nil ?_ ?_ <;> (try intro _) <;> cbv)
      | (refine ex_bool ?_; cbv)
      | (refine go_tt ?_; cbv)
      | (refine go_ff ?_; cbv)
      | (refine go_tf ?_; cbv)
      | (refine go_ft ?_; cbv)
      | (refine ex_len (by assumption) ?_; cbv)
      | (refine ex_slen (by assumption) ?_; cbv)
      | (refine ex_lenv (fun _ _ _ => ?_); cbv)
      | (refine ex_slenv (fun _ _ _ => ?_); cbv)
      | (refine ex_wrap (by omega) (fun _ _ => ?_); cbv)
      | (refine ix_span (by assumption) (by assumption) (by omega) (by omega) (fun _ _ _ _ => ?_); cbv)
      | (refine ix_rng (by assumption) (by assumption) (by omega) (by omega) (fun _ _ _ => ?_); cbv)
      | (refine ix_str (by assumption) (by assumption) (by omega) (by omega) (fun _ _ _ => ?_); cbv)
      | (refine ix_map (by assumption) (by assumption) (by omega) (by omega) (fun _ _ _ _ _ _ _ => ?_); cbv)
      | (refine ix_int (by assumption) (by assumption) (by omega) (by omega) (fun _ _ _ => ?_); cbv)
      | (refine ex_neq3 (fun _ => ?_) (fun _ _ _ => ?_) <;> cbv)
      | (refine ex_neq2 (fun _ => ?_) (fun _ _ => ?_) <;> cbv)
      | (refine ob_go (by omega) ?_; cbv)
      | (refine ob_go (by kernel_rfl) ?_; cbv)
      | fail)
    exact ⟨by subst hk; cases xs <;> rfl, trivial⟩
theorem a97 (hP : E.P = Tryz.prog) {xs : List PV} (hx : Rngs xs) (ln : xs.length ≤ 100) : AF E 97 [.sl xs] (.sl xs) := by
  obtain ⟨k, hk⟩ : ∃ k : Nat, xs.length = k := ⟨_, rfl⟩
  rw [hk] at ln
  apply AF_of_ACw
  refine AC_of_vc (K := keepT 97) (fn := Tryz.f97) (by rw [hP]; exact Tryz.func97) rfl rfl rfl rfl rfl ?_
  cbv <;> repeat' (first
    | (refine ex_strne ?_ ?_ <;> intro _ <;> first | (exfalso; omega) | cbv)
    | (refine ex_if ?_ ?_ <;> intro _ <;> first | (exfalso; omega) | cbv)
    | (refine line_go 10 ?_; cbv)
    | (refine go_nil ?_ ?_ <;> (try intro _) <;> cbv)
    | (refine ex_bool ?_; cbv)
    | (refine go_tt ?_; cbv)
    | (refine go_ff ?_; cbv)
    | (refine go_tf ?_; cbv)
    | (refine go_ft ?_; cbv)
    | (refine ex_len (by assumption) ?_; cbv)
    | (refine ex_slen (by assumption) ?_; cbv)
    | (refine ex_lenv (fun _ _ _ => ?_); cbv)
    | (refine ex_slenv (fun _ _ _ => ?_); cbv)
    | (refine ex_wrap (by omega) (fun _ _ => ?_); cbv)
    | (refine ix_span (by assumption) (by assumption) (by omega) (by omega) (fun _ _ _ _ => ?_); cbv)
    | (refine ix_rng (by assumption) (by assumption) (by omega) (by omega) (fun _ _ _ => ?_); cbv)
    | (refine ix_str (by assumption) (by assumption) (by omega) (by omega) (fun _ _ _ => ?_); cbv)
    | (refine ix_map (by assumption) (by assumption) (by omega) (by omega) (fun _ _ _ _ _ _ _ => ?_); cbv)
    | (refine ix_int (by assumption) (by assumption) (by omega) (by omega) (fun _ _ _ => ?_); cbv)
    | (refine ex_neq3 (fun _ => ?_) (fun _ _ _ => ?_) <;> cbv)
    | (refine ex_neq2 (fun _ => ?_) (fun _ _ => ?_) <;> cbv)
    | (refine ob_go (by omega) ?_; cbv)
    | (refine ob_go (by kernel_rfl) ?_; cbv)
    | fail)
  · exact .inr (by rename_i h; rw [h])
  · refine ⟨ob (fun x h => ?_), ob rfl, xs, k, rfl, hk, ob (show k * 16 ≤ 140737488355328 by omega), ?_⟩
    · obtain ⟨_, _, rfl, _⟩ := hx x h
      rfl
    cbv <;> repeat' (first
      | (refine ex_strne ?_ ?_ <;> intro _ <;> first | (exfalso; omega) | cbv)
      | (refine ex_if ?_ ?_ <;> intro _ <;> first | (exfalso; omega) | cbv)
      | (refine line_go 10 ?_; cbv)
      | (refine go_nil ?_ ?_ <;> (try intro _) <;> cbv)
      | (refine ex_bool ?_; cbv)
      | (refine go_tt ?_; cbv)
      | (refine go_ff ?_; cbv)
      | (refine go_tf ?_; cbv)
      | (refine go_ft ?_; cbv)
      | (refine ex_len (by assumption) ?_; cbv)
      | (refine ex_slen (by assumption) ?_; cbv)
      | (refine ex_lenv (fun _ _ _ => ?_); cbv)
      | (refine ex_slenv (fun _ _ _ => ?_); cbv)
      | (refine ex_wrap (by omega) (fun _ _ => ?_); cbv)
      | (refine ix_span (by assumption) (by assumption) (by omega) (by omega) (fun _ _ _ _ => ?_); cbv)
      | (refine ix_rng (by assumption) (by assumption) (by omega) (by omega) (fun _ _ _ => ?_); cbv)
      | (refine ix_str (by assumption) (by assumption) (by omega) (by omega) (fun _ _ _ => ?_); cbv)
      | (refine ix_map (by assumption) (by assumption) (by omega) (by omega) (fun _ _ _ _ _ _ _ => ?_); cbv)
      | (refine ix_int (by assumption) (by assumption) (by omega) (by omega) (fun _ _ _ => ?_); cbv)
      | (refine ex_neq3 (fun _ => ?_) (fun _ _ _ => ?_) <;> cbv)
      | (refine ex_neq2 (fun _ => ?_) (fun _ _ => ?_) <;> cbv)
      | (refine ob_go (by omega) ?_; cbv)
      | (refine ob_go (by kernel_rfl) ?_; cbv)
      | fail)
    exact ⟨by subst hk; cases xs <;> rfl, trivial⟩
theorem a50 (hP : E.P = Tryz.prog) {xs : List PV} (hx : Rngs xs) (ln : xs.length ≤ 100) : AF E 50 [.agg [.sl xs]] (.agg [.sl xs]) := by
  apply AF_of_AC
  refine AC_of_vc (K := keepT 50) (fn := Tryz.f50) (by rw [hP]; exact Tryz.func50) rfl rfl rfl rfl rfl ?_
  cbv <;> repeat' (first
    | (refine go_val (a97 hP hx ln) ?_; cbv)
    | (refine ex_strne ?_ ?_ <;> intro _ <;> first | (exfalso; omega) | cbv)
    | (refine ex_if ?_ ?_ <;> intro _ <;> first | (exfalso; omega) | cbv)
    | (refine line_go 10 ?_; cbv)
    | (refine go_nil ?_ ?_ <;> (try intro _) <;> cbv)
    | (refine ex_bool ?_; cbv)
    | (refine go_tt ?_; cbv)
    | (refine go_ff ?_; cbv)
    | (refine go_tf ?_; cbv)
    | (refine go_ft ?_; cbv)
    | (refine ex_len (by assumption) ?_; cbv)
    | (refine ex_slen (by assumption) ?_; cbv)
    | (refine ex_lenv (fun _ _ _ => ?_); cbv)
    | (refine ex_slenv (fun _ _ _ => ?_); cbv)
    | (refine ex_wrap (by omega) (fun _ _ => ?_); cbv)
    | (refine ix_span (by assumption) (by assumption) (by omega) (by omega) (fun _ _ _ _ => ?_); cbv)
    | (refine ix_rng (by assumption) (by assumption) (by omega) (by omega) (fun _ _ _ => ?_); cbv)
    | (refine ix_str (by assumption) (by assumption) (by omega) (by omega) (fun _ _ _ => ?_); cbv)
    | (refine ix_map (by assumption) (by assumption) (by omega) (by omega) (fun _ _ _ _ _ _ _ => ?_); cbv)
    | (refine ix_int (by assumption) (by assumption) (by omega) (by omega) (fun _ _ _ => ?_); cbv)
    | (refine ex_neq3 (fun _ => ?_) (fun _ _ _ => ?_) <;> cbv)
    | (refine ex_neq2 (fun _ => ?_) (fun _ _ => ?_) <;> cbv)
    | (refine ob_go (by omega) ?_; cbv)
    | (refine ob_go (by kernel_rfl) ?_; cbv)
    | fail)
end
end Go.Px.Db

