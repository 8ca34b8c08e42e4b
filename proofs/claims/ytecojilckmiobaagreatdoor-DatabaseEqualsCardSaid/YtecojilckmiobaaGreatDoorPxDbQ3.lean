/- Shows a part of the walk of the law; its conditions stand ahead of each theorem. -/
import Derived.Test.YtecojilckmiobaaGreatDoorPxDbQ1
set_option linter.unusedVariables false
set_option maxRecDepth 100000
set_option maxHeartbeats 4000000
namespace Go.Px.Db
open Go Go.Px Go.Proofs
noncomputable section
section
variable {mm : Int} {E : Env (tab mm)} {a b a2 b2 : Int} {n0 s0 n1 s1 n2 s2 n3 s3 n4 s4 n5 s5 n6 s6 cl de ex lo up ti fo ca ig st co me cf n0q s0q n1q s1q n2q s2q n3q s3q n4q s4q n5q s5q n6q s6q clq deq exq loq upq tiq foq caq igq stq coq meq cfq : List PV}
theorem a58 (hP : E.P = Tryz.prog) {xs ys us vs : List PV} (hx : Strs xs) (hy : Spans ys) (hu : Strs us) (hv : Spans vs) (lx : Len xs) (ly : Len ys) (lu : Len us) (lv : Len vs) {r : Bool} (hr : r = true ↔ xs = us ∧ ys = vs) : AF E 58 [.agg [.sl xs, .sl ys], .agg [.sl us, .sl vs]] (.bool r) := by
  apply AF_of_AC
  refine AC_of_vc (K := keepT 58) (fn := Tryz.f58) (by rw [hP]; exact Tryz.func58) rfl rfl rfl rfl rfl ?_
  cbv <;> repeat' (first
    | (refine go_if (fun r hr => a59 hP hx hu lx lu hr) ?_ ?_ <;> intro _ <;> cbv)
    | (refine go_if (fun r hr => a53 hP hy hv ly lv hr) ?_ ?_ <;> intro _ <;> cbv)
    | (refine ex_strne ?_ ?_ <;> intro _ <;> first | (exfalso; omega) | cbv)
    | (refine ex_if ?_ ?_ <;> intro _ <;> first | (exfalso; omega) | cbv)
    | (refine line_go 10 ?_; cbv)
    | (refine go_nil ?_ ?_ <;> (try intro _) <;> cbv)
    | (refine ex_bool ?_; cbv)
    | (refine go_tt ?_; cbv)
    | (refine go_ff ?_; cbv)
    | (refine go_tf ?_; cbv)
    | (refine go_ft ?_; cbv)
    | (refine ex_len (by assumption) ?_; cbv)
    | (refine ex_slen (by assumption) ?_; cbv)
    | (refine ex_lenv (fun _ _ _ => ?_); cbv)
    | (refine ex_slenv (fun _ _ _ => ?_); cbv)
    | (refine ex_wrap (by omega) (fun _ _ => ?_); cbv)
    | (refine ix_span (by assumption) (by assumption) (by omega) (by omega) (fun _ _ _ _ => ?_); cbv)
    | (refine ix_rng (by assumption) (by assumption) (by omega) (by omega) (fun _ _ _ => ?_); cbv)
    | (refine ix_str (by assumption) (by assumption) (by omega) (by omega) (fun _ _ _ => ?_); cbv)
    | (refine ix_map (by assumption) (by assumption) (by omega) (by omega) (fun _ _ _ _ _ _ _ => ?_); cbv)
    | (refine ix_int (by assumption) (by assumption) (by omega) (by omega) (fun _ _ _ => ?_); cbv)
    | (refine ex_neq3 (fun _ => ?_) (fun _ _ _ => ?_) <;> cbv)
    | (refine ex_neq2 (fun _ => ?_) (fun _ _ => ?_) <;> cbv)
    | (refine ob_go (by omega) ?_; cbv)
    | (refine ob_go (by kernel_rfl) ?_; cbv)
    | fail)
  · exact tt_of hr ⟨by assumption, by assumption⟩
  · exact ff_of hr (fun h => absurd h.2 (by assumption))
  · exact ff_of hr (fun h => absurd h.1 (by assumption))
theorem c107_n0 (hP : E.P = Tryz.prog) (q_n0 : Strs n0) (t_n0 : Len n0) (q_s0 : Spans s0) (t_s0 : Len s0) (q_n0q : Strs n0q) (t_n0q : Len n0q) (q_s0q : Spans s0q) (t_s0q : Len s0q) {r : Bool} (hr : r = true ↔ n0 = n0q ∧ s0 = s0q) : AF E 107 [.pp [.int .i64 a, .int .i64 b, .sl n0, .sl s0, .sl n1, .sl s1, .sl n2, .sl s2, .sl n3, .sl s3, .sl n4, .sl s4, .sl n5, .sl s5, .sl n6, .sl s6, .sl cl, .sl de, .sl ex, .sl lo, .sl up, .sl ti, .sl fo, .sl ca, .sl ig, .sl st, .sl co, .sl me, .sl cf] 2, .pp [.int .i64 a2, .int .i64 b2, .sl n0q, .sl s0q, .sl n1q, .sl s1q, .sl n2q, .sl s2q, .sl n3q, .sl s3q, .sl n4q, .sl s4q, .sl n5q, .sl s5q, .sl n6q, .sl s6q, .sl clq, .sl deq, .sl exq, .sl loq, .sl upq, .sl tiq, .sl foq, .sl caq, .sl igq, .sl stq, .sl coq, .sl meq, .sl cfq] 2, .pp [.fn (.func 58) [] []] 0] (.bool r) := by
  have c := a58 (E := E) hP q_n0 q_s0 q_n0q q_s0q t_n0 t_s0 t_n0q t_s0q hr
  apply AF_of_AC
  refine AC_of_vc (K := keepT 107) (fn := Tryz.f107) (by rw [hP]; exact Tryz.func107) rfl rfl rfl rfl rfl ?_
  cbv <;> repeat' (first
    | (refine go_val c ?_; cbv)
    | (refine ex_strne ?_ ?_ <;> intro _ <;> first | (exfalso; omega) | cbv)
    | (refine ex_if ?_ ?_ <;> intro _ <;> first | (exfalso; omega) | cbv)
    | (refine line_go 10 ?_; cbv)
    | (refine go_nil ?_ ?_ <;> (try intro _) <;> cbv)
    | (refine ex_bool ?_; cbv)
    | (refine go_tt ?_; cbv)
    | (refine go_ff ?_; cbv)
    | (refine go_tf ?_; cbv)
    | (refine go_ft ?_; cbv)
    | (refine ex_len (by assumption) ?_; cbv)
    | (refine ex_slen (by assumption) ?_; cbv)
    | (refine ex_lenv (fun _ _ _ => ?_); cbv)
    | (refine ex_slenv (fun _ _ _ => ?_); cbv)
    | (refine ex_wrap (by omega) (fun _ _ => ?_); cbv)
    | (refine ix_span (by assumption) (by assumption) (by omega) (by omega) (fun _ _ _ _ => ?_); cbv)
    | (refine ix_rng (by assumption) (by assumption) (by omega) (by omega) (fun _ _ _ => ?_); cbv)
    | (refine ix_str (by assumption) (by assumption) (by omega) (by omega) (fun _ _ _ => ?_); cbv)
    | (refine ix_map (by assumption) (by assumption) (by omega) (by omega) (fun _ _ _ _ _ _ _ => ?_); cbv)
    | (refine ix_int (by assumption) (by assumption) (by omega) (by omega) (fun _ _ _ => ?_); cbv)
    | (refine ex_neq3 (fun _ => ?_) (fun _ _ _ => ?_) <;> cbv)
    | (refine ex_neq2 (fun _ => ?_) (fun _ _ => ?_) <;> cbv)
    | (refine ob_go (by omega) ?_; cbv)
    | (refine ob_go (by kernel_rfl) ?_; cbv)
    | fail)
  all_goals trivial
theorem c107_n1 (hP : E.P = Tryz.prog) (q_n1 : Strs n1) (t_n1 : Len n1) (q_s1 : Spans s1) (t_s1 : Len s1) (q_n1q : Strs n1q) (t_n1q : Len n1q) (q_s1q : Spans s1q) (t_s1q : Len s1q) {r : Bool} (hr : r = true ↔ n1 = n1q ∧ s1 = s1q) : AF E 107 [.pp [.int .i64 a, .int .i64 b, .sl n0, .sl s0, .sl n1, .sl s1, .sl n2, .sl s2, .sl n3, .sl s3, .sl n4, .sl s4, .sl n5, .sl s5, .sl n6, .sl s6, .sl cl, .sl de, .sl ex, .sl lo, .sl up, .sl ti, .sl fo, .sl ca, .sl ig, .sl st, .sl co, .sl me, .sl cf] 4, .pp [.int .i64 a2, .int .i64 b2, .sl n0q, .sl s0q, .sl n1q, .sl s1q, .sl n2q, .sl s2q, .sl n3q, .sl s3q, .sl n4q, .sl s4q, .sl n5q, .sl s5q, .sl n6q, .sl s6q, .sl clq, .sl deq, .sl exq, .sl loq, .sl upq, .sl tiq, .sl foq, .sl caq, .sl igq, .sl stq, .sl coq, .sl meq, .sl cfq] 4, .pp [.fn (.func 58) [] []] 0] (.bool r) := by
  have c := a58 (E := E) hP q_n1 q_s1 q_n1q q_s1q t_n1 t_s1 t_n1q t_s1q hr
  apply AF_of_AC
  refine AC_of_vc (K := keepT 107) (fn := Tryz.f107) (by rw [hP]; exact Tryz.func107) rfl rfl rfl rfl rfl ?_
  cbv <;> repeat' (first
    | (refine go_val c ?_; cbv)
    | (refine ex_strne ?_ ?_ <;> intro _ <;> first | (exfalso; omega) | cbv)
    | (refine ex_if ?_ ?_ <;> intro _ <;> first | (exfalso; omega) | cbv)
    | (refine line_go 10 ?_; cbv)
    | (refine go_nil ?_ ?_ <;> (try intro _) <;> cbv)
    | (refine ex_bool ?_; cbv)
    | (refine go_tt ?_; cbv)
    | (refine go_ff ?_; cbv)
    | (refine go_tf ?_; cbv)
    | (refine go_ft ?_; cbv)
    | (refine ex_len (by assumption) ?_; cbv)
    | (refine ex_slen (by assumption) ?_; cbv)
    | (refine ex_lenv (fun _ _ _ => ?_); cbv)
    | (refine ex_slenv (fun _ _ _ => ?_); cbv)
    | (refine ex_wrap (by omega) (fun _ _ => ?_); cbv)
    | (refine ix_span (by assumption) (by assumption) (by omega) (by omega) (fun _ _ _ _ => ?_); cbv)
    | (refine ix_rng (by assumption) (by assumption) (by omega) (by omega) (fun _ _ _ => ?_); cbv)
    | (refine ix_str (by assumption) (by assumption) (by omega) (by omega) (fun _ _ _ => ?_); cbv)
    | (refine ix_map (by assumption) (by assumption) (by omega) (by omega) (fun _ _ _ _ _ _ _ => ?_); cbv)
    | (refine ix_int (by assumption) (by assumption) (by omega) (by omega) (fun _ _ _ => ?_); cbv)
    | (refine ex_neq3 (fun _ => ?_) (fun _ _ _ => ?_) <;> cbv)
    | (refine ex_neq2 (fun _ => ?_) (fun _ _ => ?_) <;> cbv)
    | (refine ob_go (by omega) ?_; cbv)
    | (refine ob_go (by kernel_rfl) ?_; cbv)
    | fail)
  all_goals trivial
theorem c107_n2 (hP : E.P = Tryz.prog) (q_n2 : Strs n2) (t_n2 : Len n2) (q_s2 : Spans s2) (t_s2 : Len s2) (q_n2q : Strs n2q) (t_n2q : Len n2q) (q_s2q : Spans s2q) (t_s2q : Len s2q) {r : Bool} (hr : r = true ↔ n2 = n2q ∧ s2 = s2q) : AF E 107 [.pp [.int .i64 a, .int .i64 b, .sl n0, .sl s0, .sl n1, .sl s1, .sl n2, .sl s2, .sl n3, .sl s3, .sl n4, .sl s4, .sl n5, .sl s5, .sl n6, .sl s6, .sl cl, .sl de, .sl ex, .sl lo, .sl up, .sl ti, .sl fo, .sl ca, .sl ig, .sl st, .sl co, .sl me, .sl cf] 6, .pp [.int .i64 a2, .int .i64 b2, .sl n0q, .sl s0q, .sl n1q, .sl s1q, .sl n2q, .sl s2q, .sl n3q, .sl s3q, .sl n4q, .sl s4q, .sl n5q, .sl s5q, .sl n6q, .sl s6q, .sl clq, .sl deq, .sl exq, .sl loq, .sl upq, .sl tiq, .sl foq, .sl caq, .sl igq, .sl stq, .sl coq, .sl meq, .sl cfq] 6, .pp [.fn (.func 58) [] []] 0] (.bool r) := by
  have c := a58 (E := E) hP q_n2 q_s2 q_n2q q_s2q t_n2 t_s2 t_n2q t_s2q hr
  apply AF_of_AC
  refine AC_of_vc (K := keepT 107) (fn := Tryz.f107) (by rw [hP]; exact Tryz.func107) rfl rfl rfl rfl rfl ?_
  cbv <;> repeat' (first
    | (refine go_val c ?_; cbv)
    | (refine ex_strne ?_ ?_ <;> intro _ <;> first | (exfalso; omega) | cbv)
    | (refine ex_if ?_ ?_ <;> intro _ <;> first | (exfalso; omega) | cbv)
    | (refine line_go 10 ?_; cbv)
    | (refine go_nil ?_ ?_ <;> (try intro _) <;> cbv)
    | (refine ex_bool ?_; cbv)
    | (refine go_tt ?_; cbv)
    | (refine go_ff ?_; cbv)
    | (refine go_tf ?_; cbv)
    | (refine go_ft ?_; cbv)
    | (refine ex_len (by assumption) ?_; cbv)
    | (refine ex_slen (by assumption) ?_; cbv)
    | (refine ex_lenv (fun _ _ _ => ?_); cbv)
    | (refine ex_slenv (fun _ _ _ => ?_); cbv)
    | (refine ex_wrap (by omega) (fun _ _ => ?_); cbv)
    | (refine ix_span (by assumption) (by assumption) (by omega) (by omega) (fun _ _ _ _ => ?_); cbv)
    | (refine ix_rng (by assumption) (by assumption) (by omega) (by omega) (fun _ _ _ => ?_); cbv)
    | (refine ix_str (by assumption) (by assumption) (by omega) (by omega) (fun _ _ _ => ?_); cbv)
    | (refine ix_map (by assumption) (by assumption) (by omega) (by omega) (fun _ _ _ _ _ _ _ => ?_); cbv)
    | (refine ix_int (by assumption) (by assumption) (by omega) (by omega) (fun _ _ _ => ?_); cbv)
    | (refine ex_neq3 (fun _ => ?_) (fun _ _ _ => ?_) <;> cbv)
    | (refine ex_neq2 (fun _ => ?_) (fun _ _ => ?_) <;> cbv)
    | (refine ob_go (by omega) ?_; cbv)
    | (refine ob_go (by kernel_rfl) ?_; cbv)
    | fail)
  all_goals trivial
theorem c107_n3 (hP : E.P = Tryz.prog) (q_n3 : Strs n3) (t_n3 : Len n3) (q_s3 : Spans s3) (t_s3 : Len s3) (q_n3q : Strs n3q) (t_n3q : Len n3q) (q_s3q : Spans s3q) (t_s3q : Len s3q) {r : Bool} (hr : r = true ↔ n3 = n3q ∧ s3 = s3q) : AF E 107 [.pp [.int .i64 a, .int .i64 b, .sl n0, .sl s0, .sl n1, .sl s1, .sl n2, .sl s2, .sl n3, .sl s3, .sl n4, .sl s4, .sl n5, .sl s5, .sl n6, .sl s6, .sl cl, .sl de, .sl ex, .sl lo, .sl up, .sl ti, .sl fo, .sl ca, .sl ig, .sl st, .sl co, .sl me, .sl cf] 8, .pp [.int .i64 a2, .int .i64 b2, .sl n0q, .sl s0q, .sl n1q, .sl s1q, .sl n2q, .sl s2q, .sl n3q, .sl s3q, .sl n4q, .sl s4q, .sl n5q, .sl s5q, .sl n6q, .sl s6q, .sl clq, .sl deq, .sl exq, .sl loq, .sl upq, .sl tiq, .sl foq, .sl caq, .sl igq, .sl stq, .sl coq, .sl meq, .sl cfq] 8, .pp [.fn (.func 58) [] []] 0] (.bool r) := by
  have c := a58 (E := E) hP q_n3 q_s3 q_n3q q_s3q t_n3 t_s3 t_n3q t_s3q hr
  apply AF_of_AC
  refine AC_of_vc (K := keepT 107) (fn := Tryz.f107) (by rw [hP]; exact Tryz.func107) rfl rfl rfl rfl rfl ?_
  cbv <;> repeat' (first
    | (refine go_val c ?_; cbv)
    | (refine ex_strne ?_ ?_ <;> intro _ <;> first | (exfalso; omega) | cbv)
    | (refine ex_if ?_ ?_ <;> intro _ <;> first | (exfalso; omega) | cbv)
    | (refine line_go 10 ?_; cbv)
    | (refine go_nil ?_ ?_ <;> (try intro _) <;> cbv)
    | (refine ex_bool ?_; cbv)
    | (refine go_tt ?_; cbv)
    | (refine go_ff ?_; cbv)
    | (refine go_tf ?_; cbv)
    | (refine go_ft ?_; cbv)
    | (refine ex_len (by assumption) ?_; cbv)
    | (refine ex_slen (by assumption) ?_; cbv)
    | (refine ex_lenv (fun _ _ _ => ?_); cbv)
    | (refine ex_slenv (fun _ _ _ => ?_); cbv)
    | (refine ex_wrap (by omega) (fun _ _ => ?_); cbv)
    | (refine ix_span (by assumption) (by assumption) (by omega) (by omega) (fun _ _ _ _ => ?_); cbv)
    | (refine ix_rng (by assumption) (by assumption) (by omega) (by omega) (fun _ _ _ => ?_); cbv)
    | (refine ix_str (by assumption) (by assumption) (by omega) (by omega) (fun _ _ _ => ?_); cbv)
    | (refine ix_map (by assumption) (by assumption) (by omega) (by omega) (fun _ _ _ _ _ _ _ => ?_); cbv)
    | (refine ix_int (by assumption) (by assumption) (by omega) (by omega) (fun _ _ _ => ?_); cbv)
    | (refine ex_neq3 (fun _ => ?_) (fun _ _ _ => ?_) <;> cbv)
    | (refine ex_neq2 (fun _ => ?_) (fun _ _ => ?_) <;> cbv)
    | (refine ob_go (by omega) ?_; cbv)
    | (refine ob_go (by kernel_rfl) ?_; cbv)
    | fail)
  all_goals trivial
theorem c107_n4 (hP : E.P = Tryz.prog) (q_n4 : Strs n4) (t_n4 : Len n4) (q_s4 : Spans s4) (t_s4 : Len s4) (q_n4q : Strs n4q) (t_n4q : Len n4q) (q_s4q : Spans s4q) (t_s4q : Len s4q) {r : Bool} (hr : r = true ↔ n4 = n4q ∧ s4 = s4q) : AF E 107 [.pp [.int .i64 a, .int .i64 b, .sl n0, .sl s0, .sl n1, .sl s1, .sl n2, .sl s2, .sl n3, .sl s3, .sl n4, .sl s4, .sl n5, .sl s5, .sl n6, .sl s6, .sl cl, .sl de, .sl ex, .sl lo, .sl up, .sl ti, .sl fo, .sl ca, .sl ig, .sl st, .sl co, .sl me, .sl cf] 10, .pp [.int .i64 a2, .int .i64 b2, .sl n0q, .sl s0q, .sl n1q, .sl s1q, .sl n2q, .sl s2q, .sl n3q, .sl s3q, .sl n4q, .sl s4q, .sl n5q, .sl s5q, .sl n6q, .sl s6q, .sl clq, .sl deq, .sl exq, .sl loq, .sl upq, .sl tiq, .sl foq, .sl caq, .sl igq, .sl stq, .sl coq, .sl meq, .sl cfq] 10, .pp [.fn (.func 58) [] []] 0] (.bool r) := by
  have c := a58 (E := E) hP q_n4 q_s4 q_n4q q_s4q t_n4 t_s4 t_n4q t_s4q hr
  apply AF_of_AC
  refine AC_of_vc (K := keepT 107) (fn := Tryz.f107) (by rw [hP]; exact Tryz.func107) rfl rfl rfl rfl rfl ?_
  cbv <;> repeat' (first
    | (refine go_val c ?_; cbv)
    | (refine ex_strne ?_ ?_ <;> intro _ <;> first | (exfalso; omega) | cbv)
    | (refine ex_if ?_ ?_ <;> intro _ <;> first | (exfalso; omega) | cbv)
    | (refine line_go 10 ?_; cbv)
    | (refine go_nil ?_ ?_ <;> (try intro _) <;> cbv)
    | (refine ex_bool ?_; cbv)
    | (refine go_tt ?_; cbv)
    | (refine go_ff ?_; cbv)
    | (refine go_tf ?_; cbv)
    | (refine go_ft ?_; cbv)
    | (refine ex_len (by assumption) ?_; cbv)
    | (refine ex_slen (by assumption) ?_; cbv)
    | (refine ex_lenv (fun _ _ _ => ?_); cbv)
    | (refine ex_slenv (fun _ _ _ => ?_); cbv)
    | (refine ex_wrap (by omega) (fun _ _ => ?_); cbv)
    | (refine ix_span (by assumption) (by assumption) (by omega) (by omega) (fun _ _ _ _ => ?_); cbv)
    | (refine ix_rng (by assumption) (by assumption) (by omega) (by omega) (fun _ _ _ => ?_); cbv)
    | (refine ix_str (by assumption) (by assumption) (by omega) (by omega) (fun _ _ _ => ?_); cbv)
    | (refine ix_map (by assumption) (by assumption) (by omega) (by omega) (fun _ _ _ _ _ _ _ => ?_); cbv)
    | (refine ix_int (by assumption) (by assumption) (by omega) (by omega) (fun _ _ _ => ?_); cbv)
    | (refine ex_neq3 (fun _ => ?_) (fun _ _ _ => ?_) <;> cbv)
    | (refine ex_neq2 (fun _ => ?_) (fun _ _ => ?_) <;> cbv)
    | (refine ob_go (by omega) ?_; cbv)
    | (refine ob_go (by kernel_rfl) ?_; cbv)
    | fail)
  all_goals trivial
theorem c107_n5 (hP : E.P = Tryz.prog) (q_n5 : Strs n5) (t_n5 : Len n5) (q_s5 : Spans s5) (t_s5 : Len s5) (q_n5q : Strs n5q) (t_n5q : Len n5q) (q_s5q : Spans s5q) (t_s5q : Len s5q) {r : Bool} (hr : r = true ↔ n5 = n5q ∧ s5 = s5q) : AF E 107 [.pp [.int .i64 a, .int .i64 b, .sl n0, .sl s0, .sl n1, .sl s1, .sl n2, .sl s2, .sl n3, .sl s3, .sl n4, .sl s4, .sl n5, .sl s5, .sl n6, .sl s6, .sl cl, .sl de, .sl ex, .sl lo, .sl up, .sl ti, .sl fo, .sl ca, .sl ig, .sl st, .sl co, .sl me, .sl cf] 12, .pp [.int .i64 a2, .int .i64 b2, .sl n0q, .sl s0q, .sl n1q, .sl s1q, .sl n2q, .sl s2q, .sl n3q, .sl s3q, .sl n4q, .sl s4q, .sl n5q, .sl s5q, .sl n6q, .sl s6q, .sl clq, .sl deq, .sl exq, .sl loq, .sl upq, .sl tiq, .sl foq, .sl caq, .sl igq, .sl stq, .sl coq, .sl meq, .sl cfq] 12, .pp [.fn (.func 58) [] []] 0] (.bool r) := by
  have c := a58 (E := E) hP q_n5 q_s5 q_n5q q_s5q t_n5 t_s5 t_n5q t_s5q hr
  apply AF_of_AC
  refine AC_of_vc (K := keepT 107) (fn := Tryz.f107) (by rw [hP]; exact Tryz.func107) rfl rfl rfl rfl rfl ?_
  cbv <;> repeat' (first
    | (refine go_val c ?_; cbv)
    | (refine ex_strne ?_ ?_ <;> intro _ <;> first | (exfalso; omega) | cbv)
    | (refine ex_if ?_ ?_ <;> intro _ <;> first | (exfalso; omega) | cbv)
    | (refine line_go 10 ?_; cbv)
    | (refine go_nil ?_ ?_ <;> (try intro _) <;> cbv)
    | (refine ex_bool ?_; cbv)
    | (refine go_tt ?_; cbv)
    | (refine go_ff ?_; cbv)
    | (refine go_tf ?_; cbv)
    | (refine go_ft ?_; cbv)
    | (refine ex_len (by assumption) ?_; cbv)
    | (refine ex_slen (by assumption) ?_; cbv)
    | (refine ex_lenv (fun _ _ _ => ?_); cbv)
    | (refine ex_slenv (fun _ _ _ => ?_); cbv)
    | (refine ex_wrap (by omega) (fun _ _ => ?_); cbv)
    | (refine ix_span (by assumption) (by assumption) (by omega) (by omega) (fun _ _ _ _ => ?_); cbv)
    | (refine ix_rng (by assumption) (by assumption) (by omega) (by omega) (fun _ _ _ => ?_); cbv)
    | (refine ix_str (by assumption) (by assumption) (by omega) (by omega) (fun _ _ _ => ?_); cbv)
    | (refine ix_map (by assumption) (by assumption) (by omega) (by omega) (fun _ _ _ _ _ _ _ => ?_); cbv)
    | (refine ix_int (by assumption) (by assumption) (by omega) (by omega) (fun _ _ _ => ?_); cbv)
    | (refine ex_neq3 (fun _ => ?_) (fun _ _ _ => ?_) <;> cbv)
    | (refine ex_neq2 (fun _ => ?_) (fun _ _ => ?_) <;> cbv)
    | (refine ob_go (by omega) ?_; cbv)
    | (refine ob_go (by kernel_rfl) ?_; cbv)
    | fail)
  all_goals trivial
theorem c107_n6 (hP : E.P = Tryz.prog) (q_n6 : Strs n6) (t_n6 : Len n6) (q_s6 : Spans s6) (t_s6 : Len s6) (q_n6q : Strs n6q) (t_n6q : Len n6q) (q_s6q : Spans s6q) (t_s6q : Len s6q) {r : Bool} (hr : r = true ↔ n6 = n6q ∧ s6 = s6q) : AF E 107 [.pp [.int .i64 a, .int .i64 b, .sl n0, .sl s0, .sl n1, .sl s1, .sl n2, .sl s2, .sl n3, .sl s3, .sl n4, .sl s4, .sl n5, .sl s5, .sl n6, .sl s6, .sl cl, .sl de, .sl ex, .sl lo, .sl up, .sl ti, .sl fo, .sl ca, .sl ig, .sl st, .sl co, .sl me, .sl cf] 14, .pp [.int .i64 a2, .int .i64 b2, .sl n0q, .sl s0q, .sl n1q, .sl s1q, .sl n2q, .sl s2q, .sl n3q, .sl s3q, .sl n4q, .sl s4q, .sl n5q, .sl s5q, .sl n6q, .sl s6q, .sl clq, .sl deq, .sl exq, .sl loq, .sl upq, .sl tiq, .sl foq, .sl caq, .sl igq, .sl stq, .sl coq, .sl meq, .sl cfq] 14, .pp [.fn (.func 58) [] []] 0] (.bool r) := by
  have c := a58 (E := E) hP q_n6 q_s6 q_n6q q_s6q t_n6 t_s6 t_n6q t_s6q hr
  apply AF_of_AC
  refine AC_of_vc (K := keepT 107) (fn := Tryz.f107) (by rw [hP]; exact Tryz.func107) rfl rfl rfl rfl rfl ?_
  cbv <;> repeat' (first
    | (refine go_val c ?_; cbv)
    | (refine ex_strne ?_ ?_ <;> intro _ <;> first | (exfalso; omega) | cbv)
    | (refine ex_if ?_ ?_ <;> intro _ <;> first | (exfalso; omega) | cbv)
    | (refine line_go 10 ?_; cbv)
    | (refine go_nil ?_ ?_ <;> (try intro _) <;> cbv)
    | (refine ex_bool ?_; cbv)
    | (refine go_tt ?_; cbv)
    | (refine go_ff ?_; cbv)
    | (refine go_tf ?_; cbv)
    | (refine go_ft ?_; cbv)
    | (refine ex_len (by assumption) ?_; cbv)
    | (refine ex_slen (by assumption) ?_; cbv)
    | (refine ex_lenv (fun _ _ _ => ?_); cbv)
    | (refine ex_slenv (fun _ _ _ => ?_); cbv)
    | (refine ex_wrap (by omega) (fun _ _ => ?_); cbv)
    | (refine ix_span (by assumption) (by assumption) (by omega) (by omega) (fun _ _ _ _ => ?_); cbv)
    | (refine ix_rng (by assumption) (by assumption) (by omega) (by omega) (fun _ _ _ => ?_); cbv)
    | (refine ix_str (by assumption) (by assumption) (by omega) (by omega) (fun _ _ _ => ?_); cbv)
    | (refine ix_map (by assumption) (by assumption) (by omega) (by omega) (fun _ _ _ _ _ _ _ => ?_); cbv)
    | (refine ix_int (by assumption) (by assumption) (by omega) (by omega) (fun _ _ _ => ?_); cbv)
    | (refine ex_neq3 (fun _ => ?_) (fun _ _ _ => ?_) <;> cbv)
    | (refine ex_neq2 (fun _ => ?_) (fun _ _ => ?_) <;> cbv)
    | (refine ob_go (by omega) ?_; cbv)
    | (refine ob_go (by kernel_rfl) ?_; cbv)
    | fail)
  all_goals trivial
theorem a106 (hP : E.P = Tryz.prog) (q_n0 : Strs n0) (t_n0 : Len n0) (q_s0 : Spans s0) (t_s0 : Len s0) (q_n1 : Strs n1) (t_n1 : Len n1) (q_s1 : Spans s1) (t_s1 : Len s1) (q_n2 : Strs n2) (t_n2 : Len n2) (q_s2 : Spans s2) (t_s2 : Len s2) (q_n3 : Strs n3) (t_n3 : Len n3) (q_s3 : Spans s3) (t_s3 : Len s3) (q_n4 : Strs n4) (t_n4 : Len n4) (q_s4 : Spans s4) (t_s4 : Len s4) (q_n5 : Strs n5) (t_n5 : Len n5) (q_s5 : Spans s5) (t_s5 : Len s5) (q_n6 : Strs n6) (t_n6 : Len n6) (q_s6 : Spans s6) (t_s6 : Len s6) (q_n0q : Strs n0q) (t_n0q : Len n0q) (q_s0q : Spans s0q) (t_s0q : Len s0q) (q_n1q : Strs n1q) (t_n1q : Len n1q) (q_s1q : Spans s1q) (t_s1q : Len s1q) (q_n2q : Strs n2q) (t_n2q : Len n2q) (q_s2q : Spans s2q) (t_s2q : Len s2q) (q_n3q : Strs n3q) (t_n3q : Len n3q) (q_s3q : Spans s3q) (t_s3q : Len s3q) (q_n4q : Strs n4q) (t_n4q : Len n4q) (q_s4q : Spans s4q) (t_s4q : Len s4q) (q_n5q : Strs n5q) (t_n5q : Len n5q) (q_s5q : Spans s5q) (t_s5q : Len s5q) (q_n6q : Strs n6q) (t_n6q : Len n6q) (q_s6q : Spans s6q) (t_s6q : Len s6q) {r : Bool} (hr : r = true ↔ (n0 = n0q ∧ s0 = s0q) ∧ (n1 = n1q ∧ s1 = s1q) ∧ (n2 = n2q ∧ s2 = s2q) ∧ (n3 = n3q ∧ s3 = s3q) ∧ (n4 = n4q ∧ s4 = s4q) ∧ (n5 = n5q ∧ s5 = s5q) ∧ (n6 = n6q ∧ s6 = s6q)) : AF E 106 [.sl [.pp [.int .i64 a, .int .i64 b, .sl n0, .sl s0, .sl n1, .sl s1, .sl n2, .sl s2, .sl n3, .sl s3, .sl n4, .sl s4, .sl n5, .sl s5, .sl n6, .sl s6, .sl cl, .sl de, .sl ex, .sl lo, .sl up, .sl ti, .sl fo, .sl ca, .sl ig, .sl st, .sl co, .sl me, .sl cf] 2, .pp [.int .i64 a, .int .i64 b, .sl n0, .sl s0, .sl n1, .sl s1, .sl n2, .sl s2, .sl n3, .sl s3, .sl n4, .sl s4, .sl n5, .sl s5, .sl n6, .sl s6, .sl cl, .sl de, .sl ex, .sl lo, .sl up, .sl ti, .sl fo, .sl ca, .sl ig, .sl st, .sl co, .sl me, .sl cf] 4, .pp [.int .i64 a, .int .i64 b, .sl n0, .sl s0, .sl n1, .sl s1, .sl n2, .sl s2, .sl n3, .sl s3, .sl n4, .sl s4, .sl n5, .sl s5, .sl n6, .sl s6, .sl cl, .sl de, .sl ex, .sl lo, .sl up, .sl ti, .sl fo, .sl ca, .sl ig, .sl st, .sl co, .sl me, .sl cf] 6, .pp [.int .i64 a, .int .i64 b, .sl n0, .sl s0, .sl n1, .sl s1, .sl n2, .sl s2, .sl n3, .sl s3, .sl n4, .sl s4, .sl n5, .sl s5, .sl n6, .sl s6, .sl cl, .sl de, .sl ex, .sl lo, .sl up, .sl ti, .sl fo, .sl ca, .sl ig, .sl st, .sl co, .sl me, .sl cf] 8, .pp [.int .i64 a, .int .i64 b, .sl n0, .sl s0, .sl n1, .sl s1, .sl n2, .sl s2, .sl n3, .sl s3, .sl n4, .sl s4, .sl n5, .sl s5, .sl n6, .sl s6, .sl cl, .sl de, .sl ex, .sl lo, .sl up, .sl ti, .sl fo, .sl ca, .sl ig, .sl st, .sl co, .sl me, .sl cf] 10, .pp [.int .i64 a, .int .i64 b, .sl n0, .sl s0, .sl n1, .sl s1, .sl n2, .sl s2, .sl n3, .sl s3, .sl n4, .sl s4, .sl n5, .sl s5, .sl n6, .sl s6, .sl cl, .sl de, .sl ex, .sl lo, .sl up, .sl ti, .sl fo, .sl ca, .sl ig, .sl st, .sl co, .sl me, .sl cf] 12, .pp [.int .i64 a, .int .i64 b, .sl n0, .sl s0, .sl n1, .sl s1, .sl n2, .sl s2, .sl n3, .sl s3, .sl n4, .sl s4, .sl n5, .sl s5, .sl n6, .sl s6, .sl cl, .sl de, .sl ex, .sl lo, .sl up, .sl ti, .sl fo, .sl ca, .sl ig, .sl st, .sl co, .sl me, .sl cf] 14], .sl [.pp [.int .i64 a2, .int .i64 b2, .sl n0q, .sl s0q, .sl n1q, .sl s1q, .sl n2q, .sl s2q, .sl n3q, .sl s3q, .sl n4q, .sl s4q, .sl n5q, .sl s5q, .sl n6q, .sl s6q, .sl clq, .sl deq, .sl exq, .sl loq, .sl upq, .sl tiq, .sl foq, .sl caq, .sl igq, .sl stq, .sl coq, .sl meq, .sl cfq] 2, .pp [.int .i64 a2, .int .i64 b2, .sl n0q, .sl s0q, .sl n1q, .sl s1q, .sl n2q, .sl s2q, .sl n3q, .sl s3q, .sl n4q, .sl s4q, .sl n5q, .sl s5q, .sl n6q, .sl s6q, .sl clq, .sl deq, .sl exq, .sl loq, .sl upq, .sl tiq, .sl foq, .sl caq, .sl igq, .sl stq, .sl coq, .sl meq, .sl cfq] 4, .pp [.int .i64 a2, .int .i64 b2, .sl n0q, .sl s0q, .sl n1q, .sl s1q, .sl n2q, .sl s2q, .sl n3q, .sl s3q, .sl n4q, .sl s4q, .sl n5q, .sl s5q, .sl n6q, .sl s6q, .sl clq, .sl deq, .sl exq, .sl loq, .sl upq, .sl tiq, .sl foq, .sl caq, .sl igq, .sl stq, .sl coq, .sl meq, .sl cfq] 6, .pp [.int .i64 a2, .int .i64 b2, .sl n0q, .sl s0q, .sl n1q, .sl s1q, .sl n2q, .sl s2q, .sl n3q, .sl s3q, .sl n4q, .sl s4q, .sl n5q, .sl s5q, .sl n6q, .sl s6q, .sl clq, .sl deq, .sl exq, .sl loq, .sl upq, .sl tiq, .sl foq, .sl caq, .sl igq, .sl stq, .sl coq, .sl meq, .sl cfq] 8, .pp [.int .i64 a2, .int .i64 b2, .sl n0q, .sl s0q, .sl n1q, .sl s1q, .sl n2q, .sl s2q, .sl n3q, .sl s3q, .sl n4q, .sl s4q, .sl n5q, .sl s5q, .sl n6q, .sl s6q, .sl clq, .sl deq, .sl exq, .sl loq, .sl upq, .sl tiq, .sl foq, .sl caq, .sl igq, .sl stq, .sl coq, .sl meq, .sl cfq] 10, .pp [.int .i64 a2, .int .i64 b2, .sl n0q, .sl s0q, .sl n1q, .sl s1q, .sl n2q, .sl s2q, .sl n3q, .sl s3q, .sl n4q, .sl s4q, .sl n5q, .sl s5q, .sl n6q, .sl s6q, .sl clq, .sl deq, .sl exq, .sl loq, .sl upq, .sl tiq, .sl foq, .sl caq, .sl igq, .sl stq, .sl coq, .sl meq, .sl cfq] 12, .pp [.int .i64 a2, .int .i64 b2, .sl n0q, .sl s0q, .sl n1q, .sl s1q, .sl n2q, .sl s2q, .sl n3q, .sl s3q, .sl n4q, .sl s4q, .sl n5q, .sl s5q, .sl n6q, .sl s6q, .sl clq, .sl deq, .sl exq, .sl loq, .sl upq, .sl tiq, .sl foq, .sl caq, .sl igq, .sl stq, .sl coq, .sl meq, .sl cfq] 14], .fn (.func 107) [] [.pp [.fn (.func 58) [] []] 0]] (.bool r) := by
  apply AF_of_AC
  refine AC_of_vc (K := keepT 106) (fn := Tryz.f106) (by rw [hP]; exact Tryz.func106) rfl rfl rfl rfl rfl ?_
  cbv <;> repeat' (first
    | (refine ⟨7, rfl, ?_⟩; cbv)
    | (refine LoopVC.unroll ?_; cbv)
    | (refine ⟨_, rfl, ob (by omega), ob rfl, ?_⟩; cbv)
    | (refine ⟨_, rfl, ?_⟩; cbv)
    | (refine go_if (fun r hr => c107_n0 hP q_n0 t_n0 q_s0 t_s0 q_n0q t_n0q q_s0q t_s0q hr) ?_ ?_ <;> intro _ <;> cbv)
    | (refine go_if (fun r hr => c107_n1 hP q_n1 t_n1 q_s1 t_s1 q_n1q t_n1q q_s1q t_s1q hr) ?_ ?_ <;> intro _ <;> cbv)
    | (refine go_if (fun r hr => c107_n2 hP q_n2 t_n2 q_s2 t_s2 q_n2q t_n2q q_s2q t_s2q hr) ?_ ?_ <;> intro _ <;> cbv)
    | (refine go_if (fun r hr => c107_n3 hP q_n3 t_n3 q_s3 t_s3 q_n3q t_n3q q_s3q t_s3q hr) ?_ ?_ <;> intro _ <;> cbv)
    | (refine go_if (fun r hr => c107_n4 hP q_n4 t_n4 q_s4 t_s4 q_n4q t_n4q q_s4q t_s4q hr) ?_ ?_ <;> intro _ <;> cbv)
    | (refine go_if (fun r hr => c107_n5 hP q_n5 t_n5 q_s5 t_s5 q_n5q t_n5q q_s5q t_s5q hr) ?_ ?_ <;> intro _ <;> cbv)
    | (refine go_if (fun r hr => c107_n6 hP q_n6 t_n6 q_s6 t_s6 q_n6q t_n6q q_s6q t_s6q hr) ?_ ?_ <;> intro _ <;> cbv)
    | (refine ex_strne ?_ ?_ <;> intro _ <;> first | (exfalso; omega) | cbv)
    | (refine ex_if ?_ ?_ <;> intro _ <;> first | (exfalso; omega) | cbv)
    | (refine line_go 10 ?_; cbv)
    | (refine go_nil ?_ ?_ <;> (try intro _) <;> cbv)
    | (refine ex_bool ?_; cbv)
    | (refine go_tt ?_; cbv)
    | (refine go_ff ?_; cbv)
    | (refine go_tf ?_; cbv)
    | (refine go_ft ?_; cbv)
    | (refine ex_len (by assumption) ?_; cbv)
    | (refine ex_slen (by assumption) ?_; cbv)
    | (refine ex_lenv (fun _ _ _ => ?_); cbv)
    | (refine ex_slenv (fun _ _ _ => ?_); cbv)
    | (refine ex_wrap (by omega) (fun _ _ => ?_); cbv)
    | (refine ix_span (by assumption) (by assumption) (by omega) (by omega) (fun _ _ _ _ => ?_); cbv)
    | (refine ix_rng (by assumption) (by assumption) (by omega) (by omega) (fun _ _ _ => ?_); cbv)
    | (refine ix_str (by assumption) (by assumption) (by omega) (by omega) (fun _ _ _ => ?_); cbv)
    | (refine ix_map (by assumption) (by assumption) (by omega) (by omega) (fun _ _ _ _ _ _ _ => ?_); cbv)
    | (refine ix_int (by assumption) (by assumption) (by omega) (by omega) (fun _ _ _ => ?_); cbv)
    | (refine ex_neq3 (fun _ => ?_) (fun _ _ _ => ?_) <;> cbv)
    | (refine ex_neq2 (fun _ => ?_) (fun _ _ => ?_) <;> cbv)
    | (refine ob_go (by omega) ?_; cbv)
    | (refine ob_go (by kernel_rfl) ?_; cbv)
    | fail)
  all_goals first
    | trivial
    | exact tt_of hr ⟨by assumption, by assumption, by assumption, by assumption, by assumption, by assumption, by assumption⟩
    | exact ff_of hr (fun ⟨h0, h1, h2, h3, h4, h5, h6⟩ => by contradiction)
  
theorem a57 (hP : E.P = Tryz.prog) (q_n0 : Strs n0) (t_n0 : Len n0) (q_s0 : Spans s0) (t_s0 : Len s0) (q_n1 : Strs n1) (t_n1 : Len n1) (q_s1 : Spans s1) (t_s1 : Len s1) (q_n2 : Strs n2) (t_n2 : Len n2) (q_s2 : Spans s2) (t_s2 : Len s2) (q_n3 : Strs n3) (t_n3 : Len n3) (q_s3 : Spans s3) (t_s3 : Len s3) (q_n4 : Strs n4) (t_n4 : Len n4) (q_s4 : Spans s4) (t_s4 : Len s4) (q_n5 : Strs n5) (t_n5 : Len n5) (q_s5 : Spans s5) (t_s5 : Len s5) (q_n6 : Strs n6) (t_n6 : Len n6) (q_s6 : Spans s6) (t_s6 : Len s6) (q_n0q : Strs n0q) (t_n0q : Len n0q) (q_s0q : Spans s0q) (t_s0q : Len s0q) (q_n1q : Strs n1q) (t_n1q : Len n1q) (q_s1q : Spans s1q) (t_s1q : Len s1q) (q_n2q : Strs n2q) (t_n2q : Len n2q) (q_s2q : Spans s2q) (t_s2q : Len s2q) (q_n3q : Strs n3q) (t_n3q : Len n3q) (q_s3q : Spans s3q) (t_s3q : Len s3q) (q_n4q : Strs n4q) (t_n4q : Len n4q) (q_s4q : Spans s4q) (t_s4q : Len s4q) (q_n5q : Strs n5q) (t_n5q : Len n5q) (q_s5q : Spans s5q) (t_s5q : Len s5q) (q_n6q : Strs n6q) (t_n6q : Len n6q) (q_s6q : Spans s6q) (t_s6q : Len s6q) {r : Bool} (hr : r = true ↔ (n0 = n0q ∧ s0 = s0q) ∧ (n1 = n1q ∧ s1 = s1q) ∧ (n2 = n2q ∧ s2 = s2q) ∧ (n3 = n3q ∧ s3 = s3q) ∧ (n4 = n4q ∧ s4 = s4q) ∧ (n5 = n5q ∧ s5 = s5q) ∧ (n6 = n6q ∧ s6 = s6q)) : AF E 57 [.sl [.pp [.int .i64 a, .int .i64 b, .sl n0, .sl s0, .sl n1, .sl s1, .sl n2, .sl s2, .sl n3, .sl s3, .sl n4, .sl s4, .sl n5, .sl s5, .sl n6, .sl s6, .sl cl, .sl de, .sl ex, .sl lo, .sl up, .sl ti, .sl fo, .sl ca, .sl ig, .sl st, .sl co, .sl me, .sl cf] 2, .pp [.int .i64 a, .int .i64 b, .sl n0, .sl s0, .sl n1, .sl s1, .sl n2, .sl s2, .sl n3, .sl s3, .sl n4, .sl s4, .sl n5, .sl s5, .sl n6, .sl s6, .sl cl, .sl de, .sl ex, .sl lo, .sl up, .sl ti, .sl fo, .sl ca, .sl ig, .sl st, .sl co, .sl me, .sl cf] 4, .pp [.int .i64 a, .int .i64 b, .sl n0, .sl s0, .sl n1, .sl s1, .sl n2, .sl s2, .sl n3, .sl s3, .sl n4, .sl s4, .sl n5, .sl s5, .sl n6, .sl s6, .sl cl, .sl de, .sl ex, .sl lo, .sl up, .sl ti, .sl fo, .sl ca, .sl ig, .sl st, .sl co, .sl me, .sl cf] 6, .pp [.int .i64 a, .int .i64 b, .sl n0, .sl s0, .sl n1, .sl s1, .sl n2, .sl s2, .sl n3, .sl s3, .sl n4, .sl s4, .sl n5, .sl s5, .sl n6, .sl s6, .sl cl, .sl de, .sl ex, .sl lo, .sl up, .sl ti, .sl fo, .sl ca, .sl ig, .sl st, .sl co, .sl me, .sl cf] 8, .pp [.int .i64 a, .int .i64 b, .sl n0, .sl s0, .sl n1, .sl s1, .sl n2, .sl s2, .sl n3, .sl s3, .sl n4, .sl s4, .sl n5, .sl s5, .sl n6, .sl s6, .sl cl, .sl de, .sl ex, .sl lo, .sl up, .sl ti, .sl fo, .sl ca, .sl ig, .sl st, .sl co, .sl me, .sl cf] 10, .pp [.int .i64 a, .int .i64 b, .sl n0, .sl s0, .sl n1, .sl s1, .sl n2, .sl s2, .sl n3, .sl s3, .sl n4, .sl s4, .sl n5, .sl s5, .sl n6, .sl s6, .sl cl, .sl de, .sl ex, .sl lo, .sl up, .sl ti, .sl fo, .sl ca, .sl ig, .sl st, .sl co, .sl me, .sl cf] 12, .pp [.int .i64 a, .int .i64 b, .sl n0, .sl s0, .sl n1, .sl s1, .sl n2, .sl s2, .sl n3, .sl s3, .sl n4, .sl s4, .sl n5, .sl s5, .sl n6, .sl s6, .sl cl, .sl de, .sl ex, .sl lo, .sl up, .sl ti, .sl fo, .sl ca, .sl ig, .sl st, .sl co, .sl me, .sl cf] 14], .sl [.pp [.int .i64 a2, .int .i64 b2, .sl n0q, .sl s0q, .sl n1q, .sl s1q, .sl n2q, .sl s2q, .sl n3q, .sl s3q, .sl n4q, .sl s4q, .sl n5q, .sl s5q, .sl n6q, .sl s6q, .sl clq, .sl deq, .sl exq, .sl loq, .sl upq, .sl tiq, .sl foq, .sl caq, .sl igq, .sl stq, .sl coq, .sl meq, .sl cfq] 2, .pp [.int .i64 a2, .int .i64 b2, .sl n0q, .sl s0q, .sl n1q, .sl s1q, .sl n2q, .sl s2q, .sl n3q, .sl s3q, .sl n4q, .sl s4q, .sl n5q, .sl s5q, .sl n6q, .sl s6q, .sl clq, .sl deq, .sl exq, .sl loq, .sl upq, .sl tiq, .sl foq, .sl caq, .sl igq, .sl stq, .sl coq, .sl meq, .sl cfq] 4, .pp [.int .i64 a2, .int .i64 b2, .sl n0q, .sl s0q, .sl n1q, .sl s1q, .sl n2q, .sl s2q, .sl n3q, .sl s3q, .sl n4q, .sl s4q, .sl n5q, .sl s5q, .sl n6q, .sl s6q, .sl clq, .sl deq, .sl exq, .sl loq, .sl upq, .sl tiq, .sl foq, .sl caq, .sl igq, .sl stq, .sl coq, .sl meq, .sl cfq] 6, .pp [.int .i64 a2, .int .i64 b2, .sl n0q, .sl s0q, .sl n1q, .sl s1q, .sl n2q, .sl s2q, .sl n3q, .sl s3q, .sl n4q, .sl s4q, .sl n5q, .sl s5q, .sl n6q, .sl s6q, .sl clq, .sl deq, .sl exq, .sl loq, .sl upq, .sl tiq, .sl foq, .sl caq, .sl igq, .sl stq, .sl coq, .sl meq, .sl cfq] 8, .pp [.int .i64 a2, .int .i64 b2, .sl n0q, .sl s0q, .sl n1q, .sl s1q, .sl n2q, .sl s2q, .sl n3q, .sl s3q, .sl n4q, .sl s4q, .sl n5q, .sl s5q, .sl n6q, .sl s6q, .sl clq, .sl deq, .sl exq, .sl loq, .sl upq, .sl tiq, .sl foq, .sl caq, .sl igq, .sl stq, .sl coq, .sl meq, .sl cfq] 10, .pp [.int .i64 a2, .int .i64 b2, .sl n0q, .sl s0q, .sl n1q, .sl s1q, .sl n2q, .sl s2q, .sl n3q, .sl s3q, .sl n4q, .sl s4q, .sl n5q, .sl s5q, .sl n6q, .sl s6q, .sl clq, .sl deq, .sl exq, .sl loq, .sl upq, .sl tiq, .sl foq, .sl caq, .sl igq, .sl stq, .sl coq, .sl meq, .sl cfq] 12, .pp [.int .i64 a2, .int .i64 b2, .sl n0q, .sl s0q, .sl n1q, .sl s1q, .sl n2q, .sl s2q, .sl n3q, .sl s3q, .sl n4q, .sl s4q, .sl n5q, .sl s5q, .sl n6q, .sl s6q, .sl clq, .sl deq, .sl exq, .sl loq, .sl upq, .sl tiq, .sl foq, .sl caq, .sl igq, .sl stq, .sl coq, .sl meq, .sl cfq] 14], .fn (.func 58) [] []] (.bool r) := by
  have c := a106 (E := E) (a := a) (b := b) (a2 := a2) (b2 := b2) (n0 := n0) (s0 := s0) (n1 := n1) (s1 := s1) (n2 := n2) (s2 := s2) (n3 := n3) (s3 := s3) (n4 := n4) (s4 := s4) (n5 := n5) (s5 := s5) (n6 := n6) (s6 := s6) (cl := cl) (de := de) (ex := ex) (lo := lo) (up := up) (ti := ti) (fo := fo) (ca := ca) (ig := ig) (st := st) (co := co) (me := me) (cf := cf) (n0q := n0q) (s0q := s0q) (n1q := n1q) (s1q := s1q) (n2q := n2q) (s2q := s2q) (n3q := n3q) (s3q := s3q) (n4q := n4q) (s4q := s4q) (n5q := n5q) (s5q := s5q) (n6q := n6q) (s6q := s6q) (clq := clq) (deq := deq) (exq := exq) (loq := loq) (upq := upq) (tiq := tiq) (foq := foq) (caq := caq) (igq := igq) (stq := stq) (coq := coq) (meq := meq) (cfq := cfq) hP q_n0 t_n0 q_s0 t_s0 q_n1 t_n1 q_s1 t_s1 q_n2 t_n2 q_s2 t_s2 q_n3 t_n3 q_s3 t_s3 q_n4 t_n4 q_s4 t_s4 q_n5 t_n5 q_s5 t_s5 q_n6 t_n6 q_s6 t_s6 q_n0q t_n0q q_s0q t_s0q q_n1q t_n1q q_s1q t_s1q q_n2q t_n2q q_s2q t_s2q q_n3q t_n3q q_s3q t_s3q q_n4q t_n4q q_s4q t_s4q q_n5q t_n5q q_s5q t_s5q q_n6q t_n6q q_s6q t_s6q hr
  apply AF_of_AC
  refine AC_of_vc (K := keepT 57) (fn := Tryz.f57) (by rw [hP]; exact Tryz.func57) rfl rfl rfl rfl rfl ?_
  cbv <;> repeat' (first
    | (refine go_val c ?_; cbv)
    | (refine ex_strne ?_ ?_ <;> intro _ <;> first | (exfalso; omega) | cbv)
    | (refine ex_if ?_ ?_ <;> intro _ <;> first | (exfalso; omega) | cbv)
    | (refine line_go 10 ?_; cbv)
    | (refine go_nil ?_ ?_ <;> (try intro _) <;> cbv)
    | (refine ex_bool ?_; cbv)
    | (refine go_tt ?_; cbv)
    | (refine go_ff ?_; cbv)
    | (refine go_tf ?_; cbv)
    | (refine go_ft ?_; cbv)
    | (refine ex_len (by assumption) ?_; cbv)
    | (refine ex_slen (by assumption) ?_; cbv)
    | (refine ex_lenv (fun _ _ _ => ?_); cbv)
    | (refine ex_slenv (fun _ _ _ => ?_); cbv)
    | (refine ex_wrap (by omega) (fun _ _ => ?_); cbv)
    | (refine ix_span (by assumption) (by assumption) (by omega) (by omega) (fun _ _ _ _ => ?_); cbv)
    | (refine ix_rng (by assumption) (by assumption) (by omega) (by omega) (fun _ _ _ => ?_); cbv)
    | (refine ix_str (by assumption) (by assumption) (by omega) (by omega) (fun _ _ _ => ?_); cbv)
    | (refine ix_map (by assumption) (by assumption) (by omega) (by omega) (fun _ _ _ _ _ _ _ => ?_); cbv)
    | (refine ix_int (by assumption) (by assumption) (by omega) (by omega) (fun _ _ _ => ?_); cbv)
    | (refine ex_neq3 (fun _ => ?_) (fun _ _ _ => ?_) <;> cbv)
    | (refine ex_neq2 (fun _ => ?_) (fun _ _ => ?_) <;> cbv)
    | (refine ob_go (by omega) ?_; cbv)
    | (refine ob_go (by kernel_rfl) ?_; cbv)
    | fail)
  all_goals trivial
end
end
end Go.Px.Db
