/- Shows a part of the walk of the law; its conditions stand ahead of each theorem. -/
import Derived.Test.YtecojilckmiobaaGreatDoorPxDbQ1
set_option linter.unusedVariables false
set_option maxRecDepth 100000
set_option maxHeartbeats 4000000
namespace Go.Px.Db
open Go Go.Px Go.Proofs
noncomputable section
section
variable {mm : Int} {E : Env (tab mm)} {a b a2 b2 : Int} {n0 s0 n1 s1 n2 s2 n3 s3 n4 s4 n5 s5 n6 s6 cl de ex lo up ti fo ca ig st co me cf n0q s0q n1q s1q n2q s2q n3q s3q n4q s4q n5q s5q n6q s6q clq deq exq loq upq tiq foq caq igq stq coq meq cfq : List PV}
theorem a55 (hP : E.P = Tryz.prog) : AF E 55 [.pp [.int .i64 a, .int .i64 b, .sl n0, .sl s0, .sl n1, .sl s1, .sl n2, .sl s2, .sl n3, .sl s3, .sl n4, .sl s4, .sl n5, .sl s5, .sl n6, .sl s6, .sl cl, .sl de, .sl ex, .sl lo, .sl up, .sl ti, .sl fo, .sl ca, .sl ig, .sl st, .sl co, .sl me, .sl cf] 0] (.sl [.pp [.int .i64 a, .int .i64 b, .sl n0, .sl s0, .sl n1, .sl s1, .sl n2, .sl s2, .sl n3, .sl s3, .sl n4, .sl s4, .sl n5, .sl s5, .sl n6, .sl s6, .sl cl, .sl de, .sl ex, .sl lo, .sl up, .sl ti, .sl fo, .sl ca, .sl ig, .sl st, .sl co, .sl me, .sl cf] 17, .pp [.int .i64 a, .int .i64 b, .sl n0, .sl s0, .sl n1, .sl s1, .sl n2, .sl s2, .sl n3, .sl s3, .sl n4, .sl s4, .sl n5, .sl s5, .sl n6, .sl s6, .sl cl, .sl de, .sl ex, .sl lo, .sl up, .sl ti, .sl fo, .sl ca, .sl ig, .sl st, .sl co, .sl me, .sl cf] 19, .pp [.int .i64 a, .int .i64 b, .sl n0, .sl s0, .sl n1, .sl s1, .sl n2, .sl s2, .sl n3, .sl s3, .sl n4, .sl s4, .sl n5, .sl s5, .sl n6, .sl s6, .sl cl, .sl de, .sl ex, .sl lo, .sl up, .sl ti, .sl fo, .sl ca, .sl ig, .sl st, .sl co, .sl me, .sl cf] 20, .pp [.int .i64 a, .int .i64 b, .sl n0, .sl s0, .sl n1, .sl s1, .sl n2, .sl s2, .sl n3, .sl s3, .sl n4, .sl s4, .sl n5, .sl s5, .sl n6, .sl s6, .sl cl, .sl de, .sl ex, .sl lo, .sl up, .sl ti, .sl fo, .sl ca, .sl ig, .sl st, .sl co, .sl me, .sl cf] 21, .pp [.int .i64 a, .int .i64 b, .sl n0, .sl s0, .sl n1, .sl s1, .sl n2, .sl s2, .sl n3, .sl s3, .sl n4, .sl s4, .sl n5, .sl s5, .sl n6, .sl s6, .sl cl, .sl de, .sl ex, .sl lo, .sl up, .sl ti, .sl fo, .sl ca, .sl ig, .sl st, .sl co, .sl me, .sl cf] 22, .pp [.int .i64 a, .int .i64 b, .sl n0, .sl s0, .sl n1, .sl s1, .sl n2, .sl s2, .sl n3, .sl s3, .sl n4, .sl s4, .sl n5, .sl s5, .sl n6, .sl s6, .sl cl, .sl de, .sl ex, .sl lo, .sl up, .sl ti, .sl fo, .sl ca, .sl ig, .sl st, .sl co, .sl me, .sl cf] 28]) := by
  apply AF_of_AC
  refine AC_of_vc (K := keepT 55) (fn := Tryz.f55) (by rw [hP]; exact Tryz.func55) rfl rfl rfl rfl rfl ?_
  cbv <;> repeat' (first
    | (refine ex_strne ?_ ?_ <;> intro _ <;> first | (exfalso; omega) | cbv)
    | (refine ex_if ?_ ?_ <;> intro _ <;> first | (exfalso; omega) | cbv)
    | (refine line_go 10 ?_; cbv)
    | (refine go_nil ?_ ?_ <;> (try intro _) <;> cbv)
    | (refine ex_bool ?_; cbv)
    | (refine go_tt ?_; cbv)
    | (refine go_ff ?_; cbv)
    | (refine go_tf ?_; cbv)
    | (refine go_ft ?_; cbv)
    | (refine ex_len (by assumption) ?_; cbv)
    | (refine ex_slen (by assumption) ?_; cbv)
    | (refine ex_lenv (fun _ _ _ => ?_); cbv)
    | (refine ex_slenv (fun _ _ _ => ?_); cbv)
    | (refine ex_wrap (by omega) (fun _ _ => ?_); cbv)
    | (refine ix_span (by assumption) (by assumption) (by omega) (by omega) (fun _ _ _ _ => ?_); cbv)
    | (refine ix_rng (by assumption) (by assumption) (by omega) (by omega) (fun _ _ _ => ?_); cbv)
    | (refine ix_str (by assumption) (by assumption) (by omega) (by omega) (fun _ _ _ => ?_); cbv)
    | (refine ix_map (by assumption) (by assumption) (by omega) (by omega) (fun _ _ _ _ _ _ _ => ?_); cbv)
    | (refine ix_int (by assumption) (by assumption) (by omega) (by omega) (fun _ _ _ => ?_); cbv)
    | (refine ex_neq3 (fun _ => ?_) (fun _ _ _ => ?_) <;> cbv)
    | (refine ex_neq2 (fun _ => ?_) (fun _ _ => ?_) <;> cbv)
    | (refine ob_go (by omega) ?_; cbv)
    | (refine ob_go (by kernel_rfl) ?_; cbv)
    | fail)
  all_goals trivial
theorem c102_de (hP : E.P = Tryz.prog) (q_de : Mps de) (t_de : Len de) (q_deq : Mps deq) (t_deq : Len deq) {r : Bool} (hr : r = true ↔ de = deq) : AF E 102 [.pp [.int .i64 a, .int .i64 b, .sl n0, .sl s0, .sl n1, .sl s1, .sl n2, .sl s2, .sl n3, .sl s3, .sl n4, .sl s4, .sl n5, .sl s5, .sl n6, .sl s6, .sl cl, .sl de, .sl ex, .sl lo, .sl up, .sl ti, .sl fo, .sl ca, .sl ig, .sl st, .sl co, .sl me, .sl cf] 17, .pp [.int .i64 a2, .int .i64 b2, .sl n0q, .sl s0q, .sl n1q, .sl s1q, .sl n2q, .sl s2q, .sl n3q, .sl s3q, .sl n4q, .sl s4q, .sl n5q, .sl s5q, .sl n6q, .sl s6q, .sl clq, .sl deq, .sl exq, .sl loq, .sl upq, .sl tiq, .sl foq, .sl caq, .sl igq, .sl stq, .sl coq, .sl meq, .sl cfq] 17, .pp [.fn (.func 56) [] []] 0] (.bool r) := by
  have c := a56 (E := E) hP q_de q_deq t_de t_deq hr
  apply AF_of_AC
  refine AC_of_vc (K := keepT 102) (fn := Tryz.f102) (by rw [hP]; exact Tryz.func102) rfl rfl rfl rfl rfl ?_
  cbv <;> repeat' (first
    | (refine go_val c ?_; cbv)
    | (refine ex_strne ?_ ?_ <;> intro _ <;> first | (exfalso; omega) | cbv)
    | (refine ex_if ?_ ?_ <;> intro _ <;> first | (exfalso; omega) | cbv)
    | (refine line_go 10 ?_; cbv)
    | (refine go_nil ?_ ?_ <;> (try intro _) <;> cbv)
    | (refine ex_bool ?_; cbv)
    | (refine go_tt ?_; cbv)
    | (refine go_ff ?_; cbv)
    | (refine go_tf ?_; cbv)
    | (refine go_ft ?_; cbv)
    | (refine ex_len (by assumption) ?_; cbv)
    | (refine ex_slen (by assumption) ?_; cbv)
    | (refine ex_lenv (fun _ _ _ => ?_); cbv)
    | (refine ex_slenv (fun _ _ _ => ?_); cbv)
    | (refine ex_wrap (by omega) (fun _ _ => ?_); cbv)
    | (refine ix_span (by assumption) (by assumption) (by omega) (by omega) (fun _ _ _ _ => ?_); cbv)
    | (refine ix_rng (by assumption) (by assumption) (by omega) (by omega) (fun _ _ _ => ?_); cbv)
    | (refine ix_str (by assumption) (by assumption) (by omega) (by omega) (fun _ _ _ => ?_); cbv)
    | (refine ix_map (by assumption) (by assumption) (by omega) (by omega) (fun _ _ _ _ _ _ _ => ?_); cbv)
    | (refine ix_int (by assumption) (by assumption) (by omega) (by omega) (fun _ _ _ => ?_); cbv)
    | (refine ex_neq3 (fun _ => ?_) (fun _ _ _ => ?_) <;> cbv)
    | (refine ex_neq2 (fun _ => ?_) (fun _ _ => ?_) <;> cbv)
    | (refine ob_go (by omega) ?_; cbv)
    | (refine ob_go (by kernel_rfl) ?_; cbv)
    | fail)
  all_goals trivial
theorem c102_lo (hP : E.P = Tryz.prog) (q_lo : Mps lo) (t_lo : Len lo) (q_loq : Mps loq) (t_loq : Len loq) {r : Bool} (hr : r = true ↔ lo = loq) : AF E 102 [.pp [.int .i64 a, .int .i64 b, .sl n0, .sl s0, .sl n1, .sl s1, .sl n2, .sl s2, .sl n3, .sl s3, .sl n4, .sl s4, .sl n5, .sl s5, .sl n6, .sl s6, .sl cl, .sl de, .sl ex, .sl lo, .sl up, .sl ti, .sl fo, .sl ca, .sl ig, .sl st, .sl co, .sl me, .sl cf] 19, .pp [.int .i64 a2, .int .i64 b2, .sl n0q, .sl s0q, .sl n1q, .sl s1q, .sl n2q, .sl s2q, .sl n3q, .sl s3q, .sl n4q, .sl s4q, .sl n5q, .sl s5q, .sl n6q, .sl s6q, .sl clq, .sl deq, .sl exq, .sl loq, .sl upq, .sl tiq, .sl foq, .sl caq, .sl igq, .sl stq, .sl coq, .sl meq, .sl cfq] 19, .pp [.fn (.func 56) [] []] 0] (.bool r) := by
  have c := a56 (E := E) hP q_lo q_loq t_lo t_loq hr
  apply AF_of_AC
  refine AC_of_vc (K := keepT 102) (fn := Tryz.f102) (by rw [hP]; exact Tryz.func102) rfl rfl rfl rfl rfl ?_
  cbv <;> repeat' (first
    | (refine go_val c ?_; cbv)
    | (refine ex_strne ?_ ?_ <;> intro _ <;> first | (exfalso; omega) | cbv)
    | (refine ex_if ?_ ?_ <;> intro _ <;> first | (exfalso; omega) | cbv)
    | (refine line_go 10 ?_; cbv)
    | (refine go_nil ?_ ?_ <;> (try intro _) <;> cbv)
    | (refine ex_bool ?_; cbv)
    | (refine go_tt ?_; cbv)
    | (refine go_ff ?_; cbv)
    | (refine go_tf ?_; cbv)
    | (refine go_ft ?_; cbv)
    | (refine ex_len (by assumption) ?_; cbv)
    | (refine ex_slen (by assumption) ?_; cbv)
    | (refine ex_lenv (fun _ _ _ => ?_); cbv)
    | (refine ex_slenv (fun _ _ _ => ?_); cbv)
    | (refine ex_wrap (by omega) (fun _ _ => ?_); cbv)
    | (refine ix_span (by assumption) (by assumption) (by omega) (by omega) (fun _ _ _ _ => ?_); cbv)
    | (refine ix_rng (by assumption) (by assumption) (by omega) (by omega) (fun _ _ _ => ?_); cbv)
    | (refine ix_str (by assumption) (by assumption) (by omega) (by omega) (fun _ _ _ => ?_); cbv)
    | (refine ix_map (by assumption) (by assumption) (by omega) (by omega) (fun _ _ _ _ _ _ _ => ?_); cbv)
    | (refine ix_int (by assumption) (by assumption) (by omega) (by omega) (fun _ _ _ => ?_); cbv)
    | (refine ex_neq3 (fun _ => ?_) (fun _ _ _ => ?_) <;> cbv)
    | (refine ex_neq2 (fun _ => ?_) (fun _ _ => ?_) <;> cbv)
    | (refine ob_go (by omega) ?_; cbv)
    | (refine ob_go (by kernel_rfl) ?_; cbv)
    | fail)
  all_goals trivial
theorem c102_up (hP : E.P = Tryz.prog) (q_up : Mps up) (t_up : Len up) (q_upq : Mps upq) (t_upq : Len upq) {r : Bool} (hr : r = true ↔ up = upq) : AF E 102 [.pp [.int .i64 a, .int .i64 b, .sl n0, .sl s0, .sl n1, .sl s1, .sl n2, .sl s2, .sl n3, .sl s3, .sl n4, .sl s4, .sl n5, .sl s5, .sl n6, .sl s6, .sl cl, .sl de, .sl ex, .sl lo, .sl up, .sl ti, .sl fo, .sl ca, .sl ig, .sl st, .sl co, .sl me, .sl cf] 20, .pp [.int .i64 a2, .int .i64 b2, .sl n0q, .sl s0q, .sl n1q, .sl s1q, .sl n2q, .sl s2q, .sl n3q, .sl s3q, .sl n4q, .sl s4q, .sl n5q, .sl s5q, .sl n6q, .sl s6q, .sl clq, .sl deq, .sl exq, .sl loq, .sl upq, .sl tiq, .sl foq, .sl caq, .sl igq, .sl stq, .sl coq, .sl meq, .sl cfq] 20, .pp [.fn (.func 56) [] []] 0] (.bool r) := by
  have c := a56 (E := E) hP q_up q_upq t_up t_upq hr
  apply AF_of_AC
  refine AC_of_vc (K := keepT 102) (fn := Tryz.f102) (by rw [hP]; exact Tryz.func102) rfl rfl rfl rfl rfl ?_
  cbv <;> repeat' (first
    | (refine go_val c ?_; cbv)
    | (refine ex_strne ?_ ?_ <;> intro _ <;> first | (exfalso; omega) | cbv)
    | (refine ex_if ?_ ?_ <;> intro _ <;> first | (exfalso; omega) | cbv)
    | (refine line_go 10 ?_; cbv)
    | (refine go_nil ?_ ?_ <;> (try intro _) <;> cbv)
    | (refine ex_bool ?_; cbv)
    | (refine go_tt ?_; cbv)
    | (refine go_ff ?_; cbv)
    | (refine go_tf ?_; cbv)
    | (refine go_ft ?_; cbv)
    | (refine ex_len (by assumption) ?_; cbv)
    | (refine ex_slen (by assumption) ?_; cbv)
    | (refine ex_lenv (fun _ _ _ => ?_); cbv)
    | (refine ex_slenv (fun _ _ _ => ?_); cbv)
    | (refine ex_wrap (by omega) (fun _ _ => ?_); cbv)
    | (refine ix_span (by assumption) (by assumption) (by omega) (by omega) (fun _ _ _ _ => ?_); cbv)
    | (refine ix_rng (by assumption) (by assumption) (by omega) (by omega) (fun _ _ _ => ?_); cbv)
    | (refine ix_str (by assumption) (by assumption) (by omega) (by omega) (fun _ _ _ => ?_); cbv)
    | (refine ix_map (by assumption) (by assumption) (by omega) (by omega) (fun _ _ _ _ _ _ _ => ?_); cbv)
    | (refine ix_int (by assumption) (by assumption) (by omega) (by omega) (fun _ _ _ => ?_); cbv)
    | (refine ex_neq3 (fun _ => ?_) (fun _ _ _ => ?_) <;> cbv)
    | (refine ex_neq2 (fun _ => ?_) (fun _ _ => ?_) <;> cbv)
    | (refine ob_go (by omega) ?_; cbv)
    | (refine ob_go (by kernel_rfl) ?_; cbv)
    | fail)
  all_goals trivial
theorem c102_ti (hP : E.P = Tryz.prog) (q_ti : Mps ti) (t_ti : Len ti) (q_tiq : Mps tiq) (t_tiq : Len tiq) {r : Bool} (hr : r = true ↔ ti = tiq) : AF E 102 [.pp [.int .i64 a, .int .i64 b, .sl n0, .sl s0, .sl n1, .sl s1, .sl n2, .sl s2, .sl n3, .sl s3, .sl n4, .sl s4, .sl n5, .sl s5, .sl n6, .sl s6, .sl cl, .sl de, .sl ex, .sl lo, .sl up, .sl ti, .sl fo, .sl ca, .sl ig, .sl st, .sl co, .sl me, .sl cf] 21, .pp [.int .i64 a2, .int .i64 b2, .sl n0q, .sl s0q, .sl n1q, .sl s1q, .sl n2q, .sl s2q, .sl n3q, .sl s3q, .sl n4q, .sl s4q, .sl n5q, .sl s5q, .sl n6q, .sl s6q, .sl clq, .sl deq, .sl exq, .sl loq, .sl upq, .sl tiq, .sl foq, .sl caq, .sl igq, .sl stq, .sl coq, .sl meq, .sl cfq] 21, .pp [.fn (.func 56) [] []] 0] (.bool r) := by
  have c := a56 (E := E) hP q_ti q_tiq t_ti t_tiq hr
  apply AF_of_AC
  refine AC_of_vc (K := keepT 102) (fn := Tryz.f102) (by rw [hP]; exact Tryz.func102) rfl rfl rfl rfl rfl ?_
  cbv <;> repeat' (first
    | (refine go_val c ?_; cbv)
    | (refine ex_strne ?_ ?_ <;> intro _ <;> first | (exfalso; omega) | cbv)
    | (refine ex_if ?_ ?_ <;> intro _ <;> first | (exfalso; omega) | cbv)
    | (refine line_go 10 ?_; cbv)
    | (refine go_nil ?_ ?_ <;> (try intro _) <;> cbv)
    | (refine ex_bool ?_; cbv)
    | (refine go_tt ?_; cbv)
    | (refine go_ff ?_; cbv)
    | (refine go_tf ?_; cbv)
    | (refine go_ft ?_; cbv)
    | (refine ex_len (by assumption) ?_; cbv)
    | (refine ex_slen (by assumption) ?_; cbv)
    | (refine ex_lenv (fun _ _ _ => ?_); cbv)
    | (refine ex_slenv (fun _ _ _ => ?_); cbv)
    | (refine ex_wrap (by omega) (fun _ _ => ?_); cbv)
    | (refine ix_span (by assumption) (by assumption) (by omega) (by omega) (fun _ _ _ _ => ?_); cbv)
    | (refine ix_rng (by assumption) (by assumption) (by omega) (by omega) (fun _ _ _ => ?_); cbv)
    | (refine ix_str (by assumption) (by assumption) (by omega) (by omega) (fun _ _ _ => ?_); cbv)
    | (refine ix_map (by assumption) (by assumption) (by omega) (by omega) (fun _ _ _ _ _ _ _ => ?_); cbv)
    | (refine ix_int (by assumption) (by assumption) (by omega) (by omega) (fun _ _ _ => ?_); cbv)
    | (refine ex_neq3 (fun _ => ?_) (fun _ _ _ => ?_) <;> cbv)
    | (refine ex_neq2 (fun _ => ?_) (fun _ _ => ?_) <;> cbv)
    | (refine ob_go (by omega) ?_; cbv)
    | (refine ob_go (by kernel_rfl) ?_; cbv)
    | fail)
  all_goals trivial
theorem c102_fo (hP : E.P = Tryz.prog) (q_fo : Mps fo) (t_fo : Len fo) (q_foq : Mps foq) (t_foq : Len foq) {r : Bool} (hr : r = true ↔ fo = foq) : AF E 102 [.pp [.int .i64 a, .int .i64 b, .sl n0, .sl s0, .sl n1, .sl s1, .sl n2, .sl s2, .sl n3, .sl s3, .sl n4, .sl s4, .sl n5, .sl s5, .sl n6, .sl s6, .sl cl, .sl de, .sl ex, .sl lo, .sl up, .sl ti, .sl fo, .sl ca, .sl ig, .sl st, .sl co, .sl me, .sl cf] 22, .pp [.int .i64 a2, .int .i64 b2, .sl n0q, .sl s0q, .sl n1q, .sl s1q, .sl n2q, .sl s2q, .sl n3q, .sl s3q, .sl n4q, .sl s4q, .sl n5q, .sl s5q, .sl n6q, .sl s6q, .sl clq, .sl deq, .sl exq, .sl loq, .sl upq, .sl tiq, .sl foq, .sl caq, .sl igq, .sl stq, .sl coq, .sl meq, .sl cfq] 22, .pp [.fn (.func 56) [] []] 0] (.bool r) := by
  have c := a56 (E := E) hP q_fo q_foq t_fo t_foq hr
  apply AF_of_AC
  refine AC_of_vc (K := keepT 102) (fn := Tryz.f102) (by rw [hP]; exact Tryz.func102) rfl rfl rfl rfl rfl ?_
  cbv <;> repeat' (first
    | (refine go_val c ?_; cbv)
    | (refine ex_strne ?_ ?_ <;> intro _ <;> first | (exfalso; omega) | cbv)
    | (refine ex_if ?_ ?_ <;> intro _ <;> first | (exfalso; omega) | cbv)
    | (refine line_go 10 ?_; cbv)
    | (refine go_nil ?_ ?_ <;> (try intro _) <;> cbv)
    | (refine ex_bool ?_; cbv)
    | (refine go_tt ?_; cbv)
    | (refine go_ff ?_; cbv)
    | (refine go_tf ?_; cbv)
    | (refine go_ft ?_; cbv)
    | (refine ex_len (by assumption) ?_; cbv)
    | (refine ex_slen (by assumption) ?_; cbv)
    | (refine ex_lenv (fun _ _ _ => ?_); cbv)
    | (refine ex_slenv (fun _ _ _ => ?_); cbv)
    | (refine ex_wrap (by omega) (fun _ _ => ?_); cbv)
    | (refine ix_span (by assumption) (by assumption) (by omega) (by omega) (fun _ _ _ _ => ?_); cbv)
    | (refine ix_rng (by assumption) (by assumption) (by omega) (by omega) (fun _ _ _ => ?_); cbv)
    | (refine ix_str (by assumption) (by assumption) (by omega) (by omega) (fun _ _ _ => ?_); cbv)
    | (refine ix_map (by assumption) (by assumption) (by omega) (by omega) (fun _ _ _ _ _ _ _ => ?_); cbv)
    | (refine ix_int (by assumption) (by assumption) (by omega) (by omega) (fun _ _ _ => ?_); cbv)
    | (refine ex_neq3 (fun _ => ?_) (fun _ _ _ => ?_) <;> cbv)
    | (refine ex_neq2 (fun _ => ?_) (fun _ _ => ?_) <;> cbv)
    | (refine ob_go (by omega) ?_; cbv)
    | (refine ob_go (by kernel_rfl) ?_; cbv)
    | fail)
  all_goals trivial
theorem c102_cf (hP : E.P = Tryz.prog) (q_cf : Mps cf) (t_cf : Len cf) (q_cfq : Mps cfq) (t_cfq : Len cfq) {r : Bool} (hr : r = true ↔ cf = cfq) : AF E 102 [.pp [.int .i64 a, .int .i64 b, .sl n0, .sl s0, .sl n1, .sl s1, .sl n2, .sl s2, .sl n3, .sl s3, .sl n4, .sl s4, .sl n5, .sl s5, .sl n6, .sl s6, .sl cl, .sl de, .sl ex, .sl lo, .sl up, .sl ti, .sl fo, .sl ca, .sl ig, .sl st, .sl co, .sl me, .sl cf] 28, .pp [.int .i64 a2, .int .i64 b2, .sl n0q, .sl s0q, .sl n1q, .sl s1q, .sl n2q, .sl s2q, .sl n3q, .sl s3q, .sl n4q, .sl s4q, .sl n5q, .sl s5q, .sl n6q, .sl s6q, .sl clq, .sl deq, .sl exq, .sl loq, .sl upq, .sl tiq, .sl foq, .sl caq, .sl igq, .sl stq, .sl coq, .sl meq, .sl cfq] 28, .pp [.fn (.func 56) [] []] 0] (.bool r) := by
  have c := a56 (E := E) hP q_cf q_cfq t_cf t_cfq hr
  apply AF_of_AC
  refine AC_of_vc (K := keepT 102) (fn := Tryz.f102) (by rw [hP]; exact Tryz.func102) rfl rfl rfl rfl rfl ?_
  cbv <;> repeat' (first
    | (refine go_val c ?_; cbv)
    | (refine ex_strne ?_ ?_ <;> intro _ <;> first | (exfalso; omega) | cbv)
    | (refine ex_if ?_ ?_ <;> intro _ <;> first | (exfalso; omega) | cbv)
    | (refine line_go 10 ?_; cbv)
    | (refine go_nil ?_ ?_ <;> (try intro _) <;> cbv)
    | (refine ex_bool ?_; cbv)
    | (refine go_tt ?_; cbv)
    | (refine go_ff ?_; cbv)
    | (refine go_tf ?_; cbv)
    | (refine go_ft ?_; cbv)
    | (refine ex_len (by assumption) ?_; cbv)
    | (refine ex_slen (by assumption) ?_; cbv)
    | (refine ex_lenv (fun _ _ _ => ?_); cbv)
    | (refine ex_slenv (fun _ _ _ => ?_); cbv)
    | (refine ex_wrap (by omega) (fun _ _ => ?_); cbv)
    | (refine ix_span (by assumption) (by assumption) (by omega) (by omega) (fun _ _ _ _ => ?_); cbv)
    | (refine ix_rng (by assumption) (by assumption) (by omega) (by omega) (fun _ _ _ => ?_); cbv)
    | (refine ix_str (by assumption) (by assumption) (by omega) (by omega) (fun _ _ _ => ?_); cbv)
    | (refine ix_map (by assumption) (by assumption) (by omega) (by omega) (fun _ _ _ _ _ _ _ => ?_); cbv)
    | (refine ix_int (by assumption) (by assumption) (by omega) (by omega) (fun _ _ _ => ?_); cbv)
    | (refine ex_neq3 (fun _ => ?_) (fun _ _ _ => ?_) <;> cbv)
    | (refine ex_neq2 (fun _ => ?_) (fun _ _ => ?_) <;> cbv)
    | (refine ob_go (by omega) ?_; cbv)
    | (refine ob_go (by kernel_rfl) ?_; cbv)
    | fail)
  all_goals trivial
theorem a101 (hP : E.P = Tryz.prog) (q_de : Mps de) (t_de : Len de) (q_lo : Mps lo) (t_lo : Len lo) (q_up : Mps up) (t_up : Len up) (q_ti : Mps ti) (t_ti : Len ti) (q_fo : Mps fo) (t_fo : Len fo) (q_cf : Mps cf) (t_cf : Len cf) (q_deq : Mps deq) (t_deq : Len deq) (q_loq : Mps loq) (t_loq : Len loq) (q_upq : Mps upq) (t_upq : Len upq) (q_tiq : Mps tiq) (t_tiq : Len tiq) (q_foq : Mps foq) (t_foq : Len foq) (q_cfq : Mps cfq) (t_cfq : Len cfq) {r : Bool} (hr : r = true ↔ de = deq ∧ lo = loq ∧ up = upq ∧ ti = tiq ∧ fo = foq ∧ cf = cfq) : AF E 101 [.sl [.pp [.int .i64 a, .int .i64 b, .sl n0, .sl s0, .sl n1, .sl s1, .sl n2, .sl s2, .sl n3, .sl s3, .sl n4, .sl s4, .sl n5, .sl s5, .sl n6, .sl s6, .sl cl, .sl de, .sl ex, .sl lo, .sl up, .sl ti, .sl fo, .sl ca, .sl ig, .sl st, .sl co, .sl me, .sl cf] 17, .pp [.int .i64 a, .int .i64 b, .sl n0, .sl s0, .sl n1, .sl s1, .sl n2, .sl s2, .sl n3, .sl s3, .sl n4, .sl s4, .sl n5, .sl s5, .sl n6, .sl s6, .sl cl, .sl de, .sl ex, .sl lo, .sl up, .sl ti, .sl fo, .sl ca, .sl ig, .sl st, .sl co, .sl me, .sl cf] 19, .pp [.int .i64 a, .int .i64 b, .sl n0, .sl s0, .sl n1, .sl s1, .sl n2, .sl s2, .sl n3, .sl s3, .sl n4, .sl s4, .sl n5, .sl s5, .sl n6, .sl s6, .sl cl, .sl de, .sl ex, .sl lo, .sl up, .sl ti, .sl fo, .sl ca, .sl ig, .sl st, .sl co, .sl me, .sl cf] 20, .pp [.int .i64 a, .int .i64 b, .sl n0, .sl s0, .sl n1, .sl s1, .sl n2, .sl s2, .sl n3, .sl s3, .sl n4, .sl s4, .sl n5, .sl s5, .sl n6, .sl s6, .sl cl, .sl de, .sl ex, .sl lo, .sl up, .sl ti, .sl fo, .sl ca, .sl ig, .sl st, .sl co, .sl me, .sl cf] 21, .pp [.int .i64 a, .int .i64 b, .sl n0, .sl s0, .sl n1, .sl s1, .sl n2, .sl s2, .sl n3, .sl s3, .sl n4, .sl s4, .sl n5, .sl s5, .sl n6, .sl s6, .sl cl, .sl de, .sl ex, .sl lo, .sl up, .sl ti, .sl fo, .sl ca, .sl ig, .sl st, .sl co, .sl me, .sl cf] 22, .pp [.int .i64 a, .int .i64 b, .sl n0, .sl s0, .sl n1, .sl s1, .sl n2, .sl s2, .sl n3, .sl s3, .sl n4, .sl s4, .sl n5, .sl s5, .sl n6, .sl s6, .sl cl, .sl de, .sl ex, .sl lo, .sl up, .sl ti, .sl fo, .sl ca, .sl ig, .sl st, .sl co, .sl me, .sl cf] 28], .sl [.pp [.int .i64 a2, .int .i64 b2, .sl n0q, .sl s0q, .sl n1q, .sl s1q, .sl n2q, .sl s2q, .sl n3q, .sl s3q, .sl n4q, .sl s4q, .sl n5q, .sl s5q, .sl n6q, .sl s6q, .sl clq, .sl deq, .sl exq, .sl loq, .sl upq, .sl tiq, .sl foq, .sl caq, .sl igq, .sl stq, .sl coq, .sl meq, .sl cfq] 17, .pp [.int .i64 a2, .int .i64 b2, .sl n0q, .sl s0q, .sl n1q, .sl s1q, .sl n2q, .sl s2q, .sl n3q, .sl s3q, .sl n4q, .sl s4q, .sl n5q, .sl s5q, .sl n6q, .sl s6q, .sl clq, .sl deq, .sl exq, .sl loq, .sl upq, .sl tiq, .sl foq, .sl caq, .sl igq, .sl stq, .sl coq, .sl meq, .sl cfq] 19, .pp [.int .i64 a2, .int .i64 b2, .sl n0q, .sl s0q, .sl n1q, .sl s1q, .sl n2q, .sl s2q, .sl n3q, .sl s3q, .sl n4q, .sl s4q, .sl n5q, .sl s5q, .sl n6q, .sl s6q, .sl clq, .sl deq, .sl exq, .sl loq, .sl upq, .sl tiq, .sl foq, .sl caq, .sl igq, .sl stq, .sl coq, .sl meq, .sl cfq] 20, .pp [.int .i64 a2, .int .i64 b2, .sl n0q, .sl s0q, .sl n1q, .sl s1q, .sl n2q, .sl s2q, .sl n3q, .sl s3q, .sl n4q, .sl s4q, .sl n5q, .sl s5q, .sl n6q, .sl s6q, .sl clq, .sl deq, .sl exq, .sl loq, .sl upq, .sl tiq, .sl foq, .sl caq, .sl igq, .sl stq, .sl coq, .sl meq, .sl cfq] 21, .pp [.int .i64 a2, .int .i64 b2, .sl n0q, .sl s0q, .sl n1q, .sl s1q, .sl n2q, .sl s2q, .sl n3q, .sl s3q, .sl n4q, .sl s4q, .sl n5q, .sl s5q, .sl n6q, .sl s6q, .sl clq, .sl deq, .sl exq, .sl loq, .sl upq, .sl tiq, .sl foq, .sl caq, .sl igq, .sl stq, .sl coq, .sl meq, .sl cfq] 22, .pp [.int .i64 a2, .int .i64 b2, .sl n0q, .sl s0q, .sl n1q, .sl s1q, .sl n2q, .sl s2q, .sl n3q, .sl s3q, .sl n4q, .sl s4q, .sl n5q, .sl s5q, .sl n6q, .sl s6q, .sl clq, .sl deq, .sl exq, .sl loq, .sl upq, .sl tiq, .sl foq, .sl caq, .sl igq, .sl stq, .sl coq, .sl meq, .sl cfq] 28], .fn (.func 102) [] [.pp [.fn (.func 56) [] []] 0]] (.bool r) := by
  apply AF_of_AC
  refine AC_of_vc (K := keepT 101) (fn := Tryz.f101) (by rw [hP]; exact Tryz.func101) rfl rfl rfl rfl rfl ?_
  cbv <;> repeat' (first
    | (refine ⟨6, rfl, ?_⟩; cbv)
    | (refine LoopVC.unroll ?_; cbv)
    | (refine ⟨_, rfl, ob (by omega), ob rfl, ?_⟩; cbv)
    | (refine ⟨_, rfl, ?_⟩; cbv)
    | (refine go_if (fun r hr => c102_de hP q_de t_de q_deq t_deq hr) ?_ ?_ <;> intro _ <;> cbv)
    | (refine go_if (fun r hr => c102_lo hP q_lo t_lo q_loq t_loq hr) ?_ ?_ <;> intro _ <;> cbv)
    | (refine go_if (fun r hr => c102_up hP q_up t_up q_upq t_upq hr) ?_ ?_ <;> intro _ <;> cbv)
    | (refine go_if (fun r hr => c102_ti hP q_ti t_ti q_tiq t_tiq hr) ?_ ?_ <;> intro _ <;> cbv)
    | (refine go_if (fun r hr => c102_fo hP q_fo t_fo q_foq t_foq hr) ?_ ?_ <;> intro _ <;> cbv)
    | (refine go_if (fun r hr => c102_cf hP q_cf t_cf q_cfq t_cfq hr) ?_ ?_ <;> intro _ <;> cbv)
    | (refine ex_strne ?_ ?_ <;> intro _ <;> first | (exfalso; omega) | cbv)
    | (refine ex_if ?_ ?_ <;> intro _ <;> first | (exfalso; omega) | cbv)
    | (refine line_go 10 ?_; cbv)
    | (refine go_nil ?_ ?_ <;> (try intro _) <;> cbv)
    | (refine ex_bool ?_; cbv)
    | (refine go_tt ?_; cbv)
    | (refine go_ff ?_; cbv)
    | (refine go_tf ?_; cbv)
    | (refine go_ft ?_; cbv)
    | (refine ex_len (by assumption) ?_; cbv)
    | (refine ex_slen (by assumption) ?_; cbv)
    | (refine ex_lenv (fun _ _ _ => ?_); cbv)
    | (refine ex_slenv (fun _ _ _ => ?_); cbv)
    | (refine ex_wrap (by omega) (fun _ _ => ?_); cbv)
    | (refine ix_span (by assumption) (by assumption) (by omega) (by omega) (fun _ _ _ _ => ?_); cbv)
    | (refine ix_rng (by assumption) (by assumption) (by omega) (by omega) (fun _ _ _ => ?_); cbv)
    | (refine ix_str (by assumption) (by assumption) (by omega) (by omega) (fun _ _ _ => ?_); cbv)
    | (refine ix_map (by assumption) (by assumption) (by omega) (by omega) (fun _ _ _ _ _ _ _ => ?_); cbv)
    | (refine ix_int (by assumption) (by assumption) (by omega) (by omega) (fun _ _ _ => ?_); cbv)
    | (refine ex_neq3 (fun _ => ?_) (fun _ _ _ => ?_) <;> cbv)
    | (refine ex_neq2 (fun _ => ?_) (fun _ _ => ?_) <;> cbv)
    | (refine ob_go (by omega) ?_; cbv)
    | (refine ob_go (by kernel_rfl) ?_; cbv)
    | fail)
  all_goals first
    | trivial
    | exact tt_of hr ⟨by assumption, by assumption, by assumption, by assumption, by assumption, by assumption⟩
    | exact ff_of hr (fun ⟨h0, h1, h2, h3, h4, h5⟩ => by contradiction)
  
theorem a54 (hP : E.P = Tryz.prog) (q_de : Mps de) (t_de : Len de) (q_lo : Mps lo) (t_lo : Len lo) (q_up : Mps up) (t_up : Len up) (q_ti : Mps ti) (t_ti : Len ti) (q_fo : Mps fo) (t_fo : Len fo) (q_cf : Mps cf) (t_cf : Len cf) (q_deq : Mps deq) (t_deq : Len deq) (q_loq : Mps loq) (t_loq : Len loq) (q_upq : Mps upq) (t_upq : Len upq) (q_tiq : Mps tiq) (t_tiq : Len tiq) (q_foq : Mps foq) (t_foq : Len foq) (q_cfq : Mps cfq) (t_cfq : Len cfq) {r : Bool} (hr : r = true ↔ de = deq ∧ lo = loq ∧ up = upq ∧ ti = tiq ∧ fo = foq ∧ cf = cfq) : AF E 54 [.sl [.pp [.int .i64 a, .int .i64 b, .sl n0, .sl s0, .sl n1, .sl s1, .sl n2, .sl s2, .sl n3, .sl s3, .sl n4, .sl s4, .sl n5, .sl s5, .sl n6, .sl s6, .sl cl, .sl de, .sl ex, .sl lo, .sl up, .sl ti, .sl fo, .sl ca, .sl ig, .sl st, .sl co, .sl me, .sl cf] 17, .pp [.int .i64 a, .int .i64 b, .sl n0, .sl s0, .sl n1, .sl s1, .sl n2, .sl s2, .sl n3, .sl s3, .sl n4, .sl s4, .sl n5, .sl s5, .sl n6, .sl s6, .sl cl, .sl de, .sl ex, .sl lo, .sl up, .sl ti, .sl fo, .sl ca, .sl ig, .sl st, .sl co, .sl me, .sl cf] 19, .pp [.int .i64 a, .int .i64 b, .sl n0, .sl s0, .sl n1, .sl s1, .sl n2, .sl s2, .sl n3, .sl s3, .sl n4, .sl s4, .sl n5, .sl s5, .sl n6, .sl s6, .sl cl, .sl de, .sl ex, .sl lo, .sl up, .sl ti, .sl fo, .sl ca, .sl ig, .sl st, .sl co, .sl me, .sl cf] 20, .pp [.int .i64 a, .int .i64 b, .sl n0, .sl s0, .sl n1, .sl s1, .sl n2, .sl s2, .sl n3, .sl s3, .sl n4, .sl s4, .sl n5, .sl s5, .sl n6, .sl s6, .sl cl, .sl de, .sl ex, .sl lo, .sl up, .sl ti, .sl fo, .sl ca, .sl ig, .sl st, .sl co, .sl me, .sl cf] 21, .pp [.int .i64 a, .int .i64 b, .sl n0, .sl s0, .sl n1, .sl s1, .sl n2, .sl s2, .sl n3, .sl s3, .sl n4, .sl s4, .sl n5, .sl s5, .sl n6, .sl s6, .sl cl, .sl de, .sl ex, .sl lo, .sl up, .sl ti, .sl fo, .sl ca, .sl ig, .sl st, .sl co, .sl me, .sl cf] 22, .pp [.int .i64 a, .int .i64 b, .sl n0, .sl s0, .sl n1, .sl s1, .sl n2, .sl s2, .sl n3, .sl s3, .sl n4, .sl s4, .sl n5, .sl s5, .sl n6, .sl s6, .sl cl, .sl de, .sl ex, .sl lo, .sl up, .sl ti, .sl fo, .sl ca, .sl ig, .sl st, .sl co, .sl me, .sl cf] 28], .sl [.pp [.int .i64 a2, .int .i64 b2, .sl n0q, .sl s0q, .sl n1q, .sl s1q, .sl n2q, .sl s2q, .sl n3q, .sl s3q, .sl n4q, .sl s4q, .sl n5q, .sl s5q, .sl n6q, .sl s6q, .sl clq, .sl deq, .sl exq, .sl loq, .sl upq, .sl tiq, .sl foq, .sl caq, .sl igq, .sl stq, .sl coq, .sl meq, .sl cfq] 17, .pp [.int .i64 a2, .int .i64 b2, .sl n0q, .sl s0q, .sl n1q, .sl s1q, .sl n2q, .sl s2q, .sl n3q, .sl s3q, .sl n4q, .sl s4q, .sl n5q, .sl s5q, .sl n6q, .sl s6q, .sl clq, .sl deq, .sl exq, .sl loq, .sl upq, .sl tiq, .sl foq, .sl caq, .sl igq, .sl stq, .sl coq, .sl meq, .sl cfq] 19, .pp [.int .i64 a2, .int .i64 b2, .sl n0q, .sl s0q, .sl n1q, .sl s1q, .sl n2q, .sl s2q, .sl n3q, .sl s3q, .sl n4q, .sl s4q, .sl n5q, .sl s5q, .sl n6q, .sl s6q, .sl clq, .sl deq, .sl exq, .sl loq, .sl upq, .sl tiq, .sl foq, .sl caq, .sl igq, .sl stq, .sl coq, .sl meq, .sl cfq] 20, .pp [.int .i64 a2, .int .i64 b2, .sl n0q, .sl s0q, .sl n1q, .sl s1q, .sl n2q, .sl s2q, .sl n3q, .sl s3q, .sl n4q, .sl s4q, .sl n5q, .sl s5q, .sl n6q, .sl s6q, .sl clq, .sl deq, .sl exq, .sl loq, .sl upq, .sl tiq, .sl foq, .sl caq, .sl igq, .sl stq, .sl coq, .sl meq, .sl cfq] 21, .pp [.int .i64 a2, .int .i64 b2, .sl n0q, .sl s0q, .sl n1q, .sl s1q, .sl n2q, .sl s2q, .sl n3q, .sl s3q, .sl n4q, .sl s4q, .sl n5q, .sl s5q, .sl n6q, .sl s6q, .sl clq, .sl deq, .sl exq, .sl loq, .sl upq, .sl tiq, .sl foq, .sl caq, .sl igq, .sl stq, .sl coq, .sl meq, .sl cfq] 22, .pp [.int .i64 a2, .int .i64 b2, .sl n0q, .sl s0q, .sl n1q, .sl s1q, .sl n2q, .sl s2q, .sl n3q, .sl s3q, .sl n4q, .sl s4q, .sl n5q, .sl s5q, .sl n6q, .sl s6q, .sl clq, .sl deq, .sl exq, .sl loq, .sl upq, .sl tiq, .sl foq, .sl caq, .sl igq, .sl stq, .sl coq, .sl meq, .sl cfq] 28], .fn (.func 56) [] []] (.bool r) := by
  have c := a101 (E := E) (a := a) (b := b) (a2 := a2) (b2 := b2) (n0 := n0) (s0 := s0) (n1 := n1) (s1 := s1) (n2 := n2) (s2 := s2) (n3 := n3) (s3 := s3) (n4 := n4) (s4 := s4) (n5 := n5) (s5 := s5) (n6 := n6) (s6 := s6) (cl := cl) (de := de) (ex := ex) (lo := lo) (up := up) (ti := ti) (fo := fo) (ca := ca) (ig := ig) (st := st) (co := co) (me := me) (cf := cf) (n0q := n0q) (s0q := s0q) (n1q := n1q) (s1q := s1q) (n2q := n2q) (s2q := s2q) (n3q := n3q) (s3q := s3q) (n4q := n4q) (s4q := s4q) (n5q := n5q) (s5q := s5q) (n6q := n6q) (s6q := s6q) (clq := clq) (deq := deq) (exq := exq) (loq := loq) (upq := upq) (tiq := tiq) (foq := foq) (caq := caq) (igq := igq) (stq := stq) (coq := coq) (meq := meq) (cfq := cfq) hP q_de t_de q_lo t_lo q_up t_up q_ti t_ti q_fo t_fo q_cf t_cf q_deq t_deq q_loq t_loq q_upq t_upq q_tiq t_tiq q_foq t_foq q_cfq t_cfq hr
  apply AF_of_AC
  refine AC_of_vc (K := keepT 54) (fn := Tryz.f54) (by rw [hP]; exact Tryz.func54) rfl rfl rfl rfl rfl ?_
  cbv <;> repeat' (first
    | (refine go_val c ?_; cbv)
    | (refine ex_strne ?_ ?_ <;> intro _ <;> first | (exfalso; omega) | cbv)
    | (refine ex_if ?_ ?_ <;> intro _ <;> first | (exfalso; omega) | cbv)
    | (refine line_go 10 ?_; cbv)
    | (refine go_nil ?_ ?_ <;> (try intro _) <;> cbv)
    | (refine ex_bool ?_; cbv)
    | (refine go_tt ?_; cbv)
    | (refine go_ff ?_; cbv)
    | (refine go_tf ?_; cbv)
    | (refine go_ft ?_; cbv)
    | (refine ex_len (by assumption) ?_; cbv)
    | (refine ex_slen (by assumption) ?_; cbv)
    | (refine ex_lenv (fun _ _ _ => ?_); cbv)
    | (refine ex_slenv (fun _ _ _ => ?_); cbv)
    | (refine ex_wrap (by omega) (fun _ _ => ?_); cbv)
    | (refine ix_span (by assumption) (by assumption) (by omega) (by omega) (fun _ _ _ _ => ?_); cbv)
    | (refine ix_rng (by assumption) (by assumption) (by omega) (by omega) (fun _ _ _ => ?_); cbv)
    | (refine ix_str (by assumption) (by assumption) (by omega) (by omega) (fun _ _ _ => ?_); cbv)
    | (refine ix_map (by assumption) (by assumption) (by omega) (by omega) (fun _ _ _ _ _ _ _ => ?_); cbv)
    | (refine ix_int (by assumption) (by assumption) (by omega) (by omega) (fun _ _ _ => ?_); cbv)
    | (refine ex_neq3 (fun _ => ?_) (fun _ _ _ => ?_) <;> cbv)
    | (refine ex_neq2 (fun _ => ?_) (fun _ _ => ?_) <;> cbv)
    | (refine ob_go (by omega) ?_; cbv)
    | (refine ob_go (by kernel_rfl) ?_; cbv)
    | fail)
  all_goals trivial
end
end
end Go.Px.Db
