/- Shows a part of the walk of the law; its conditions stand ahead of each theorem. -/
import Derived.Test.YtecojilckmiobaaGreatDoorPxDbQ1
set_option linter.unusedVariables false
set_option maxRecDepth 100000
set_option maxHeartbeats 4000000
namespace Go.Px.Db
open Go Go.Px Go.Proofs
noncomputable section
section
variable {mm : Int} {E : Env (tab mm)} {a b a2 b2 : Int} {n0 s0 n1 s1 n2 s2 n3 s3 n4 s4 n5 s5 n6 s6 cl de ex lo up ti fo ca ig st co me cf n0q s0q n1q s1q n2q s2q n3q s3q n4q s4q n5q s5q n6q s6q clq deq exq loq upq tiq foq caq igq stq coq meq cfq : List PV}
theorem a61 (hP : E.P = Tryz.prog) {xs us : List PV} (hx : Rngs xs) (hu : Rngs us) (lx : Len xs) (lu : Len us) {r : Bool} (hr : r = true ↔ xs = us) : AF E 61 [.agg [.sl xs], .agg [.sl us]] (.bool r) := by
  have c := a62 (E := E) hP hx hu lx lu hr
  apply AF_of_AC
  refine AC_of_vc (K := keepT 61) (fn := Tryz.f61) (by rw [hP]; exact Tryz.func61) rfl rfl rfl rfl rfl ?_
  cbv <;> repeat' (first
    | (refine go_val c ?_; cbv)
    | (refine ex_strne ?_ ?_ <;> intro _ <;> first | (exfalso; omega) | cbv)
    | (refine ex_if ?_ ?_ <;> intro _ <;> first | (exfalso; omega) | cbv)
    | (refine line_go 10 ?_; cbv)
    | (refine go_nil ?_ ?_ <;> (try intro _) <;> cbv)
    | (refine ex_bool ?_; cbv)
    | (refine go_tt ?_; cbv)
    | (refine go_ff ?_; cbv)
    | (refine go_tf ?_; cbv)
    | (refine go_ft ?_; cbv)
    | (refine ex_len (by assumption) ?_; cbv)
    | (refine ex_slen (by assumption) ?_; cbv)
    | (refine ex_lenv (fun _ _ _ => ?_); cbv)
    | (refine ex_slenv (fun _ _ _ => ?_); cbv)
    | (refine ex_wrap (by omega) (fun _ _ => ?_); cbv)
    | (refine ix_span (by assumption) (by assumption) (by omega) (by omega) (fun _ _ _ _ => ?_); cbv)
    | (refine ix_rng (by assumption) (by assumption) (by omega) (by omega) (fun _ _ _ => ?_); cbv)
    | (refine ix_str (by assumption) (by assumption) (by omega) (by omega) (fun _ _ _ => ?_); cbv)
    | (refine ix_map (by assumption) (by assumption) (by omega) (by omega) (fun _ _ _ _ _ _ _ => ?_); cbv)
    | (refine ix_int (by assumption) (by assumption) (by omega) (by omega) (fun _ _ _ => ?_); cbv)
    | (refine ex_neq3 (fun _ => ?_) (fun _ _ _ => ?_) <;> cbv)
    | (refine ex_neq2 (fun _ => ?_) (fun _ _ => ?_) <;> cbv)
    | (refine ob_go (by omega) ?_; cbv)
    | (refine ob_go (by kernel_rfl) ?_; cbv)
    | fail)
  all_goals trivial
theorem c110_ex (hP : E.P = Tryz.prog) (q_ex : Rngs ex) (t_ex : Len ex) (q_exq : Rngs exq) (t_exq : Len exq) {r : Bool} (hr : r = true ↔ ex = exq) : AF E 110 [.pp [.int .i64 a, .int .i64 b, .sl n0, .sl s0, .sl n1, .sl s1, .sl n2, .sl s2, .sl n3, .sl s3, .sl n4, .sl s4, .sl n5, .sl s5, .sl n6, .sl s6, .sl cl, .sl de, .sl ex, .sl lo, .sl up, .sl ti, .sl fo, .sl ca, .sl ig, .sl st, .sl co, .sl me, .sl cf] 18, .pp [.int .i64 a2, .int .i64 b2, .sl n0q, .sl s0q, .sl n1q, .sl s1q, .sl n2q, .sl s2q, .sl n3q, .sl s3q, .sl n4q, .sl s4q, .sl n5q, .sl s5q, .sl n6q, .sl s6q, .sl clq, .sl deq, .sl exq, .sl loq, .sl upq, .sl tiq, .sl foq, .sl caq, .sl igq, .sl stq, .sl coq, .sl meq, .sl cfq] 18, .pp [.fn (.func 61) [] []] 0] (.bool r) := by
  have c := a61 (E := E) hP q_ex q_exq t_ex t_exq hr
  apply AF_of_AC
  refine AC_of_vc (K := keepT 110) (fn := Tryz.f110) (by rw [hP]; exact Tryz.func110) rfl rfl rfl rfl rfl ?_
  cbv <;> repeat' (first
    | (refine go_val c ?_; cbv)
    | (refine ex_strne ?_ ?_ <;> intro _ <;> first | (exfalso; omega) | cbv)
    | (refine ex_if ?_ ?_ <;> intro _ <;> first | (exfalso; omega) | cbv)
    | (refine line_go 10 ?_; cbv)
    | (refine go_nil ?_ ?_ <;> (try intro _) <;> cbv)
    | (refine ex_bool ?_; cbv)
    | (refine go_tt ?_; cbv)
    | (refine go_ff ?_; cbv)
    | (refine go_tf ?_; cbv)
    | (refine go_ft ?_; cbv)
    | (refine ex_len (by assumption) ?_; cbv)
    | (refine ex_slen (by assumption) ?_; cbv)
    | (refine ex_lenv (fun _ _ _ => ?_); cbv)
    | (refine ex_slenv (fun _ _ _ => ?_); cbv)
    | (refine ex_wrap (by omega) (fun _ _ => ?_); cbv)
    | (refine ix_span (by assumption) (by assumption) (by omega) (by omega) (fun _ _ _ _ => ?_); cbv)
    | (refine ix_rng (by assumption) (by assumption) (by omega) (by omega) (fun _ _ _ => ?_); cbv)
    | (refine ix_str (by assumption) (by assumption) (by omega) (by omega) (fun _ _ _ => ?_); cbv)
    | (refine ix_map (by assumption) (by assumption) (by omega) (by omega) (fun _ _ _ _ _ _ _ => ?_); cbv)
    | (refine ix_int (by assumption) (by assumption) (by omega) (by omega) (fun _ _ _ => ?_); cbv)
    | (refine ex_neq3 (fun _ => ?_) (fun _ _ _ => ?_) <;> cbv)
    | (refine ex_neq2 (fun _ => ?_) (fun _ _ => ?_) <;> cbv)
    | (refine ob_go (by omega) ?_; cbv)
    | (refine ob_go (by kernel_rfl) ?_; cbv)
    | fail)
  all_goals trivial
theorem c110_ca (hP : E.P = Tryz.prog) (q_ca : Rngs ca) (t_ca : Len ca) (q_caq : Rngs caq) (t_caq : Len caq) {r : Bool} (hr : r = true ↔ ca = caq) : AF E 110 [.pp [.int .i64 a, .int .i64 b, .sl n0, .sl s0, .sl n1, .sl s1, .sl n2, .sl s2, .sl n3, .sl s3, .sl n4, .sl s4, .sl n5, .sl s5, .sl n6, .sl s6, .sl cl, .sl de, .sl ex, .sl lo, .sl up, .sl ti, .sl fo, .sl ca, .sl ig, .sl st, .sl co, .sl me, .sl cf] 23, .pp [.int .i64 a2, .int .i64 b2, .sl n0q, .sl s0q, .sl n1q, .sl s1q, .sl n2q, .sl s2q, .sl n3q, .sl s3q, .sl n4q, .sl s4q, .sl n5q, .sl s5q, .sl n6q, .sl s6q, .sl clq, .sl deq, .sl exq, .sl loq, .sl upq, .sl tiq, .sl foq, .sl caq, .sl igq, .sl stq, .sl coq, .sl meq, .sl cfq] 23, .pp [.fn (.func 61) [] []] 0] (.bool r) := by
  have c := a61 (E := E) hP q_ca q_caq t_ca t_caq hr
  apply AF_of_AC
  refine AC_of_vc (K := keepT 110) (fn := Tryz.f110) (by rw [hP]; exact Tryz.func110) rfl rfl rfl rfl rfl ?_
  cbv <;> repeat' (first
    | (refine go_val c ?_; cbv)
    | (refine ex_strne ?_ ?_ <;> intro _ <;> first | (exfalso; omega) | cbv)
    | (refine ex_if ?_ ?_ <;> intro _ <;> first | (exfalso; omega) | cbv)
    | (refine line_go 10 ?_; cbv)
    | (refine go_nil ?_ ?_ <;> (try intro _) <;> cbv)
    | (refine ex_bool ?_; cbv)
    | (refine go_tt ?_; cbv)
    | (refine go_ff ?_; cbv)
    | (refine go_tf ?_; cbv)
    | (refine go_ft ?_; cbv)
    | (refine ex_len (by assumption) ?_; cbv)
    | (refine ex_slen (by assumption) ?_; cbv)
    | (refine ex_lenv (fun _ _ _ => ?_); cbv)
    | (refine ex_slenv (fun _ _ _ => ?_); cbv)
    | (refine ex_wrap (by omega) (fun _ _ => ?_); cbv)
    | (refine ix_span (by assumption) (by assumption) (by omega) (by omega) (fun _ _ _ _ => ?_); cbv)
    | (refine ix_rng (by assumption) (by assumption) (by omega) (by omega) (fun _ _ _ => ?_); cbv)
    | (refine ix_str (by assumption) (by assumption) (by omega) (by omega) (fun _ _ _ => ?_); cbv)
    | (refine ix_map (by assumption) (by assumption) (by omega) (by omega) (fun _ _ _ _ _ _ _ => ?_); cbv)
    | (refine ix_int (by assumption) (by assumption) (by omega) (by omega) (fun _ _ _ => ?_); cbv)
    | (refine ex_neq3 (fun _ => ?_) (fun _ _ _ => ?_) <;> cbv)
    | (refine ex_neq2 (fun _ => ?_) (fun _ _ => ?_) <;> cbv)
    | (refine ob_go (by omega) ?_; cbv)
    | (refine ob_go (by kernel_rfl) ?_; cbv)
    | fail)
  all_goals trivial
theorem c110_ig (hP : E.P = Tryz.prog) (q_ig : Rngs ig) (t_ig : Len ig) (q_igq : Rngs igq) (t_igq : Len igq) {r : Bool} (hr : r = true ↔ ig = igq) : AF E 110 [.pp [.int .i64 a, .int .i64 b, .sl n0, .sl s0, .sl n1, .sl s1, .sl n2, .sl s2, .sl n3, .sl s3, .sl n4, .sl s4, .sl n5, .sl s5, .sl n6, .sl s6, .sl cl, .sl de, .sl ex, .sl lo, .sl up, .sl ti, .sl fo, .sl ca, .sl ig, .sl st, .sl co, .sl me, .sl cf] 24, .pp [.int .i64 a2, .int .i64 b2, .sl n0q, .sl s0q, .sl n1q, .sl s1q, .sl n2q, .sl s2q, .sl n3q, .sl s3q, .sl n4q, .sl s4q, .sl n5q, .sl s5q, .sl n6q, .sl s6q, .sl clq, .sl deq, .sl exq, .sl loq, .sl upq, .sl tiq, .sl foq, .sl caq, .sl igq, .sl stq, .sl coq, .sl meq, .sl cfq] 24, .pp [.fn (.func 61) [] []] 0] (.bool r) := by
  have c := a61 (E := E) hP q_ig q_igq t_ig t_igq hr
  apply AF_of_AC
  refine AC_of_vc (K := keepT 110) (fn := Tryz.f110) (by rw [hP]; exact Tryz.func110) rfl rfl rfl rfl rfl ?_
  cbv <;> repeat' (first
    | (refine go_val c ?_; cbv)
    | (refine ex_strne ?_ ?_ <;> intro _ <;> first | (exfalso; omega) | cbv)
    | (refine ex_if ?_ ?_ <;> intro _ <;> first | (exfalso; omega) | cbv)
    | (refine line_go 10 ?_; cbv)
    | (refine go_nil ?_ ?_ <;> (try intro _) <;> cbv)
    | (refine ex_bool ?_; cbv)
    | (refine go_tt ?_; cbv)
    | (refine go_ff ?_; cbv)
    | (refine go_tf ?_; cbv)
    | (refine go_ft ?_; cbv)
    | (refine ex_len (by assumption) ?_; cbv)
    | (refine ex_slen (by assumption) ?_; cbv)
    | (refine ex_lenv (fun _ _ _ => ?_); cbv)
    | (refine ex_slenv (fun _ _ _ => ?_); cbv)
    | (refine ex_wrap (by omega) (fun _ _ => ?_); cbv)
    | (refine ix_span (by assumption) (by assumption) (by omega) (by omega) (fun _ _ _ _ => ?_); cbv)
    | (refine ix_rng (by assumption) (by assumption) (by omega) (by omega) (fun _ _ _ => ?_); cbv)
    | (refine ix_str (by assumption) (by assumption) (by omega) (by omega) (fun _ _ _ => ?_); cbv)
    | (refine ix_map (by assumption) (by assumption) (by omega) (by omega) (fun _ _ _ _ _ _ _ => ?_); cbv)
    | (refine ix_int (by assumption) (by assumption) (by omega) (by omega) (fun _ _ _ => ?_); cbv)
    | (refine ex_neq3 (fun _ => ?_) (fun _ _ _ => ?_) <;> cbv)
    | (refine ex_neq2 (fun _ => ?_) (fun _ _ => ?_) <;> cbv)
    | (refine ob_go (by omega) ?_; cbv)
    | (refine ob_go (by kernel_rfl) ?_; cbv)
    | fail)
  all_goals trivial
theorem c110_st (hP : E.P = Tryz.prog) (q_st : Rngs st) (t_st : Len st) (q_stq : Rngs stq) (t_stq : Len stq) {r : Bool} (hr : r = true ↔ st = stq) : AF E 110 [.pp [.int .i64 a, .int .i64 b, .sl n0, .sl s0, .sl n1, .sl s1, .sl n2, .sl s2, .sl n3, .sl s3, .sl n4, .sl s4, .sl n5, .sl s5, .sl n6, .sl s6, .sl cl, .sl de, .sl ex, .sl lo, .sl up, .sl ti, .sl fo, .sl ca, .sl ig, .sl st, .sl co, .sl me, .sl cf] 25, .pp [.int .i64 a2, .int .i64 b2, .sl n0q, .sl s0q, .sl n1q, .sl s1q, .sl n2q, .sl s2q, .sl n3q, .sl s3q, .sl n4q, .sl s4q, .sl n5q, .sl s5q, .sl n6q, .sl s6q, .sl clq, .sl deq, .sl exq, .sl loq, .sl upq, .sl tiq, .sl foq, .sl caq, .sl igq, .sl stq, .sl coq, .sl meq, .sl cfq] 25, .pp [.fn (.func 61) [] []] 0] (.bool r) := by
  have c := a61 (E := E) hP q_st q_stq t_st t_stq hr
  apply AF_of_AC
  refine AC_of_vc (K := keepT 110) (fn := Tryz.f110) (by rw [hP]; exact Tryz.func110) rfl rfl rfl rfl rfl ?_
  cbv <;> repeat' (first
    | (refine go_val c ?_; cbv)
    | (refine ex_strne ?_ ?_ <;> intro _ <;> first | (exfalso; omega) | cbv)
    | (refine ex_if ?_ ?_ <;> intro _ <;> first | (exfalso; omega) | cbv)
    | (refine line_go 10 ?_; cbv)
    | (refine go_nil ?_ ?_ <;> (try intro _) <;> cbv)
    | (refine ex_bool ?_; cbv)
    | (refine go_tt ?_; cbv)
    | (refine go_ff ?_; cbv)
    | (refine go_tf ?_; cbv)
    | (refine go_ft ?_; cbv)
    | (refine ex_len (by assumption) ?_; cbv)
    | (refine ex_slen (by assumption) ?_; cbv)
    | (refine ex_lenv (fun _ _ _ => ?_); cbv)
    | (refine ex_slenv (fun _ _ _ => ?_); cbv)
    | (refine ex_wrap (by omega) (fun _ _ => ?_); cbv)
    | (refine ix_span (by assumption) (by assumption) (by omega) (by omega) (fun _ _ _ _ => ?_); cbv)
    | (refine ix_rng (by assumption) (by assumption) (by omega) (by omega) (fun _ _ _ => ?_); cbv)
    | (refine ix_str (by assumption) (by assumption) (by omega) (by omega) (fun _ _ _ => ?_); cbv)
    | (refine ix_map (by assumption) (by assumption) (by omega) (by omega) (fun _ _ _ _ _ _ _ => ?_); cbv)
    | (refine ix_int (by assumption) (by assumption) (by omega) (by omega) (fun _ _ _ => ?_); cbv)
    | (refine ex_neq3 (fun _ => ?_) (fun _ _ _ => ?_) <;> cbv)
    | (refine ex_neq2 (fun _ => ?_) (fun _ _ => ?_) <;> cbv)
    | (refine ob_go (by omega) ?_; cbv)
    | (refine ob_go (by kernel_rfl) ?_; cbv)
    | fail)
  all_goals trivial
theorem c110_co (hP : E.P = Tryz.prog) (q_co : Rngs co) (t_co : Len co) (q_coq : Rngs coq) (t_coq : Len coq) {r : Bool} (hr : r = true ↔ co = coq) : AF E 110 [.pp [.int .i64 a, .int .i64 b, .sl n0, .sl s0, .sl n1, .sl s1, .sl n2, .sl s2, .sl n3, .sl s3, .sl n4, .sl s4, .sl n5, .sl s5, .sl n6, .sl s6, .sl cl, .sl de, .sl ex, .sl lo, .sl up, .sl ti, .sl fo, .sl ca, .sl ig, .sl st, .sl co, .sl me, .sl cf] 26, .pp [.int .i64 a2, .int .i64 b2, .sl n0q, .sl s0q, .sl n1q, .sl s1q, .sl n2q, .sl s2q, .sl n3q, .sl s3q, .sl n4q, .sl s4q, .sl n5q, .sl s5q, .sl n6q, .sl s6q, .sl clq, .sl deq, .sl exq, .sl loq, .sl upq, .sl tiq, .sl foq, .sl caq, .sl igq, .sl stq, .sl coq, .sl meq, .sl cfq] 26, .pp [.fn (.func 61) [] []] 0] (.bool r) := by
  have c := a61 (E := E) hP q_co q_coq t_co t_coq hr
  apply AF_of_AC
  refine AC_of_vc (K := keepT 110) (fn := Tryz.f110) (by rw [hP]; exact Tryz.func110) rfl rfl rfl rfl rfl ?_
  cbv <;> repeat' (first
    | (refine go_val c ?_; cbv)
    | (refine ex_strne ?_ ?_ <;> intro _ <;> first | (exfalso; omega) | cbv)
    | (refine ex_if ?_ ?_ <;> intro _ <;> first | (exfalso; omega) | cbv)
    | (refine line_go 10 ?_; cbv)
    | (refine go_nil ?_ ?_ <;> (try intro _) <;> cbv)
    | (refine ex_bool ?_; cbv)
    | (refine go_tt ?_; cbv)
    | (refine go_ff ?_; cbv)
    | (refine go_tf ?_; cbv)
    | (refine go_ft ?_; cbv)
    | (refine ex_len (by assumption) ?_; cbv)
    | (refine ex_slen (by assumption) ?_; cbv)
    | (refine ex_lenv (fun _ _ _ => ?_); cbv)
    | (refine ex_slenv (fun _ _ _ => ?_); cbv)
    | (refine ex_wrap (by omega) (fun _ _ => ?_); cbv)
    | (refine ix_span (by assumption) (by assumption) (by omega) (by omega) (fun _ _ _ _ => ?_); cbv)
    | (refine ix_rng (by assumption) (by assumption) (by omega) (by omega) (fun _ _ _ => ?_); cbv)
    | (refine ix_str (by assumption) (by assumption) (by omega) (by omega) (fun _ _ _ => ?_); cbv)
    | (refine ix_map (by assumption) (by assumption) (by omega) (by omega) (fun _ _ _ _ _ _ _ => ?_); cbv)
    | (refine ix_int (by assumption) (by assumption) (by omega) (by omega) (fun _ _ _ => ?_); cbv)
    | (refine ex_neq3 (fun _ => ?_) (fun _ _ _ => ?_) <;> cbv)
    | (refine ex_neq2 (fun _ => ?_) (fun _ _ => ?_) <;> cbv)
    | (refine ob_go (by omega) ?_; cbv)
    | (refine ob_go (by kernel_rfl) ?_; cbv)
    | fail)
  all_goals trivial
theorem c110_me (hP : E.P = Tryz.prog) (q_me : Rngs me) (t_me : Len me) (q_meq : Rngs meq) (t_meq : Len meq) {r : Bool} (hr : r = true ↔ me = meq) : AF E 110 [.pp [.int .i64 a, .int .i64 b, .sl n0, .sl s0, .sl n1, .sl s1, .sl n2, .sl s2, .sl n3, .sl s3, .sl n4, .sl s4, .sl n5, .sl s5, .sl n6, .sl s6, .sl cl, .sl de, .sl ex, .sl lo, .sl up, .sl ti, .sl fo, .sl ca, .sl ig, .sl st, .sl co, .sl me, .sl cf] 27, .pp [.int .i64 a2, .int .i64 b2, .sl n0q, .sl s0q, .sl n1q, .sl s1q, .sl n2q, .sl s2q, .sl n3q, .sl s3q, .sl n4q, .sl s4q, .sl n5q, .sl s5q, .sl n6q, .sl s6q, .sl clq, .sl deq, .sl exq, .sl loq, .sl upq, .sl tiq, .sl foq, .sl caq, .sl igq, .sl stq, .sl coq, .sl meq, .sl cfq] 27, .pp [.fn (.func 61) [] []] 0] (.bool r) := by
  have c := a61 (E := E) hP q_me q_meq t_me t_meq hr
  apply AF_of_AC
  refine AC_of_vc (K := keepT 110) (fn := Tryz.f110) (by rw [hP]; exact Tryz.func110) rfl rfl rfl rfl rfl ?_
  cbv <;> repeat' (first
    | (refine go_val c ?_; cbv)
    | (refine ex_strne ?_ ?_ <;> intro _ <;> first | (exfalso; omega) | cbv)
    | (refine ex_if ?_ ?_ <;> intro _ <;> first | (exfalso; omega) | cbv)
    | (refine line_go 10 ?_; cbv)
    | (refine go_nil ?_ ?_ <;> (try intro _) <;> cbv)
    | (refine ex_bool ?_; cbv)
    | (refine go_tt ?_; cbv)
    | (refine go_ff ?_; cbv)
    | (refine go_tf ?_; cbv)
    | (refine go_ft ?_; cbv)
    | (refine ex_len (by assumption) ?_; cbv)
    | (refine ex_slen (by assumption) ?_; cbv)
    | (refine ex_lenv (fun _ _ _ => ?_); cbv)
    | (refine ex_slenv (fun _ _ _ => ?_); cbv)
    | (refine ex_wrap (by omega) (fun _ _ => ?_); cbv)
    | (refine ix_span (by assumption) (by assumption) (by omega) (by omega) (fun _ _ _ _ => ?_); cbv)
    | (refine ix_rng (by assumption) (by assumption) (by omega) (by omega) (fun _ _ _ => ?_); cbv)
    | (refine ix_str (by assumption) (by assumption) (by omega) (by omega) (fun _ _ _ => ?_); cbv)
    | (refine ix_map (by assumption) (by assumption) (by omega) (by omega) (fun _ _ _ _ _ _ _ => ?_); cbv)
    | (refine ix_int (by assumption) (by assumption) (by omega) (by omega) (fun _ _ _ => ?_); cbv)
    | (refine ex_neq3 (fun _ => ?_) (fun _ _ _ => ?_) <;> cbv)
    | (refine ex_neq2 (fun _ => ?_) (fun _ _ => ?_) <;> cbv)
    | (refine ob_go (by omega) ?_; cbv)
    | (refine ob_go (by kernel_rfl) ?_; cbv)
    | fail)
  all_goals trivial
theorem a109 (hP : E.P = Tryz.prog) (q_ex : Rngs ex) (t_ex : Len ex) (q_ca : Rngs ca) (t_ca : Len ca) (q_ig : Rngs ig) (t_ig : Len ig) (q_st : Rngs st) (t_st : Len st) (q_co : Rngs co) (t_co : Len co) (q_me : Rngs me) (t_me : Len me) (q_exq : Rngs exq) (t_exq : Len exq) (q_caq : Rngs caq) (t_caq : Len caq) (q_igq : Rngs igq) (t_igq : Len igq) (q_stq : Rngs stq) (t_stq : Len stq) (q_coq : Rngs coq) (t_coq : Len coq) (q_meq : Rngs meq) (t_meq : Len meq) {r : Bool} (hr : r = true ↔ ex = exq ∧ ca = caq ∧ ig = igq ∧ st = stq ∧ co = coq ∧ me = meq) : AF E 109 [.sl [.pp [.int .i64 a, .int .i64 b, .sl n0, .sl s0, .sl n1, .sl s1, .sl n2, .sl s2, .sl n3, .sl s3, .sl n4, .sl s4, .sl n5, .sl s5, .sl n6, .sl s6, .sl cl, .sl de, .sl ex, .sl lo, .sl up, .sl ti, .sl fo, .sl ca, .sl ig, .sl st, .sl co, .sl me, .sl cf] 18, .pp [.int .i64 a, .int .i64 b, .sl n0, .sl s0, .sl n1, .sl s1, .sl n2, .sl s2, .sl n3, .sl s3, .sl n4, .sl s4, .sl n5, .sl s5, .sl n6, .sl s6, .sl cl, .sl de, .sl ex, .sl lo, .sl up, .sl ti, .sl fo, .sl ca, .sl ig, .sl st, .sl co, .sl me, .sl cf] 23, .pp [.int .i64 a, .int .i64 b, .sl n0, .sl s0, .sl n1, .sl s1, .sl n2, .sl s2, .sl n3, .sl s3, .sl n4, .sl s4, .sl n5, .sl s5, .sl n6, .sl s6, .sl cl, .sl de, .sl ex, .sl lo, .sl up, .sl ti, .sl fo, .sl ca, .sl ig, .sl st, .sl co, .sl me, .sl cf] 24, .pp [.int .i64 a, .int .i64 b, .sl n0, .sl s0, .sl n1, .sl s1, .sl n2, .sl s2, .sl n3, .sl s3, .sl n4, .sl s4, .sl n5, .sl s5, .sl n6, .sl s6, .sl cl, .sl de, .sl ex, .sl lo, .sl up, .sl ti, .sl fo, .sl ca, .sl ig, .sl st, .sl co, .sl me, .sl cf] 25, .pp [.int .i64 a, .int .i64 b, .sl n0, .sl s0, .sl n1, .sl s1, .sl n2, .sl s2, .sl n3, .sl s3, .sl n4, .sl s4, .sl n5, .sl s5, .sl n6, .sl s6, .sl cl, .sl de, .sl ex, .sl lo, .sl up, .sl ti, .sl fo, .sl ca, .sl ig, .sl st, .sl co, .sl me, .sl cf] 26, .pp [.int .i64 a, .int .i64 b, .sl n0, .sl s0, .sl n1, .sl s1, .sl n2, .sl s2, .sl n3, .sl s3, .sl n4, .sl s4, .sl n5, .sl s5, .sl n6, .sl s6, .sl cl, .sl de, .sl ex, .sl lo, .sl up, .sl ti, .sl fo, .sl ca, .sl ig, .sl st, .sl co, .sl me, .sl cf] 27], .sl [.pp [.int .i64 a2, .int .i64 b2, .sl n0q, .sl s0q, .sl n1q, .sl s1q, .sl n2q, .sl s2q, .sl n3q, .sl s3q, .sl n4q, .sl s4q, .sl n5q, .sl s5q, .sl n6q, .sl s6q, .sl clq, .sl deq, .sl exq, .sl loq, .sl upq, .sl tiq, .sl foq, .sl caq, .sl igq, .sl stq, .sl coq, .sl meq, .sl cfq] 18, .pp [.int .i64 a2, .int .i64 b2, .sl n0q, .sl s0q, .sl n1q, .sl s1q, .sl n2q, .sl s2q, .sl n3q, .sl s3q, .sl n4q, .sl s4q, .sl n5q, .sl s5q, .sl n6q, .sl s6q, .sl clq, .sl deq, .sl exq, .sl loq, .sl upq, .sl tiq, .sl foq, .sl caq, .sl igq, .sl stq, .sl coq, .sl meq, .sl cfq] 23, .pp [.int .i64 a2, .int .i64 b2, .sl n0q, .sl s0q, .sl n1q, .sl s1q, .sl n2q, .sl s2q, .sl n3q, .sl s3q, .sl n4q, .sl s4q, .sl n5q, .sl s5q, .sl n6q, .sl s6q, .sl clq, .sl deq, .sl exq, .sl loq, .sl upq, .sl tiq, .sl foq, .sl caq, .sl igq, .sl stq, .sl coq, .sl meq, .sl cfq] 24, .pp [.int .i64 a2, .int .i64 b2, .sl n0q, .sl s0q, .sl n1q, .sl s1q, .sl n2q, .sl s2q, .sl n3q, .sl s3q, .sl n4q, .sl s4q, .sl n5q, .sl s5q, .sl n6q, .sl s6q, .sl clq, .sl deq, .sl exq, .sl loq, .sl upq, .sl tiq, .sl foq, .sl caq, .sl igq, .sl stq, .sl coq, .sl meq, .sl cfq] 25, .pp [.int .i64 a2, .int .i64 b2, .sl n0q, .sl s0q, .sl n1q, .sl s1q, .sl n2q, .sl s2q, .sl n3q, .sl s3q, .sl n4q, .sl s4q, .sl n5q, .sl s5q, .sl n6q, .sl s6q, .sl clq, .sl deq, .sl exq, .sl loq, .sl upq, .sl tiq, .sl foq, .sl caq, .sl igq, .sl stq, .sl coq, .sl meq, .sl cfq] 26, .pp [.int .i64 a2, .int .i64 b2, .sl n0q, .sl s0q, .sl n1q, .sl s1q, .sl n2q, .sl s2q, .sl n3q, .sl s3q, .sl n4q, .sl s4q, .sl n5q, .sl s5q, .sl n6q, .sl s6q, .sl clq, .sl deq, .sl exq, .sl loq, .sl upq, .sl tiq, .sl foq, .sl caq, .sl igq, .sl stq, .sl coq, .sl meq, .sl cfq] 27], .fn (.func 110) [] [.pp [.fn (.func 61) [] []] 0]] (.bool r) := by
  apply AF_of_AC
  refine AC_of_vc (K := keepT 109) (fn := Tryz.f109) (by rw [hP]; exact Tryz.func109) rfl rfl rfl rfl rfl ?_
  cbv <;> repeat' (first
    | (refine ⟨6, rfl, ?_⟩; cbv)
    | (refine LoopVC.unroll ?_; cbv)
    | (refine ⟨_, rfl, ob (by omega), ob rfl, ?_⟩; cbv)
    | (refine ⟨_, rfl, ?_⟩; cbv)
    | (refine go_if (fun r hr => c110_ex hP q_ex t_ex q_exq t_exq hr) ?_ ?_ <;> intro _ <;> cbv)
    | (refine go_if (fun r hr => c110_ca hP q_ca t_ca q_caq t_caq hr) ?_ ?_ <;> intro _ <;> cbv)
    | (refine go_if (fun r hr => c110_ig hP q_ig t_ig q_igq t_igq hr) ?_ ?_ <;> intro _ <;> cbv)
    | (refine go_if (fun r hr => c110_st hP q_st t_st q_stq t_stq hr) ?_ ?_ <;> intro _ <;> cbv)
    | (refine go_if (fun r hr => c110_co hP q_co t_co q_coq t_coq hr) ?_ ?_ <;> intro _ <;> cbv)
    | (refine go_if (fun r hr => c110_me hP q_me t_me q_meq t_meq hr) ?_ ?_ <;> intro _ <;> cbv)
    | (refine ex_strne ?_ ?_ <;> intro _ <;> first | (exfalso; omega) | cbv)
    | (refine ex_if ?_ ?_ <;> intro _ <;> first | (exfalso; omega) | cbv)
    | (refine line_go 10 ?_; cbv)
    | (refine go_nil ?_ ?_ <;> (try intro _) <;> cbv)
    | (refine ex_bool ?_; cbv)
    | (refine go_tt ?_; cbv)
    | (refine go_ff ?_; cbv)
    | (refine go_tf ?_; cbv)
    | (refine go_ft ?_; cbv)
    | (refine ex_len (by assumption) ?_; cbv)
    | (refine ex_slen (by assumption) ?_; cbv)
    | (refine ex_lenv (fun _ _ _ => ?_); cbv)
    | (refine ex_slenv (fun _ _ _ => ?_); cbv)
    | (refine ex_wrap (by omega) (fun _ _ => ?_); cbv)
    | (refine ix_span (by assumption) (by assumption) (by omega) (by omega) (fun _ _ _ _ => ?_); cbv)
    | (refine ix_rng (by assumption) (by assumption) (by omega) (by omega) (fun _ _ _ => ?_); cbv)
    | (refine ix_str (by assumption) (by assumption) (by omega) (by omega) (fun _ _ _ => ?_); cbv)
    | (refine ix_map (by assumption) (by assumption) (by omega) (by omega) (fun _ _ _ _ _ _ _ => ?_); cbv)
    | (refine ix_int (by assumption) (by assumption) (by omega) (by omega) (fun _ _ _ => ?_); cbv)
    | (refine ex_neq3 (fun _ => ?_) (fun _ _ _ => ?_) <;> cbv)
    | (refine ex_neq2 (fun _ => ?_) (fun _ _ => ?_) <;> cbv)
    | (refine ob_go (by omega) ?_; cbv)
    | (refine ob_go (by kernel_rfl) ?_; cbv)
    | fail)
  all_goals first
    | trivial
    | exact tt_of hr ⟨by assumption, by assumption, by assumption, by assumption, by assumption, by assumption⟩
    | exact ff_of hr (fun ⟨h0, h1, h2, h3, h4, h5⟩ => by contradiction)
  
theorem a60 (hP : E.P = Tryz.prog) (q_ex : Rngs ex) (t_ex : Len ex) (q_ca : Rngs ca) (t_ca : Len ca) (q_ig : Rngs ig) (t_ig : Len ig) (q_st : Rngs st) (t_st : Len st) (q_co : Rngs co) (t_co : Len co) (q_me : Rngs me) (t_me : Len me) (q_exq : Rngs exq) (t_exq : Len exq) (q_caq : Rngs caq) (t_caq : Len caq) (q_igq : Rngs igq) (t_igq : Len igq) (q_stq : Rngs stq) (t_stq : Len stq) (q_coq : Rngs coq) (t_coq : Len coq) (q_meq : Rngs meq) (t_meq : Len meq) {r : Bool} (hr : r = true ↔ ex = exq ∧ ca = caq ∧ ig = igq ∧ st = stq ∧ co = coq ∧ me = meq) : AF E 60 [.sl [.pp [.int .i64 a, .int .i64 b, .sl n0, .sl s0, .sl n1, .sl s1, .sl n2, .sl s2, .sl n3, .sl s3, .sl n4, .sl s4, .sl n5, .sl s5, .sl n6, .sl s6, .sl cl, .sl de, .sl ex, .sl lo, .sl up, .sl ti, .sl fo, .sl ca, .sl ig, .sl st, .sl co, .sl me, .sl cf] 18, .pp [.int .i64 a, .int .i64 b, .sl n0, .sl s0, .sl n1, .sl s1, .sl n2, .sl s2, .sl n3, .sl s3, .sl n4, .sl s4, .sl n5, .sl s5, .sl n6, .sl s6, .sl cl, .sl de, .sl ex, .sl lo, .sl up, .sl ti, .sl fo, .sl ca, .sl ig, .sl st, .sl co, .sl me, .sl cf] 23, .pp [.int .i64 a, .int .i64 b, .sl n0, .sl s0, .sl n1, .sl s1, .sl n2, .sl s2, .sl n3, .sl s3, .sl n4, .sl s4, .sl n5, .sl s5, .sl n6, .sl s6, .sl cl, .sl de, .sl ex, .sl lo, .sl up, .sl ti, .sl fo, .sl ca, .sl ig, .sl st, .sl co, .sl me, .sl cf] 24, .pp [.int .i64 a, .int .i64 b, .sl n0, .sl s0, .sl n1, .sl s1, .sl n2, .sl s2, .sl n3, .sl s3, .sl n4, .sl s4, .sl n5, .sl s5, .sl n6, .sl s6, .sl cl, .sl de, .sl ex, .sl lo, .sl up, .sl ti, .sl fo, .sl ca, .sl ig, .sl st, .sl co, .sl me, .sl cf] 25, .pp [.int .i64 a, .int .i64 b, .sl n0, .sl s0, .sl n1, .sl s1, .sl n2, .sl s2, .sl n3, .sl s3, .sl n4, .sl s4, .sl n5, .sl s5, .sl n6, .sl s6, .sl cl, .sl de, .sl ex, .sl lo, .sl up, .sl ti, .sl fo, .sl ca, .sl ig, .sl st, .sl co, .sl me, .sl cf] 26, .pp [.int .i64 a, .int .i64 b, .sl n0, .sl s0, .sl n1, .sl s1, .sl n2, .sl s2, .sl n3, .sl s3, .sl n4, .sl s4, .sl n5, .sl s5, .sl n6, .sl s6, .sl cl, .sl de, .sl ex, .sl lo, .sl up, .sl ti, .sl fo, .sl ca, .sl ig, .sl st, .sl co, .sl me, .sl cf] 27], .sl [.pp [.int .i64 a2, .int .i64 b2, .sl n0q, .sl s0q, .sl n1q, .sl s1q, .sl n2q, .sl s2q, .sl n3q, .sl s3q, .sl n4q, .sl s4q, .sl n5q, .sl s5q, .sl n6q, .sl s6q, .sl clq, .sl deq, .sl exq, .sl loq, .sl upq, .sl tiq, .sl foq, .sl caq, .sl igq, .sl stq, .sl coq, .sl meq, .sl cfq] 18, .pp [.int .i64 a2, .int .i64 b2, .sl n0q, .sl s0q, .sl n1q, .sl s1q, .sl n2q, .sl s2q, .sl n3q, .sl s3q, .sl n4q, .sl s4q, .sl n5q, .sl s5q, .sl n6q, .sl s6q, .sl clq, .sl deq, .sl exq, .sl loq, .sl upq, .sl tiq, .sl foq, .sl caq, .sl igq, .sl stq, .sl coq, .sl meq, .sl cfq] 23, .pp [.int .i64 a2, .int .i64 b2, .sl n0q, .sl s0q, .sl n1q, .sl s1q, .sl n2q, .sl s2q, .sl n3q, .sl s3q, .sl n4q, .sl s4q, .sl n5q, .sl s5q, .sl n6q, .sl s6q, .sl clq, .sl deq, .sl exq, .sl loq, .sl upq, .sl tiq, .sl foq, .sl caq, .sl igq, .sl stq, .sl coq, .sl meq, .sl cfq] 24, .pp [.int .i64 a2, .int .i64 b2, .sl n0q, .sl s0q, .sl n1q, .sl s1q, .sl n2q, .sl s2q, .sl n3q, .sl s3q, .sl n4q, .sl s4q, .sl n5q, .sl s5q, .sl n6q, .sl s6q, .sl clq, .sl deq, .sl exq, .sl loq, .sl upq, .sl tiq, .sl foq, .sl caq, .sl igq, .sl stq, .sl coq, .sl meq, .sl cfq] 25, .pp [.int .i64 a2, .int .i64 b2, .sl n0q, .sl s0q, .sl n1q, .sl s1q, .sl n2q, .sl s2q, .sl n3q, .sl s3q, .sl n4q, .sl s4q, .sl n5q, .sl s5q, .sl n6q, .sl s6q, .sl clq, .sl deq, .sl exq, .sl loq, .sl upq, .sl tiq, .sl foq, .sl caq, .sl igq, .sl stq, .sl coq, .sl meq, .sl cfq] 26, .pp [.int .i64 a2, .int .i64 b2, .sl n0q, .sl s0q, .sl n1q, .sl s1q, .sl n2q, .sl s2q, .sl n3q, .sl s3q, .sl n4q, .sl s4q, .sl n5q, .sl s5q, .sl n6q, .sl s6q, .sl clq, .sl deq, .sl exq, .sl loq, .sl upq, .sl tiq, .sl foq, .sl caq, .sl igq, .sl stq, .sl coq, .sl meq, .sl cfq] 27], .fn (.func 61) [] []] (.bool r) := by
  have c := a109 (E := E) (a := a) (b := b) (a2 := a2) (b2 := b2) (n0 := n0) (s0 := s0) (n1 := n1) (s1 := s1) (n2 := n2) (s2 := s2) (n3 := n3) (s3 := s3) (n4 := n4) (s4 := s4) (n5 := n5) (s5 := s5) (n6 := n6) (s6 := s6) (cl := cl) (de := de) (ex := ex) (lo := lo) (up := up) (ti := ti) (fo := fo) (ca := ca) (ig := ig) (st := st) (co := co) (me := me) (cf := cf) (n0q := n0q) (s0q := s0q) (n1q := n1q) (s1q := s1q) (n2q := n2q) (s2q := s2q) (n3q := n3q) (s3q := s3q) (n4q := n4q) (s4q := s4q) (n5q := n5q) (s5q := s5q) (n6q := n6q) (s6q := s6q) (clq := clq) (deq := deq) (exq := exq) (loq := loq) (upq := upq) (tiq := tiq) (foq := foq) (caq := caq) (igq := igq) (stq := stq) (coq := coq) (meq := meq) (cfq := cfq) hP q_ex t_ex q_ca t_ca q_ig t_ig q_st t_st q_co t_co q_me t_me q_exq t_exq q_caq t_caq q_igq t_igq q_stq t_stq q_coq t_coq q_meq t_meq hr
  apply AF_of_AC
  refine AC_of_vc (K := keepT 60) (fn := Tryz.f60) (by rw [hP]; exact Tryz.func60) rfl rfl rfl rfl rfl ?_
  cbv <;> repeat' (first
    | (refine go_val c ?_; cbv)
    | (refine ex_strne ?_ ?_ <;> intro _ <;> first | (exfalso; omega) | cbv)
    | (refine ex_if ?_ ?_ <;> intro _ <;> first | (exfalso; omega) | cbv)
    | (refine line_go 10 ?_; cbv)
    | (refine go_nil ?_ ?_ <;> (try intro _) <;> cbv)
    | (refine ex_bool ?_; cbv)
    | (refine go_tt ?_; cbv)
    | (refine go_ff ?_; cbv)
    | (refine go_tf ?_; cbv)
    | (refine go_ft ?_; cbv)
    | (refine ex_len (by assumption) ?_; cbv)
    | (refine ex_slen (by assumption) ?_; cbv)
    | (refine ex_lenv (fun _ _ _ => ?_); cbv)
    | (refine ex_slenv (fun _ _ _ => ?_); cbv)
    | (refine ex_wrap (by omega) (fun _ _ => ?_); cbv)
    | (refine ix_span (by assumption) (by assumption) (by omega) (by omega) (fun _ _ _ _ => ?_); cbv)
    | (refine ix_rng (by assumption) (by assumption) (by omega) (by omega) (fun _ _ _ => ?_); cbv)
    | (refine ix_str (by assumption) (by assumption) (by omega) (by omega) (fun _ _ _ => ?_); cbv)
    | (refine ix_map (by assumption) (by assumption) (by omega) (by omega) (fun _ _ _ _ _ _ _ => ?_); cbv)
    | (refine ix_int (by assumption) (by assumption) (by omega) (by omega) (fun _ _ _ => ?_); cbv)
    | (refine ex_neq3 (fun _ => ?_) (fun _ _ _ => ?_) <;> cbv)
    | (refine ex_neq2 (fun _ => ?_) (fun _ _ => ?_) <;> cbv)
    | (refine ob_go (by omega) ?_; cbv)
    | (refine ob_go (by kernel_rfl) ?_; cbv)
    | fail)
  all_goals trivial
end
end
end Go.Px.Db
