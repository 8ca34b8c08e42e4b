/- Shows a part of the walk of the law; its conditions stand ahead of each theorem. -/
import Derived.Test.YtecojilckmiobaaGreatDoorPxDbQ2
import Derived.Test.YtecojilckmiobaaGreatDoorPxDbQ3
import Derived.Test.YtecojilckmiobaaGreatDoorPxDbQ4
import Derived.Test.YtecojilckmiobaaGreatDoorPxDbP3
set_option linter.unusedVariables false
set_option maxRecDepth 100000
set_option maxHeartbeats 4000000
namespace Go.Px.Db
open Go Go.Px Go.Proofs
noncomputable section
section
variable {mm : Int} {E : Env (tab mm)} {a b a2 b2 : Int} {n0 s0 n1 s1 n2 s2 n3 s3 n4 s4 n5 s5 n6 s6 cl de ex lo up ti fo ca ig st co me cf n0q s0q n1q s1q n2q s2q n3q s3q n4q s4q n5q s5q n6q s6q clq deq exq loq upq tiq foq caq igq stq coq meq cfq : List PV}
theorem ex_eq2 {a b c d : Int} {G : Bool → Prop} (h1 : a = c ∧ b = d → G true) (h2 : ¬(a = c ∧ b = d) → G false) :
    ∃ r, eqCs [.int .i64 a, .int .i64 b] [.int .i64 c, .int .i64 d] = some r ∧ G r := by
  by_cases h : a = c ∧ b = d
  · exact ⟨true, by simp [eqCs, h.1, h.2], h1 h⟩
  · exact ⟨false, by simp [eqCs]; rintro rfl rfl; exact h ⟨rfl, rfl⟩, h2 h⟩
theorem a33 (hP : E.P = Tryz.prog) (q_n0 : Strs n0) (t_n0 : Len n0) (q_s0 : Spans s0) (t_s0 : Len s0) (q_n1 : Strs n1) (t_n1 : Len n1) (q_s1 : Spans s1) (t_s1 : Len s1) (q_n2 : Strs n2) (t_n2 : Len n2) (q_s2 : Spans s2) (t_s2 : Len s2) (q_n3 : Strs n3) (t_n3 : Len n3) (q_s3 : Spans s3) (t_s3 : Len s3) (q_n4 : Strs n4) (t_n4 : Len n4) (q_s4 : Spans s4) (t_s4 : Len s4) (q_n5 : Strs n5) (t_n5 : Len n5) (q_s5 : Spans s5) (t_s5 : Len s5) (q_n6 : Strs n6) (t_n6 : Len n6) (q_s6 : Spans s6) (t_s6 : Len s6) (q_cl : Spans cl) (t_cl : Len cl) (q_de : Mps de) (t_de : Len de) (q_ex : Rngs ex) (t_ex : Len ex) (q_lo : Mps lo) (t_lo : Len lo) (q_up : Mps up) (t_up : Len up) (q_ti : Mps ti) (t_ti : Len ti) (q_fo : Mps fo) (t_fo : Len fo) (q_ca : Rngs ca) (t_ca : Len ca) (q_ig : Rngs ig) (t_ig : Len ig) (q_st : Rngs st) (t_st : Len st) (q_co : Rngs co) (t_co : Len co) (q_me : Rngs me) (t_me : Len me) (q_cf : Mps cf) (t_cf : Len cf) (q_n0q : Strs n0q) (t_n0q : Len n0q) (q_s0q : Spans s0q) (t_s0q : Len s0q) (q_n1q : Strs n1q) (t_n1q : Len n1q) (q_s1q : Spans s1q) (t_s1q : Len s1q) (q_n2q : Strs n2q) (t_n2q : Len n2q) (q_s2q : Spans s2q) (t_s2q : Len s2q) (q_n3q : Strs n3q) (t_n3q : Len n3q) (q_s3q : Spans s3q) (t_s3q : Len s3q) (q_n4q : Strs n4q) (t_n4q : Len n4q) (q_s4q : Spans s4q) (t_s4q : Len s4q) (q_n5q : Strs n5q) (t_n5q : Len n5q) (q_s5q : Spans s5q) (t_s5q : Len s5q) (q_n6q : Strs n6q) (t_n6q : Len n6q) (q_s6q : Spans s6q) (t_s6q : Len s6q) (q_clq : Spans clq) (t_clq : Len clq) (q_deq : Mps deq) (t_deq : Len deq) (q_exq : Rngs exq) (t_exq : Len exq) (q_loq : Mps loq) (t_loq : Len loq) (q_upq : Mps upq) (t_upq : Len upq) (q_tiq : Mps tiq) (t_tiq : Len tiq) (q_foq : Mps foq) (t_foq : Len foq) (q_caq : Rngs caq) (t_caq : Len caq) (q_igq : Rngs igq) (t_igq : Len igq) (q_stq : Rngs stq) (t_stq : Len stq) (q_coq : Rngs coq) (t_coq : Len coq) (q_meq : Rngs meq) (t_meq : Len meq) (q_cfq : Mps cfq) (t_cfq : Len cfq) {r : Bool} (hr : r = true ↔ (a = a2 ∧ b = b2) ∧ cl = clq ∧ (de = deq ∧ lo = loq ∧ up = upq ∧ ti = tiq ∧ fo = foq ∧ cf = cfq) ∧ ((n0 = n0q ∧ s0 = s0q) ∧ (n1 = n1q ∧ s1 = s1q) ∧ (n2 = n2q ∧ s2 = s2q) ∧ (n3 = n3q ∧ s3 = s3q) ∧ (n4 = n4q ∧ s4 = s4q) ∧ (n5 = n5q ∧ s5 = s5q) ∧ (n6 = n6q ∧ s6 = s6q)) ∧ (ex = exq ∧ ca = caq ∧ ig = igq ∧ st = stq ∧ co = coq ∧ me = meq)) : AF E 33 [.agg [.int .i64 a, .int .i64 b, .sl n0, .sl s0, .sl n1, .sl s1, .sl n2, .sl s2, .sl n3, .sl s3, .sl n4, .sl s4, .sl n5, .sl s5, .sl n6, .sl s6, .sl cl, .sl de, .sl ex, .sl lo, .sl up, .sl ti, .sl fo, .sl ca, .sl ig, .sl st, .sl co, .sl me, .sl cf], .agg [.int .i64 a2, .int .i64 b2, .sl n0q, .sl s0q, .sl n1q, .sl s1q, .sl n2q, .sl s2q, .sl n3q, .sl s3q, .sl n4q, .sl s4q, .sl n5q, .sl s5q, .sl n6q, .sl s6q, .sl clq, .sl deq, .sl exq, .sl loq, .sl upq, .sl tiq, .sl foq, .sl caq, .sl igq, .sl stq, .sl coq, .sl meq, .sl cfq]] (.bool r) := by
  apply AF_of_AC
  refine AC_of_vc (K := keepT 33) (fn := Tryz.f33) (by rw [hP]; exact Tryz.func33) rfl rfl rfl rfl rfl ?_
  cbv <;> repeat' (first
    | (refine ex_eq2 ?_ ?_ <;> intro _ <;> cbv)
    | (refine go_if (fun r hr => a53 hP q_cl q_clq t_cl t_clq hr) ?_ ?_ <;> intro _ <;> cbv)
    | (refine go_val (a55 hP) ?_; cbv)
    | (refine go_val (a42 hP _ rfl) ?_; cbv)
    | (refine go_val (a51 hP _ rfl) ?_; cbv)
    | (refine go_if (fun r hr => a54 hP q_de t_de q_lo t_lo q_up t_up q_ti t_ti q_fo t_fo q_cf t_cf q_deq t_deq q_loq t_loq q_upq t_upq q_tiq t_tiq q_foq t_foq q_cfq t_cfq hr) ?_ ?_ <;> intro _ <;> cbv)
    | (refine go_if (fun r hr => a57 hP q_n0 t_n0 q_s0 t_s0 q_n1 t_n1 q_s1 t_s1 q_n2 t_n2 q_s2 t_s2 q_n3 t_n3 q_s3 t_s3 q_n4 t_n4 q_s4 t_s4 q_n5 t_n5 q_s5 t_s5 q_n6 t_n6 q_s6 t_s6 q_n0q t_n0q q_s0q t_s0q q_n1q t_n1q q_s1q t_s1q q_n2q t_n2q q_s2q t_s2q q_n3q t_n3q q_s3q t_s3q q_n4q t_n4q q_s4q t_s4q q_n5q t_n5q q_s5q t_s5q q_n6q t_n6q q_s6q t_s6q hr) ?_ ?_ <;> intro _ <;> cbv)
    | (refine go_if (fun r hr => a60 hP q_ex t_ex q_ca t_ca q_ig t_ig q_st t_st q_co t_co q_me t_me q_exq t_exq q_caq t_caq q_igq t_igq q_stq t_stq q_coq t_coq q_meq t_meq hr) ?_ ?_ <;> intro _ <;> cbv)
    | (refine ex_strne ?_ ?_ <;> intro _ <;> first | (exfalso; omega) | cbv)
    | (refine ex_if ?_ ?_ <;> intro _ <;> first | (exfalso; omega) | cbv)
    | (refine line_go 10 ?_; cbv)
    | (refine go_nil ?_ ?_ <;> (try intro _) <;> cbv)
    | (refine ex_bool ?_; cbv)
    | (refine go_tt ?_; cbv)
    | (refine go_ff ?_; cbv)
    | (refine go_tf ?_; cbv)
    | (refine go_ft ?_; cbv)
    | (refine ex_len (by assumption) ?_; cbv)
    | (refine ex_slen (by assumption) ?_; cbv)
    | (refine ex_lenv (fun _ _ _ => ?_); cbv)
    | (refine ex_slenv (fun _ _ _ => ?_); cbv)
    | (refine ex_wrap (by omega) (fun _ _ => ?_); cbv)
    | (refine ix_span (by assumption) (by assumption) (by omega) (by omega) (fun _ _ _ _ => ?_); cbv)
    | (refine ix_rng (by assumption) (by assumption) (by omega) (by omega) (fun _ _ _ => ?_); cbv)
    | (refine ix_str (by assumption) (by assumption) (by omega) (by omega) (fun _ _ _ => ?_); cbv)
    | (refine ix_map (by assumption) (by assumption) (by omega) (by omega) (fun _ _ _ _ _ _ _ => ?_); cbv)
    | (refine ix_int (by assumption) (by assumption) (by omega) (by omega) (fun _ _ _ => ?_); cbv)
    | (refine ex_neq3 (fun _ => ?_) (fun _ _ _ => ?_) <;> cbv)
    | (refine ex_neq2 (fun _ => ?_) (fun _ _ => ?_) <;> cbv)
    | (refine ob_go (by omega) ?_; cbv)
    | (refine ob_go (by kernel_rfl) ?_; cbv)
    | fail)
  all_goals first
    | trivial
    | exact tt_of hr ⟨by assumption, by assumption, by assumption, by assumption, by assumption⟩
    | exact ff_of hr (fun ⟨h0, h1, h2, h3, h4⟩ => by contradiction)
end
end
end Go.Px.Db
