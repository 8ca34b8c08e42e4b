/- Shows a part of the walk of the law; its conditions stand ahead of each theorem. -/
import Derived.Test.YtecojilckmiobaaGreatDoorPxDbP5
import Derived.Test.YtecojilckmiobaaGreatDoorPxF
import Derived.Test.YtecojilckmiobaaGreatDoorPxDbRowF
set_option linter.unusedVariables false
set_option maxRecDepth 100000
set_option maxHeartbeats 4000000
namespace Go.Px.Db
open Go Go.Px Go.Proofs
noncomputable section
section
variable {mm : Int} {E : Env (tab mm)} {a b : Int} {n0 s0 n1 s1 n2 s2 n3 s3 n4 s4 n5 s5 n6 s6 cl de ex lo up ti fo ca ig st co me cf : List PV}
theorem nAt_ok (i : Int) (q_n0 : Strs n0) (q_n1 : Strs n1) (q_n2 : Strs n2) (q_n3 : Strs n3) (q_n4 : Strs n4) (q_n5 : Strs n5) (q_n6 : Strs n6) : Strs (nAt i n0 n1 n2 n3 n4 n5 n6) := by
  unfold nAt
  repeat' split
  all_goals first
    | assumption
    | (intro x hx; cases hx)
theorem nAt_len (i : Int) (l_n0 : n0.length ≤ 100) (l_n1 : n1.length ≤ 100) (l_n2 : n2.length ≤ 100) (l_n3 : n3.length ≤ 100) (l_n4 : n4.length ≤ 100) (l_n5 : n5.length ≤ 100) (l_n6 : n6.length ≤ 100) : (nAt i n0 n1 n2 n3 n4 n5 n6).length ≤ 100 := by
  unfold nAt
  repeat' split
  all_goals first
    | assumption
    | exact Nat.zero_le _
theorem sAt_ok (i : Int) (q_s0 : Spans s0) (q_s1 : Spans s1) (q_s2 : Spans s2) (q_s3 : Spans s3) (q_s4 : Spans s4) (q_s5 : Spans s5) (q_s6 : Spans s6) : Spans (sAt i s0 s1 s2 s3 s4 s5 s6) := by
  unfold sAt
  repeat' split
  all_goals first
    | assumption
    | (intro x hx; cases hx)
theorem sAt_len (i : Int) (l_s0 : s0.length ≤ 100) (l_s1 : s1.length ≤ 100) (l_s2 : s2.length ≤ 100) (l_s3 : s3.length ≤ 100) (l_s4 : s4.length ≤ 100) (l_s5 : s5.length ≤ 100) (l_s6 : s6.length ≤ 100) : (sAt i s0 s1 s2 s3 s4 s5 s6).length ≤ 100 := by
  unfold sAt
  repeat' split
  all_goals first
    | assumption
    | exact Nat.zero_le _
theorem tAt_ok (i : Int) (q_ex : Rngs ex) (q_ca : Rngs ca) (q_ig : Rngs ig) (q_st : Rngs st) (q_co : Rngs co) (q_me : Rngs me) : Rngs (tAt i ex ca ig st co me) := by
  unfold tAt
  repeat' split
  all_goals first
    | assumption
    | (intro x hx; cases hx)
theorem tAt_len (i : Int) (l_ex : ex.length ≤ 100) (l_ca : ca.length ≤ 100) (l_ig : ig.length ≤ 100) (l_st : st.length ≤ 100) (l_co : co.length ≤ 100) (l_me : me.length ≤ 100) : (tAt i ex ca ig st co me).length ≤ 100 := by
  unfold tAt
  repeat' split
  all_goals first
    | assumption
    | exact Nat.zero_le _
theorem a8 (hP : E.P = Tryz.prog) (hT : PowOk E) (i : Int) (q_n0 : Strs n0) (q_s0 : Spans s0) (q_n1 : Strs n1) (q_s1 : Spans s1) (q_n2 : Strs n2) (q_s2 : Spans s2) (q_n3 : Strs n3) (q_s3 : Spans s3) (q_n4 : Strs n4) (q_s4 : Spans s4) (q_n5 : Strs n5) (q_s5 : Spans s5) (q_n6 : Strs n6) (q_s6 : Spans s6) (q_cl : Spans cl) (q_de : Mps de) (q_ex : Rngs ex) (q_lo : Mps lo) (q_up : Mps up) (q_ti : Mps ti) (q_fo : Mps fo) (q_ca : Rngs ca) (q_ig : Rngs ig) (q_st : Rngs st) (q_co : Rngs co) (q_me : Rngs me) (q_cf : Mps cf) : AF E 8 [.agg [.int .i64 a, .int .i64 b, .sl n0, .sl s0, .sl n1, .sl s1, .sl n2, .sl s2, .sl n3, .sl s3, .sl n4, .sl s4, .sl n5, .sl s5, .sl n6, .sl s6, .sl cl, .sl de, .sl ex, .sl lo, .sl up, .sl ti, .sl fo, .sl ca, .sl ig, .sl st, .sl co, .sl me, .sl cf], .int .i64 i] (.bool true) := by
  have c12 := a12 hP hT
  by_cases hs : SmallDb n0 s0 n1 s1 n2 s2 n3 s3 n4 s4 n5 s5 n6 s6 cl de ex lo up ti fo ca ig st co me cf
  · have c11 := a11 (E := E) (a := a) (b := b) (n0 := n0) (s0 := s0) (n1 := n1) (s1 := s1) (n2 := n2) (s2 := s2) (n3 := n3) (s3 := s3) (n4 := n4) (s4 := s4) (n5 := n5) (s5 := s5) (n6 := n6) (s6 := s6) (cl := cl) (de := de) (ex := ex) (lo := lo) (up := up) (ti := ti) (fo := fo) (ca := ca) (ig := ig) (st := st) (co := co) (me := me) (cf := cf) hP hT q_de q_lo q_up q_ti q_fo q_cf (r := true) (by simp [hs])
    have l_n0 : n0.length ≤ 100 := Nat.le_trans (show n0.length ≤ 30 from (hs.2.1 0 (by omega) (by omega)).1) (by omega)
    have l_n1 : n1.length ≤ 100 := Nat.le_trans (show n1.length ≤ 30 from (hs.2.1 1 (by omega) (by omega)).1) (by omega)
    have l_n2 : n2.length ≤ 100 := Nat.le_trans (show n2.length ≤ 30 from (hs.2.1 2 (by omega) (by omega)).1) (by omega)
    have l_n3 : n3.length ≤ 100 := Nat.le_trans (show n3.length ≤ 30 from (hs.2.1 3 (by omega) (by omega)).1) (by omega)
    have l_n4 : n4.length ≤ 100 := Nat.le_trans (show n4.length ≤ 30 from (hs.2.1 4 (by omega) (by omega)).1) (by omega)
    have l_n5 : n5.length ≤ 100 := Nat.le_trans (show n5.length ≤ 30 from (hs.2.1 5 (by omega) (by omega)).1) (by omega)
    have l_n6 : n6.length ≤ 100 := Nat.le_trans (show n6.length ≤ 30 from (hs.2.1 6 (by omega) (by omega)).1) (by omega)
    have l_s0 : s0.length ≤ 100 := Nat.le_trans (show s0.length ≤ 16 from (hs.2.1 0 (by omega) (by omega)).2) (by omega)
    have l_s1 : s1.length ≤ 100 := Nat.le_trans (show s1.length ≤ 16 from (hs.2.1 1 (by omega) (by omega)).2) (by omega)
    have l_s2 : s2.length ≤ 100 := Nat.le_trans (show s2.length ≤ 16 from (hs.2.1 2 (by omega) (by omega)).2) (by omega)
    have l_s3 : s3.length ≤ 100 := Nat.le_trans (show s3.length ≤ 16 from (hs.2.1 3 (by omega) (by omega)).2) (by omega)
    have l_s4 : s4.length ≤ 100 := Nat.le_trans (show s4.length ≤ 16 from (hs.2.1 4 (by omega) (by omega)).2) (by omega)
    have l_s5 : s5.length ≤ 100 := Nat.le_trans (show s5.length ≤ 16 from (hs.2.1 5 (by omega) (by omega)).2) (by omega)
    have l_s6 : s6.length ≤ 100 := Nat.le_trans (show s6.length ≤ 16 from (hs.2.1 6 (by omega) (by omega)).2) (by omega)
    have l_ex : ex.length ≤ 100 := Nat.le_trans (show ex.length ≤ 12 from (hs.2.2.1 0 (by omega) (by omega))) (by omega)
    have l_ca : ca.length ≤ 100 := Nat.le_trans (show ca.length ≤ 12 from (hs.2.2.1 1 (by omega) (by omega))) (by omega)
    have l_ig : ig.length ≤ 100 := Nat.le_trans (show ig.length ≤ 12 from (hs.2.2.1 2 (by omega) (by omega))) (by omega)
    have l_st : st.length ≤ 100 := Nat.le_trans (show st.length ≤ 12 from (hs.2.2.1 3 (by omega) (by omega))) (by omega)
    have l_co : co.length ≤ 100 := Nat.le_trans (show co.length ≤ 12 from (hs.2.2.1 4 (by omega) (by omega))) (by omega)
    have l_me : me.length ≤ 100 := Nat.le_trans (show me.length ≤ 12 from (hs.2.2.1 5 (by omega) (by omega))) (by omega)
    have c25 := a25 (E := E) (a := a) (b := b) (cl := cl) (de := de) (ex := ex) (lo := lo) (up := up) (ti := ti) (fo := fo) (ca := ca) (ig := ig) (st := st) (co := co) (me := me) (cf := cf) hP i q_n0 l_n0 q_s0 l_s0 q_n1 l_n1 q_s1 l_s1 q_n2 l_n2 q_s2 l_s2 q_n3 l_n3 q_s3 l_s3 q_n4 l_n4 q_s4 l_s4 q_n5 l_n5 q_s5 l_s5 q_n6 l_n6 q_s6 l_s6
    have c26 := a26 (E := E) (a := a) (b := b) (n0 := n0) (s0 := s0) (n1 := n1) (s1 := s1) (n2 := n2) (s2 := s2) (n3 := n3) (s3 := s3) (n4 := n4) (s4 := s4) (n5 := n5) (s5 := s5) (n6 := n6) (s6 := s6) (cl := cl) (de := de) (ex := ex) (lo := lo) (up := up) (ti := ti) (fo := fo) (ca := ca) (ig := ig) (st := st) (co := co) (me := me) (cf := cf) hP i
    have c28 := a28 (E := E) (a := a) (b := b) (n0 := n0) (s0 := s0) (n1 := n1) (s1 := s1) (n2 := n2) (s2 := s2) (n3 := n3) (s3 := s3) (n4 := n4) (s4 := s4) (n5 := n5) (s5 := s5) (n6 := n6) (s6 := s6) (cl := cl) (de := de) (lo := lo) (up := up) (ti := ti) (fo := fo) (cf := cf) hP i q_ex l_ex q_ca l_ca q_ig l_ig q_st l_st q_co l_co q_me l_me
    have c29 := a29 (E := E) (a := a) (b := b) (n0 := n0) (s0 := s0) (n1 := n1) (s1 := s1) (n2 := n2) (s2 := s2) (n3 := n3) (s3 := s3) (n4 := n4) (s4 := s4) (n5 := n5) (s5 := s5) (n6 := n6) (s6 := s6) (cl := cl) (de := de) (ex := ex) (lo := lo) (up := up) (ti := ti) (fo := fo) (ca := ca) (ig := ig) (st := st) (co := co) (me := me) (cf := cf) hP i
    have kX := nAt_ok i q_n0 q_n1 q_n2 q_n3 q_n4 q_n5 q_n6
    have lX := nAt_len i l_n0 l_n1 l_n2 l_n3 l_n4 l_n5 l_n6
    have kY := sAt_ok i q_s0 q_s1 q_s2 q_s3 q_s4 q_s5 q_s6
    have lY := sAt_len i l_s0 l_s1 l_s2 l_s3 l_s4 l_s5 l_s6
    have kZ := tAt_ok i q_ex q_ca q_ig q_st q_co q_me
    have lZ := tAt_len i l_ex l_ca l_ig l_st l_co l_me
    generalize nAt i n0 n1 n2 n3 n4 n5 n6 = X at *
    generalize sAt i s0 s1 s2 s3 s4 s5 s6 = Y at *
    generalize tAt i ex ca ig st co me = Z at *
    have tX : Len X := Nat.le_trans lX (by omega)
    have tY : Len Y := Nat.le_trans lY (by omega)
    have tZ : Len Z := Nat.le_trans lZ (by omega)
    have c24 := a24 (E := E) hP kX kY kX kY tX tY tX tY (r := true) (by simp)
    have c27 := a27 (E := E) hP kZ kZ tZ tZ (r := true) (by simp)
    have kF : Strs filesL := by
      intro x hx
      simp only [filesL, List.mem_cons, List.not_mem_nil, or_false] at hx
      rcases hx with rfl | rfl | rfl | rfl | rfl | rfl | rfl | rfl | rfl | rfl | rfl | rfl | rfl | rfl | rfl | rfl | rfl | rfl | rfl | rfl | rfl
      all_goals exact ⟨_, rfl, by decide⟩
    have tF : Len filesL := by unfold Len; decide
    have c30 := a30 (E := E) hP kF kF tF tF (r := true) (by simp)
    have c31 := a31 hP hT
    have c32 := a32 hP hT
    apply AF_of_AC
    refine AC_of_vc (K := keepT 8) (fn := Tryz.f8) (by rw [hP]; exact Tryz.func8) rfl rfl rfl rfl rfl ?_
    cbv <;> repeat' (first
      | (refine go_val c11 ?_; cbv)
      | (refine go_val c25 ?_; cbv)
      | (refine go_val c26 ?_; cbv)
      | (refine go_val c24 ?_; cbv)
      | (refine go_val c28 ?_; cbv)
      | (refine go_val c29 ?_; cbv)
      | (refine go_val c27 ?_; cbv)
      | (refine go_val c31 ?_; cbv)
      | (refine go_val c32 ?_; cbv)
      | (refine go_val c30 ?_; cbv)
      | (refine go_val c12 ?_; cbv)
      | (refine ex_strne ?_ ?_ <;> intro _ <;> first | (exfalso; omega) | cbv)
      | (refine ex_if ?_ ?_ <;> intro _ <;> first | (exfalso; omega) | cbv)
      | (refine line_go 10 ?_; cbv)
      | (refine go_nil ?_ ?_ <;> (try intro _) <;> cbv)
      | (refine ex_bool ?_; cbv)
      | (refine go_tt ?_; cbv)
      | (refine go_ff ?_; cbv)
      | (refine go_tf ?_; cbv)
      | (refine go_ft ?_; cbv)
      | (refine ex_len (by assumption) ?_; cbv)
      | (refine ex_slen (by assumption) ?_; cbv)
      | (refine ex_lenv (fun _ _ _ => ?_); cbv)
      | (refine ex_slenv (fun _ _ _ => ?_); cbv)
      | (refine ex_wrap (by omega) (fun _ _ => ?_); cbv)
      | (refine ix_span (by assumption) (by assumption) (by omega) (by omega) (fun _ _ _ _ => ?_); cbv)
      | (refine ix_rng (by assumption) (by assumption) (by omega) (by omega) (fun _ _ _ => ?_); cbv)
      | (refine ix_str (by assumption) (by assumption) (by omega) (by omega) (fun _ _ _ => ?_); cbv)
      | (refine ix_map (by assumption) (by assumption) (by omega) (by omega) (fun _ _ _ _ _ _ _ => ?_); cbv)
      | (refine ix_int (by assumption) (by assumption) (by omega) (by omega) (fun _ _ _ => ?_); cbv)
      | (refine ex_neq3 (fun _ => ?_) (fun _ _ _ => ?_) <;> cbv)
      | (refine ex_neq2 (fun _ => ?_) (fun _ _ => ?_) <;> cbv)
      | (refine ob_go (by omega) ?_; cbv)
      | (refine ob_go (by kernel_rfl) ?_; cbv)
      | fail)
    all_goals trivial
  · have c11 := a11 (E := E) (a := a) (b := b) (n0 := n0) (s0 := s0) (n1 := n1) (s1 := s1) (n2 := n2) (s2 := s2) (n3 := n3) (s3 := s3) (n4 := n4) (s4 := s4) (n5 := n5) (s5 := s5) (n6 := n6) (s6 := s6) (cl := cl) (de := de) (ex := ex) (lo := lo) (up := up) (ti := ti) (fo := fo) (ca := ca) (ig := ig) (st := st) (co := co) (me := me) (cf := cf) hP hT q_de q_lo q_up q_ti q_fo q_cf (r := false) (by simp [hs])
    apply AF_of_AC
    refine AC_of_vc (K := keepT 8) (fn := Tryz.f8) (by rw [hP]; exact Tryz.func8) rfl rfl rfl rfl rfl ?_
    cbv <;> repeat' (first
      | (refine go_val c11 ?_; cbv)
      | (refine go_val c12 ?_; cbv)
      | (refine ex_strne ?_ ?_ <;> intro _ <;> first | (exfalso; omega) | cbv)
      | (refine ex_if ?_ ?_ <;> intro _ <;> first | (exfalso; omega) | cbv)
      | (refine line_go 10 ?_; cbv)
      | (refine go_nil ?_ ?_ <;> (try intro _) <;> cbv)
      | (refine ex_bool ?_; cbv)
      | (refine go_tt ?_; cbv)
      | (refine go_ff ?_; cbv)
      | (refine go_tf ?_; cbv)
      | (refine go_ft ?_; cbv)
      | (refine ex_len (by assumption) ?_; cbv)
      | (refine ex_slen (by assumption) ?_; cbv)
      | (refine ex_lenv (fun _ _ _ => ?_); cbv)
      | (refine ex_slenv (fun _ _ _ => ?_); cbv)
      | (refine ex_wrap (by omega) (fun _ _ => ?_); cbv)
      | (refine ix_span (by assumption) (by assumption) (by omega) (by omega) (fun _ _ _ _ => ?_); cbv)
      | (refine ix_rng (by assumption) (by assumption) (by omega) (by omega) (fun _ _ _ => ?_); cbv)
      | (refine ix_str (by assumption) (by assumption) (by omega) (by omega) (fun _ _ _ => ?_); cbv)
      | (refine ix_map (by assumption) (by assumption) (by omega) (by omega) (fun _ _ _ _ _ _ _ => ?_); cbv)
      | (refine ix_int (by assumption) (by assumption) (by omega) (by omega) (fun _ _ _ => ?_); cbv)
      | (refine ex_neq3 (fun _ => ?_) (fun _ _ _ => ?_) <;> cbv)
      | (refine ex_neq2 (fun _ => ?_) (fun _ _ => ?_) <;> cbv)
      | (refine ob_go (by omega) ?_; cbv)
      | (refine ob_go (by kernel_rfl) ?_; cbv)
      | fail)
    all_goals trivial
end
end
end Go.Px.Db

