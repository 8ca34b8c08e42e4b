/- Shows a part of the walk of the law; its conditions stand ahead of each theorem. -/
import Derived.Test.YtecojilckmiobaaGreatDoorPxDbP6
set_option linter.unusedVariables false
set_option maxRecDepth 1000000
namespace Go.Px.Db
open Go Go.Px Go.Proofs
noncomputable section
def shVer : Sh := .agg [.int .i64, .int .i64]
def shSpans : Sh := .sl (.agg [.int .i64, .int .i64, .int .i64])
def shProp : Sh := .agg [.sl .str, shSpans]
def shMaps : Sh := .sl (.agg [.int .i64, .sl (.int .i64), .str])
def shSet : Sh := .agg [.sl (.agg [.int .i64, .int .i64])]
theorem shDb_eq : shDb = .agg [shVer, shProp, shProp, shProp, shProp, shProp, shProp, shProp, .agg [shSpans, shMaps, shSet], .agg [shMaps, shMaps, shMaps, shMaps, shSet, shSet], .agg [shSet, shSet, shSet], shMaps] := by kernel_rfl
theorem InI_of {n : Int} (h : (Lit.int .i64 n).wf = true) : InI n := by
  simp only [Lit.wf, Bool.and_eq_true, decide_eq_true_eq] at h
  have h1 : -9223372036854775808 ≤ n := h.1
  have h2 : n ≤ 9223372036854775807 := h.2
  exact ⟨h1, by omega⟩
theorem has_int {ys : List PV} (h : HasC (.int .i64) ys) : ∃ n, ys = [.int .i64 n] ∧ InI n := by
  obtain ⟨n, h1, h2⟩ := h
  exact ⟨n, h1, InI_of h2⟩
theorem has_two {ys : List PV} {s t : Sh} (h : HasA [s, t] ys) : ∃ a b, ys = a ++ b ∧ HasC s a ∧ HasC t b := by
  obtain ⟨a, r, rfl, h1, b, r', rfl, h2, h3⟩ := h
  cases (show r' = [] from h3)
  exact ⟨a, b, by simp, h1, h2⟩
theorem has_three {ys : List PV} {s t u : Sh} (h : HasA [s, t, u] ys) : ∃ a b c, ys = a ++ (b ++ c) ∧ HasC s a ∧ HasC t b ∧ HasC u c := by
  obtain ⟨a, r, rfl, h1, h2⟩ := h
  obtain ⟨b, c, rfl, h2, h3⟩ := has_two h2
  exact ⟨a, b, c, rfl, h1, h2, h3⟩
theorem has_one {ys : List PV} {s : Sh} (h : HasA [s] ys) : HasC s ys := by
  obtain ⟨a, r, rfl, h1, h2⟩ := h
  cases (show r = [] from h2)
  simpa using h1
theorem has_ver {ys : List PV} (h : HasC shVer ys) : ∃ a b, ys = [.int .i64 a, .int .i64 b] ∧ InI a ∧ InI b := by
  obtain ⟨x, y, rfl, h1, h2⟩ := has_two h
  obtain ⟨a, rfl, ha⟩ := has_int h1
  obtain ⟨b, rfl, hb⟩ := has_int h2
  exact ⟨a, b, rfl, ha, hb⟩
theorem has_spans {ys : List PV} (h : HasC shSpans ys) : ∃ l, ys = [.sl l] ∧ Spans l ∧ Len l := by
  obtain ⟨l, rfl, hl, hx⟩ := h
  refine ⟨l, rfl, fun x hm => ?_, hl⟩
  obtain ⟨cs, rfl, hc⟩ := hx x hm
  obtain ⟨x, y, z, rfl, h1, h2, h3⟩ := has_three hc
  obtain ⟨a, rfl, ha⟩ := has_int h1
  obtain ⟨b, rfl, hb⟩ := has_int h2
  obtain ⟨c, rfl, h4⟩ := has_int h3
  exact ⟨a, b, c, rfl, ha, hb, h4⟩
theorem has_rngs {ys : List PV} (h : HasC shSet ys) : ∃ l, ys = [.sl l] ∧ Rngs l ∧ Len l := by
  obtain ⟨l, rfl, hl, hx⟩ := has_one h
  refine ⟨l, rfl, fun x hm => ?_, hl⟩
  obtain ⟨cs, rfl, hc⟩ := hx x hm
  obtain ⟨a, b, rfl, ha, hb⟩ := has_ver hc
  exact ⟨a, b, rfl, ha, hb⟩
theorem has_ints {ys : List PV} (h : HasC (.sl (.int .i64)) ys) : ∃ l, ys = [.sl l] ∧ Ints l ∧ Len l := by
  obtain ⟨l, rfl, hl, hx⟩ := h
  refine ⟨l, rfl, fun x hm => ?_, hl⟩
  obtain ⟨cs, rfl, hc⟩ := hx x hm
  obtain ⟨a, rfl, ha⟩ := has_int hc
  exact ⟨a, rfl, ha⟩
theorem has_strs {ys : List PV} (h : HasC (.sl .str) ys) : ∃ l, ys = [.sl l] ∧ Strs l ∧ Len l := by
  obtain ⟨l, rfl, hl, hx⟩ := h
  refine ⟨l, rfl, fun x hm => ?_, hl⟩
  obtain ⟨cs, rfl, s, rfl, hs⟩ := hx x hm
  exact ⟨s, rfl, hs⟩
theorem has_maps {ys : List PV} (h : HasC shMaps ys) : ∃ l, ys = [.sl l] ∧ Mps l ∧ Len l := by
  obtain ⟨l, rfl, hl, hx⟩ := h
  refine ⟨l, rfl, fun x hm => ?_, hl⟩
  obtain ⟨cs, rfl, hc⟩ := hx x hm
  obtain ⟨x, y, z, rfl, h1, h2, h3⟩ := has_three hc
  obtain ⟨f, rfl, hf⟩ := has_int h1
  obtain ⟨t, rfl, ht, hl⟩ := has_ints h2
  obtain ⟨g, rfl, hg⟩ := h3
  exact ⟨f, t, g, rfl, hf, ht, hl, hg⟩
theorem has_prop {ys : List PV} (h : HasC shProp ys) : ∃ n s, ys = [.sl n, .sl s] ∧ (Strs n ∧ Len n) ∧ (Spans s ∧ Len s) := by
  obtain ⟨x, y, rfl, h1, h2⟩ := has_two h
  obtain ⟨n, rfl, hn⟩ := has_strs h1
  obtain ⟨s, rfl, hs⟩ := has_spans h2
  exact ⟨n, s, rfl, hn, hs⟩
/-- A database's cells, and what they are. -/
structure DbIs (a b : Int) (n0 s0 n1 s1 n2 s2 n3 s3 n4 s4 n5 s5 n6 s6 cl de ex lo up ti fo ca ig st co me cf : List PV) : Prop where
  qa : InI a
  qb : InI b
  q_n0 : Strs n0
  t_n0 : Len n0
  q_s0 : Spans s0
  t_s0 : Len s0
  q_n1 : Strs n1
  t_n1 : Len n1
  q_s1 : Spans s1
  t_s1 : Len s1
  q_n2 : Strs n2
  t_n2 : Len n2
  q_s2 : Spans s2
  t_s2 : Len s2
  q_n3 : Strs n3
  t_n3 : Len n3
  q_s3 : Spans s3
  t_s3 : Len s3
  q_n4 : Strs n4
  t_n4 : Len n4
  q_s4 : Spans s4
  t_s4 : Len s4
  q_n5 : Strs n5
  t_n5 : Len n5
  q_s5 : Spans s5
  t_s5 : Len s5
  q_n6 : Strs n6
  t_n6 : Len n6
  q_s6 : Spans s6
  t_s6 : Len s6
  q_cl : Spans cl
  t_cl : Len cl
  q_de : Mps de
  t_de : Len de
  q_ex : Rngs ex
  t_ex : Len ex
  q_lo : Mps lo
  t_lo : Len lo
  q_up : Mps up
  t_up : Len up
  q_ti : Mps ti
  t_ti : Len ti
  q_fo : Mps fo
  t_fo : Len fo
  q_ca : Rngs ca
  t_ca : Len ca
  q_ig : Rngs ig
  t_ig : Len ig
  q_st : Rngs st
  t_st : Len st
  q_co : Rngs co
  t_co : Len co
  q_me : Rngs me
  t_me : Len me
  q_cf : Mps cf
  t_cf : Len cf
theorem has_db {ys : List PV} (h : HasC shDb ys) : ∃ (a b : Int) (n0 s0 n1 s1 n2 s2 n3 s3 n4 s4 n5 s5 n6 s6 cl de ex lo up ti fo ca ig st co me cf : List PV), ys = [.int .i64 a, .int .i64 b, .sl n0, .sl s0, .sl n1, .sl s1, .sl n2, .sl s2, .sl n3, .sl s3, .sl n4, .sl s4, .sl n5, .sl s5, .sl n6, .sl s6, .sl cl, .sl de, .sl ex, .sl lo, .sl up, .sl ti, .sl fo, .sl ca, .sl ig, .sl st, .sl co, .sl me, .sl cf] ∧ DbIs a b n0 s0 n1 s1 n2 s2 n3 s3 n4 s4 n5 s5 n6 s6 cl de ex lo up ti fo ca ig st co me cf := by
  rw [shDb_eq] at h
  obtain ⟨_, _, rfl, hver, h⟩ := h
  obtain ⟨a, b, rfl, qa, qb⟩ := has_ver hver
  obtain ⟨_, _, rfl, hp, h⟩ := h
  obtain ⟨n0, s0, rfl, ⟨q_n0, t_n0⟩, q_s0, t_s0⟩ := has_prop hp
  obtain ⟨_, _, rfl, hp, h⟩ := h
  obtain ⟨n1, s1, rfl, ⟨q_n1, t_n1⟩, q_s1, t_s1⟩ := has_prop hp
  obtain ⟨_, _, rfl, hp, h⟩ := h
  obtain ⟨n2, s2, rfl, ⟨q_n2, t_n2⟩, q_s2, t_s2⟩ := has_prop hp
  obtain ⟨_, _, rfl, hp, h⟩ := h
  obtain ⟨n3, s3, rfl, ⟨q_n3, t_n3⟩, q_s3, t_s3⟩ := has_prop hp
  obtain ⟨_, _, rfl, hp, h⟩ := h
  obtain ⟨n4, s4, rfl, ⟨q_n4, t_n4⟩, q_s4, t_s4⟩ := has_prop hp
  obtain ⟨_, _, rfl, hp, h⟩ := h
  obtain ⟨n5, s5, rfl, ⟨q_n5, t_n5⟩, q_s5, t_s5⟩ := has_prop hp
  obtain ⟨_, _, rfl, hp, h⟩ := h
  obtain ⟨n6, s6, rfl, ⟨q_n6, t_n6⟩, q_s6, t_s6⟩ := has_prop hp
  obtain ⟨_, _, rfl, hg, h⟩ := h
  obtain ⟨_, _, rfl, hx, hg⟩ := hg
  obtain ⟨cl, rfl, q_cl, t_cl⟩ := has_spans hx
  obtain ⟨_, _, rfl, hx, hg⟩ := hg
  obtain ⟨de, rfl, q_de, t_de⟩ := has_maps hx
  obtain ⟨_, _, rfl, hx, hg⟩ := hg
  obtain ⟨ex, rfl, q_ex, t_ex⟩ := has_rngs hx
  cases (show _ = [] from hg)
  obtain ⟨_, _, rfl, hg, h⟩ := h
  obtain ⟨_, _, rfl, hx, hg⟩ := hg
  obtain ⟨lo, rfl, q_lo, t_lo⟩ := has_maps hx
  obtain ⟨_, _, rfl, hx, hg⟩ := hg
  obtain ⟨up, rfl, q_up, t_up⟩ := has_maps hx
  obtain ⟨_, _, rfl, hx, hg⟩ := hg
  obtain ⟨ti, rfl, q_ti, t_ti⟩ := has_maps hx
  obtain ⟨_, _, rfl, hx, hg⟩ := hg
  obtain ⟨fo, rfl, q_fo, t_fo⟩ := has_maps hx
  obtain ⟨_, _, rfl, hx, hg⟩ := hg
  obtain ⟨ca, rfl, q_ca, t_ca⟩ := has_rngs hx
  obtain ⟨_, _, rfl, hx, hg⟩ := hg
  obtain ⟨ig, rfl, q_ig, t_ig⟩ := has_rngs hx
  cases (show _ = [] from hg)
  obtain ⟨_, _, rfl, hg, h⟩ := h
  obtain ⟨_, _, rfl, hx, hg⟩ := hg
  obtain ⟨st, rfl, q_st, t_st⟩ := has_rngs hx
  obtain ⟨_, _, rfl, hx, hg⟩ := hg
  obtain ⟨co, rfl, q_co, t_co⟩ := has_rngs hx
  obtain ⟨_, _, rfl, hx, hg⟩ := hg
  obtain ⟨me, rfl, q_me, t_me⟩ := has_rngs hx
  cases (show _ = [] from hg)
  obtain ⟨_, _, rfl, hx, h⟩ := h
  obtain ⟨cf, rfl, q_cf, t_cf⟩ := has_maps hx
  cases (show _ = [] from h)
  exact ⟨a, b, n0, s0, n1, s1, n2, s2, n3, s3, n4, s4, n5, s5, n6, s6, cl, de, ex, lo, up, ti, fo, ca, ig, st, co, me, cf, rfl, ⟨qa, qb, q_n0, t_n0, q_s0, t_s0, q_n1, t_n1, q_s1, t_s1, q_n2, t_n2, q_s2, t_s2, q_n3, t_n3, q_s3, t_s3, q_n4, t_n4, q_s4, t_s4, q_n5, t_n5, q_s5, t_s5, q_n6, t_n6, q_s6, t_s6, q_cl, t_cl, q_de, t_de, q_ex, t_ex, q_lo, t_lo, q_up, t_up, q_ti, t_ti, q_fo, t_fo, q_ca, t_ca, q_ig, t_ig, q_st, t_st, q_co, t_co, q_me, t_me, q_cf, t_cf⟩⟩
theorem law_parts (m : Int) (vs : List PV) (h : HasArgs [shDb, .int .i64] vs) : AF (env m) 8 vs (.bool true) := by
  obtain ⟨cs, r, rfl, hd, cs2, r2, rfl, hi, hr⟩ := h
  cases (show r2 = [] from hr)
  obtain ⟨i, rfl, _⟩ := has_int hi
  obtain ⟨a, b, n0, s0, n1, s1, n2, s2, n3, s3, n4, s4, n5, s5, n6, s6, cl, de, ex, lo, up, ti, fo, ca, ig, st, co, me, cf, rfl, q⟩ := has_db hd
  have e : pk shDb [.int .i64 a, .int .i64 b, .sl n0, .sl s0, .sl n1, .sl s1, .sl n2, .sl s2, .sl n3, .sl s3, .sl n4, .sl s4, .sl n5, .sl s5, .sl n6, .sl s6, .sl cl, .sl de, .sl ex, .sl lo, .sl up, .sl ti, .sl fo, .sl ca, .sl ig, .sl st, .sl co, .sl me, .sl cf] = .agg [.int .i64 a, .int .i64 b, .sl n0, .sl s0, .sl n1, .sl s1, .sl n2, .sl s2, .sl n3, .sl s3, .sl n4, .sl s4, .sl n5, .sl s5, .sl n6, .sl s6, .sl cl, .sl de, .sl ex, .sl lo, .sl up, .sl ti, .sl fo, .sl ca, .sl ig, .sl st, .sl co, .sl me, .sl cf] := by rw [shDb_eq]; rfl
  rw [e]
  exact a8 rfl env_pow i q.q_n0 q.q_s0 q.q_n1 q.q_s1 q.q_n2 q.q_s2 q.q_n3 q.q_s3 q.q_n4 q.q_s4 q.q_n5 q.q_s5 q.q_n6 q.q_s6 q.q_cl q.q_de q.q_ex q.q_lo q.q_up q.q_ti q.q_fo q.q_ca q.q_ig q.q_st q.q_co q.q_me q.q_cf
end
end Go.Px.Db
