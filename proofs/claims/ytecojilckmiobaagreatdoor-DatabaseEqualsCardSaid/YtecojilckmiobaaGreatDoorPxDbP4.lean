/- Shows a part of the walk of the law; its conditions stand ahead of each theorem. -/
import Derived.Test.YtecojilckmiobaaGreatDoorPxDbP3
import Derived.Test.YtecojilckmiobaaGreatDoorPxDbLive
set_option linter.unusedVariables false
set_option maxRecDepth 100000
set_option maxHeartbeats 4000000
namespace Go.Px.Db
open Go Go.Px Go.Proofs
noncomputable section
section
variable {mm : Int} {E : Env (tab mm)} {a b : Int} {n0 s0 n1 s1 n2 s2 n3 s3 n4 s4 n5 s5 n6 s6 cl de ex lo up ti fo ca ig st co me cf : List PV}
theorem AF_of_CF {g : FuncId} {args : List PV} {r : PV} (h : CF E g args r) (hf : E.fok g = true) : AF E g args r := by
  rcases h with ⟨_, h⟩ | ⟨h, _⟩
  · exact h
  · rw [hf] at h; cases h
theorem a31 (hP : E.P = Tryz.prog) (hT : PowOk E) : AF E 31 [] (.sl filesL) := AF_of_CF (f_files hP hT) rfl
theorem a32 (hP : E.P = Tryz.prog) (hT : PowOk E) : AF E 32 [] (.sl filesL) := AF_of_CF (runs_CF (l := []) hP trivial (n := 3000) (by kernel_rfl)) rfl
theorem a12 (hP : E.P = Tryz.prog) (hT : PowOk E) : AF E 12 [] (.bool true) := AF_of_CF (f_alive hP hT) rfl
theorem at_file' : ∀ k : Nat, k < 21 → ∃ s, filesL[k]? = some (.str s)
  | 0, _ => ⟨_, rfl⟩
  | 1, _ => ⟨_, rfl⟩
  | 2, _ => ⟨_, rfl⟩
  | 3, _ => ⟨_, rfl⟩
  | 4, _ => ⟨_, rfl⟩
  | 5, _ => ⟨_, rfl⟩
  | 6, _ => ⟨_, rfl⟩
  | 7, _ => ⟨_, rfl⟩
  | 8, _ => ⟨_, rfl⟩
  | 9, _ => ⟨_, rfl⟩
  | 10, _ => ⟨_, rfl⟩
  | 11, _ => ⟨_, rfl⟩
  | 12, _ => ⟨_, rfl⟩
  | 13, _ => ⟨_, rfl⟩
  | 14, _ => ⟨_, rfl⟩
  | 15, _ => ⟨_, rfl⟩
  | 16, _ => ⟨_, rfl⟩
  | 17, _ => ⟨_, rfl⟩
  | 18, _ => ⟨_, rfl⟩
  | 19, _ => ⟨_, rfl⟩
  | 20, _ => ⟨_, rfl⟩
  | k + 21, h => absurd h (by omega)
theorem at_file (i : Int) (h0 : 0 ≤ i) (h1 : i < 21) : ∃ s, filesL[i.toNat]? = some (.str s) := at_file' _ (by omega)
def mAtS (s : List UInt8) (de lo up ti fo cf : List PV) : List PV := if s = [100, 101, 99, 111, 109, 112, 111, 115, 105, 116, 105, 111, 110] then de else if s = [108, 111, 119, 101, 114] then lo else if s = [117, 112, 112, 101, 114] then up else if s = [116, 105, 116, 108, 101] then ti else if s = [102, 111, 108, 100] then fo else cf
theorem mAtS_mps (s : List UInt8) (q_de : Mps de) (q_lo : Mps lo) (q_up : Mps up) (q_ti : Mps ti) (q_fo : Mps fo) (q_cf : Mps cf) : Mps (mAtS s de lo up ti fo cf) := by
  unfold mAtS
  repeat' split
  all_goals assumption
theorem a36 (hP : E.P = Tryz.prog) (hT : PowOk E) (i : Int) (h0 : 0 ≤ i) (h1 : i < 21) (s : List UInt8) (hs : filesL[i.toNat]? = some (.str s)) (R : List PV) (hR : mAtS s de lo up ti fo cf = R) : AF E 36 [.agg [.int .i64 a, .int .i64 b, .sl n0, .sl s0, .sl n1, .sl s1, .sl n2, .sl s2, .sl n3, .sl s3, .sl n4, .sl s4, .sl n5, .sl s5, .sl n6, .sl s6, .sl cl, .sl de, .sl ex, .sl lo, .sl up, .sl ti, .sl fo, .sl ca, .sl ig, .sl st, .sl co, .sl me, .sl cf], .int .i64 i] (.sl R) := by
  apply AF_of_AC
  refine AC_of_vc (K := keepT 36) (fn := Tryz.f36) (by rw [hP]; exact Tryz.func36) rfl rfl rfl rfl rfl ?_
  cbv <;> repeat' (first
    | (refine go_val (a32 hP hT) ?_; cbv)
    | (refine ⟨.str s, hs, ob (by omega), ob rfl, ?_⟩; cbv)
    | (refine ex_strne ?_ ?_ <;> intro _ <;> first | (exfalso; omega) | cbv)
    | (refine ex_if ?_ ?_ <;> intro _ <;> first | (exfalso; omega) | cbv)
    | (refine line_go 10 ?_; cbv)
    | (refine go_nil ?_ ?_ <;> (try intro _) <;> cbv)
    | (refine ex_bool ?_; cbv)
    | (refine go_tt ?_; cbv)
    | (refine go_ff ?_; cbv)
    | (refine go_tf ?_; cbv)
    | (refine go_ft ?_; cbv)
    | (refine ex_len (by assumption) ?_; cbv)
    | (refine ex_slen (by assumption) ?_; cbv)
    | (refine ex_lenv (fun _ _ _ => ?_); cbv)
    | (refine ex_slenv (fun _ _ _ => ?_); cbv)
    | (refine ex_wrap (by omega) (fun _ _ => ?_); cbv)
    | (refine ix_span (by assumption) (by assumption) (by omega) (by omega) (fun _ _ _ _ => ?_); cbv)
    | (refine ix_rng (by assumption) (by assumption) (by omega) (by omega) (fun _ _ _ => ?_); cbv)
    | (refine ix_str (by assumption) (by assumption) (by omega) (by omega) (fun _ _ _ => ?_); cbv)
    | (refine ix_map (by assumption) (by assumption) (by omega) (by omega) (fun _ _ _ _ _ _ _ => ?_); cbv)
    | (refine ix_int (by assumption) (by assumption) (by omega) (by omega) (fun _ _ _ => ?_); cbv)
    | (refine ex_neq3 (fun _ => ?_) (fun _ _ _ => ?_) <;> cbv)
    | (refine ex_neq2 (fun _ => ?_) (fun _ _ => ?_) <;> cbv)
    | (refine ob_go (by omega) ?_; cbv)
    | (refine ob_go (by kernel_rfl) ?_; cbv)
    | fail)
  all_goals subst hR
  all_goals simp [mAtS, *]
end
end
end Go.Px.Db

