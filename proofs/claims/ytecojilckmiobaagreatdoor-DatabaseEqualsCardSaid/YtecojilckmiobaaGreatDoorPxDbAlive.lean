/- Shows a part of the walk of the law; its conditions stand ahead of each theorem. -/
import Derived.Test.YtecojilckmiobaaGreatDoorPxDbSh
import Derived.Test.YtecojilckmiobaaGreatDoorPxE
set_option linter.unusedVariables false
set_option maxRecDepth 1000000
namespace Go.Px.Db
open Go Go.Px Go.Proofs
noncomputable section

/-! ### Functions without a Go body -/
theorem indexByte_NF {m : Int} {E : Env (tab m)} (hP : E.P = Tryz.prog) (s : List UInt8) (c : Int) : NF E 299 [.str s, .int .u8 c] (.int .i64 (Lib.indexByte s c.toNat.toUInt8)) := fun w F vs hg hr => by
  simp only [RepL, RepP] at hr
  obtain ⟨v, vs', rfl, rfl, v2, vs2, rfl, rfl, rfl⟩ := hr
  refine ⟨.int .i64 (Lib.indexByte s c.toNat.toUInt8), ?_, by simp only [RepP]⟩
  rw [hP, run_callFunc_extern Tryz.func299 (by kernel_rfl) (by kernel_rfl) (by kernel_rfl) (e := Extern.BytealgIndexByte.indexByte) (by kernel_rfl), Lib.run_indexByteString]
  rfl
theorem count_NF {m : Int} {E : Env (tab m)} (hP : E.P = Tryz.prog) (s : List UInt8) (c : Int) : NF E 338 [.str s, .int .u8 c] (.int .i64 (Lib.countByte s c.toNat.toUInt8)) := fun w F vs hg hr => by
  simp only [RepL, RepP] at hr
  obtain ⟨v, vs', rfl, rfl, v2, vs2, rfl, rfl, rfl⟩ := hr
  refine ⟨.int .i64 (Lib.countByte s c.toNat.toUInt8), ?_, by simp only [RepP]⟩
  rw [hP, run_callFunc_extern Tryz.func338 (by kernel_rfl) (by kernel_rfl) (by kernel_rfl) (e := Extern.BytealgCount.count) (by kernel_rfl), Lib.run_countString]
  rfl
def natT (f : FuncId) : Option (List PV → Option PV) :=
  match f with
  | 299 => some fun args => match args with
    | [.str s, .int .u8 c] => some (.int .i64 (Lib.indexByte s c.toNat.toUInt8))
    | _ => none
  | 338 => some fun args => match args with
    | [.str s, .int .u8 c] => some (.int .i64 (Lib.countByte s c.toNat.toUInt8))
    | _ => none
  | _ => none
theorem natT_ok {m : Int} {E : Env (tab m)} (hP : E.P = Tryz.prog) : OrcOk E natT := fun g o args r h hr => by
  unfold natT at h
  split at h
  · injection h with h
    subst h
    simp only at hr
    split at hr
    · injection hr with hr
      subst hr
      exact .inr ⟨by show fokT 299 = false; kernel_rfl, indexByte_NF hP _ _⟩
    · cases hr
  · injection h with h
    subst h
    simp only at hr
    split at hr
    · injection hr with hr
      subst hr
      exact .inr ⟨by show fokT 338 = false; kernel_rfl, count_NF hP _ _⟩
    · cases hr
  · cases h

/-- A closed call, reckoned over what is known. -/
def runs {m : Int} (E : Env (tab m)) (l : List Fact) (n : Nat) (g : FuncId) (args : List PV) : Option PV := cdOf E (fnOf Tryz.prog keepT) (orcOf natT l) (run E (fnOf Tryz.prog keepT) (orcOf natT l) n) g args
theorem runs_CF {m : Int} {E : Env (tab m)} (hP : E.P = Tryz.prog) {l : List Fact} (hl : FactsOk E l) {n : Nat} {g : FuncId} {args : List PV} {r : PV} (h : runs E l n g args = some r) : CF E g args r :=
  closed (fnOf_ok hP) (orcOf_ok (natT_ok hP) hl) h

def filesL : List PV := [.str [118, 101, 114, 115, 105, 111, 110], .str [99, 97, 116, 101, 103, 111, 114, 121], .str [119, 105, 100, 116, 104], .str [115, 99, 114, 105, 112, 116], .str [103, 114, 97, 112, 104, 101, 109, 101], .str [119, 111, 114, 100], .str [115, 101, 110, 116, 101, 110, 99, 101], .str [108, 105, 110, 101], .str [99, 108, 97, 115, 115, 101, 115], .str [100, 101, 99, 111, 109, 112, 111, 115, 105, 116, 105, 111, 110], .str [101, 120, 99, 108, 117, 115, 105, 111, 110, 115], .str [108, 111, 119, 101, 114], .str [117, 112, 112, 101, 114], .str [116, 105, 116, 108, 101], .str [102, 111, 108, 100], .str [99, 97, 115, 101, 100], .str [105, 103, 110, 111, 114, 97, 98, 108, 101], .str [115, 116, 97, 114, 116], .str [99, 111, 110, 116, 105, 110, 117, 101], .str [109, 101, 100, 105, 97, 108], .str [99, 111, 110, 102, 117, 115, 97, 98, 108, 101]]

section
variable {m : Int} {E : Env (tab m)}
def kf_idx : Fact := ⟨199, [.str [48, 51, 48, 48, 46, 46, 48, 51, 49, 52], .str [46, 46]], .int .i64 4⟩
theorem f_idx (hP : E.P = Tryz.prog) (hT : PowOk E) : CF E 199 [.str [48, 51, 48, 48, 46, 46, 48, 51, 49, 52], .str [46, 46]] (.int .i64 4) := .inl ⟨by show fokT 199 = true; kernel_rfl, index_AF [48, 51, 48, 48, 46, 46, 48, 51, 49, 52] [46, 46] hP (by decide)⟩
def kf_atoi15 : Fact := ⟨157, [.str [49, 53]], .tup [.int .i64 15, .nili]⟩
theorem f_atoi15 (hP : E.P = Tryz.prog) (hT : PowOk E) : CF E 157 [.str [49, 53]] (.tup [.int .i64 15, .nili]) := .inl ⟨by show fokT 157 = true; kernel_rfl, atoi_AF [49, 53] 15 hP (by decide) (by rfl)⟩
def kf_itoa15 : Fact := ⟨112, [.int .i64 15], .str [49, 53]⟩
theorem f_itoa15 (hP : E.P = Tryz.prog) (hT : PowOk E) : CF E 112 [.int .i64 15] (.str [49, 53]) := .inl ⟨by show fokT 112 = true; kernel_rfl, by have h := itoa_AF (E := E) 15 (by decide) (by decide) hP hT; rwa [show Lib.itoa 15 = [49, 53] from by simp [Lib.itoa, Lib.decDigits]] at h⟩
def kf_atoi1 : Fact := ⟨157, [.str [49]], .tup [.int .i64 1, .nili]⟩
theorem f_atoi1 (hP : E.P = Tryz.prog) (hT : PowOk E) : CF E 157 [.str [49]] (.tup [.int .i64 1, .nili]) := .inl ⟨by show fokT 157 = true; kernel_rfl, atoi_AF [49] 1 hP (by decide) (by rfl)⟩
def kf_itoa1 : Fact := ⟨112, [.int .i64 1], .str [49]⟩
theorem f_itoa1 (hP : E.P = Tryz.prog) (hT : PowOk E) : CF E 112 [.int .i64 1] (.str [49]) := .inl ⟨by show fokT 112 = true; kernel_rfl, by have h := itoa_AF (E := E) 1 (by decide) (by decide) hP hT; rwa [show Lib.itoa 1 = [49] from by simp [Lib.itoa, Lib.decDigits]] at h⟩
def kf_atoi230 : Fact := ⟨157, [.str [50, 51, 48]], .tup [.int .i64 230, .nili]⟩
theorem f_atoi230 (hP : E.P = Tryz.prog) (hT : PowOk E) : CF E 157 [.str [50, 51, 48]] (.tup [.int .i64 230, .nili]) := .inl ⟨by show fokT 157 = true; kernel_rfl, atoi_AF [50, 51, 48] 230 hP (by decide) (by rfl)⟩
def kf_itoa230 : Fact := ⟨112, [.int .i64 230], .str [50, 51, 48]⟩
theorem f_itoa230 (hP : E.P = Tryz.prog) (hT : PowOk E) : CF E 112 [.int .i64 230] (.str [50, 51, 48]) := .inl ⟨by show fokT 112 = true; kernel_rfl, by have h := itoa_AF (E := E) 230 (by decide) (by decide) hP hT; rwa [show Lib.itoa 230 = [50, 51, 48] from by simp [Lib.itoa, Lib.decDigits]] at h⟩
def kf_files : Fact := ⟨31, [], .sl filesL⟩
theorem f_files (hP : E.P = Tryz.prog) (hT : PowOk E) : CF E 31 [] (.sl filesL) := runs_CF (l := []) hP trivial (n := 3000) (by kernel_rfl)
def kf_lines : Fact := ⟨162, [.str [48, 51, 48, 48, 46, 46, 48, 51, 49, 52, 59, 32, 50, 51, 48, 10]], .tup [.sl [.agg [.int .i64 1, .int .i64 768, .int .i64 788, .sl [.str [50, 51, 48]], .str []]], .agg [.int .i64 0, .int .i64 0]]⟩
theorem f_lines (hP : E.P = Tryz.prog) (hT : PowOk E) : CF E 162 [.str [48, 51, 48, 48, 46, 46, 48, 51, 49, 52, 59, 32, 50, 51, 48, 10]] (.tup [.sl [.agg [.int .i64 1, .int .i64 768, .int .i64 788, .sl [.str [50, 51, 48]], .str []]], .agg [.int .i64 0, .int .i64 0]]) := runs_CF (l := [kf_idx]) hP ⟨f_idx hP hT, trivial⟩ (n := 3000) (by kernel_rfl)
def kf_mcheck : Fact := ⟨126, [.nils], .int .i64 0⟩
theorem f_mcheck (hP : E.P = Tryz.prog) (hT : PowOk E) : CF E 126 [.nils] (.int .i64 0) := runs_CF (l := []) hP trivial (n := 3000) (by kernel_rfl)
def kf_cvalid : Fact := ⟨129, [.agg [.nils]], .bool true⟩
theorem f_cvalid (hP : E.P = Tryz.prog) (hT : PowOk E) : CF E 129 [.agg [.nils]] (.bool true) := runs_CF (l := []) hP trivial (n := 3000) (by kernel_rfl)
def kf_pvalid : Fact := ⟨117, [.agg [.sl [.str [79, 116, 104, 101, 114]], .nils]], .bool true⟩
theorem f_pvalid (hP : E.P = Tryz.prog) (hT : PowOk E) : CF E 117 [.agg [.sl [.str [79, 116, 104, 101, 114]], .nils]] (.bool true) := runs_CF (l := []) hP trivial (n := 3000) (by kernel_rfl)
def dbA : PV := .agg [.int .i64 15, .int .i64 1, .sl [.str [79, 116, 104, 101, 114]], .nils, .sl [.str [79, 116, 104, 101, 114]], .nils, .sl [.str [79, 116, 104, 101, 114]], .nils, .sl [.str [79, 116, 104, 101, 114]], .nils, .sl [.str [79, 116, 104, 101, 114]], .nils, .sl [.str [79, 116, 104, 101, 114]], .nils, .sl [.str [79, 116, 104, 101, 114]], .nils, .sl [.agg [.int .i64 768, .int .i64 788, .int .i64 230]], .nils, .nils, .nils, .nils, .nils, .nils, .nils, .nils, .nils, .nils, .nils, .nils]
def kf_parse : Fact := ⟨19, [.sl [.agg [.str [118, 101, 114, 115, 105, 111, 110], .str [49, 53, 46, 49, 10]], .agg [.str [99, 108, 97, 115, 115, 101, 115], .str [48, 51, 48, 48, 46, 46, 48, 51, 49, 52, 59, 32, 50, 51, 48, 10]]]], .tup [dbA, .str [], .agg [.int .i64 0, .int .i64 0]]⟩
theorem f_parse (hP : E.P = Tryz.prog) (hT : PowOk E) : CF E 19 [.sl [.agg [.str [118, 101, 114, 115, 105, 111, 110], .str [49, 53, 46, 49, 10]], .agg [.str [99, 108, 97, 115, 115, 101, 115], .str [48, 51, 48, 48, 46, 46, 48, 51, 49, 52, 59, 32, 50, 51, 48, 10]]]] (.tup [dbA, .str [], .agg [.int .i64 0, .int .i64 0]]) := runs_CF (l := [kf_files, kf_lines, kf_atoi15, kf_itoa15, kf_atoi1, kf_itoa1, kf_atoi230, kf_itoa230]) hP ⟨f_files hP hT, ⟨f_lines hP hT, ⟨f_atoi15 hP hT, ⟨f_itoa15 hP hT, ⟨f_atoi1 hP hT, ⟨f_itoa1 hP hT, ⟨f_atoi230 hP hT, ⟨f_itoa230 hP hT, trivial⟩⟩⟩⟩⟩⟩⟩⟩ (n := 3000) (by kernel_rfl)
end
end
end Go.Px.Db
