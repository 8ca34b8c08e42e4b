/- Shows a part of the walk of the law; its conditions stand ahead of each theorem. -/
import Derived.Test.YtecojilckmiobaaGreatDoorPxDb
import Derived.Test.YtecojilckmiobaaGreatDoorPxF
import Derived.Shelf.Vars
import Derived.MakeChecks
import Derived.Test.YtecojilckmiobaaGreatDoorTie
set_option linter.unusedVariables false
set_option maxRecDepth 1000000
namespace Go.Px
open Go

theorem laid_mem {P : Program} {w : World} {n : String} {d : DataW Unit} : ∀ (l : List (String × DataW Unit)) (ps : List MemPlace), DataW.LaidVars P w l ps → (n, d) ∈ l →
    ∃ g t cs fuel p, P.globalNamed n = some g ∧ (P.globals[g]?).map (·.type) = some t ∧ w.var? P n = some cs ∧ DataW.trod (fun _ => ()) P w 0 (fun _ => true) false fuel t cs.toList = some (d, p)
  | [], ps, _, hm => by cases hm
  | (n', d') :: r, ps, h, hm => by
    obtain ⟨g, t, cs, fuel, p, q, h1, h2, h3, h4, h5, _⟩ := h
    rcases List.mem_cons.1 hm with he | hm
    · injection he with e1 e2
      subst e1 e2
      exact ⟨g, t, cs, fuel, p, h1, h2, h3, h4⟩
    · exact laid_mem r q h5 hm

/-- A value that leads nowhere. -/
def flat : PV → Bool
  | .int _ _ => true
  | .bool _ => true
  | .err => true
  | .nili => true
  | _ => false
theorem flat_rep {w w' : World} {F F' : Foot} {v : PV} {V : Value} (hf : flat v = true) (h : RepP w F v V) : RepP w' F' v V := by
  cases v <;> first | (simp only [RepP] at h ⊢; exact h) | (simp [flat] at hf)

theorem laid_cells {P : Program} {w : World} {n : String} {d : DataW Unit} {g t : Nat} {s : Sh} {G : Nat} {l : List (String × DataW Unit)} {ps : List MemPlace} (h : DataW.LaidVars P w l ps) (hm : (n, d) ∈ l)
    (hg : P.globalNamed n = some g) (ht : (P.globals[g]?).map (·.type) = some t) (hs : shOf P 9 t = some s) (hG : g < G) (hfl : (cellsOf s d).all flat = true) :
    RepCs w (fun b _ => b < G) (cellsOf s d) g 0 ∧ ∃ cs e q, w.heap[g]? = some (.cells cs e q) ∧ RepL w (fun b _ => b < w.heap.size) (cellsOf s d) cs.toList := by
  obtain ⟨g', t', cs, fuel, p, h1, h2, h3, h4⟩ := laid_mem l ps h hm
  obtain rfl := Option.some.inj (hg.symm.trans h1)
  obtain rfl := Option.some.inj (ht.symm.trans h2)
  obtain ⟨g1, g2, g3, g4⟩ := rep_of (F := fun b _ => b < w.heap.size) (fun b i v hc => by
    simp only [World.cell?] at hc
    split at hc
    · rename_i he
      exact (Array.getElem?_eq_some_iff.1 he).1
    · cases hc) 9 t s hs _ _ _ h4
  have hh : ∃ e q, w.heap[g]? = some (.cells cs e q) := by
    simp only [World.var?, hg, Option.bind_some] at h3
    split at h3
    · rename_i c e q he
      injection h3 with h3
      subst h3
      exact ⟨e, q, he⟩
    · cases h3
  obtain ⟨e, q, hh⟩ := hh
  refine ⟨(RepCs_iff _ _ _).2 fun i c hc => ?_, cs, e, q, hh, g1⟩
  obtain ⟨v, hv, hr⟩ := ((RepL_iff _ _).1 g1).2 i c hc
  refine ⟨hG, v, ?_, g3 v (List.mem_of_getElem? hv), flat_rep (List.all_eq_true.1 hfl c (List.mem_of_getElem? hc)) hr⟩
  simp only [World.cell?, hh]
  simpa using hv

theorem shaped_lt {P : Program} {w : World} (h : w.ShapedOpen P) {g : Nat} (hg : g < P.globals.size) {z : Array Value × TypeId} (h0 : ((begin P (fun _ _ => 0) default).world.heap[g]?).bind Obj.row? = some z) : g < w.heap.size := by
  obtain ⟨cs, hh, _⟩ := h.1 g z.1 z.2 hg h0
  exact (Array.getElem?_eq_some_iff.1 hh).1

namespace Db
open Go.Proofs Go.Proofs.YtecojilckmiobaaGreatDoor
noncomputable section
def laidL : List (String × DataW Unit) := Rows.databasePartsRow.laid

theorem RepL_ints {w : World} {F : Foot} {k : IntKind} : ∀ (ns : List Int) (vs : List Value), RepL w F (ns.map fun n => PV.int k n) vs → vs = ns.map fun n => Value.int k n
  | [], vs, h => by simpa [RepL] using h
  | n :: ns, vs, h => by
    simp only [List.map_cons, RepL] at h
    obtain ⟨v, vs', rfl, h1, h2⟩ := h
    simp only [RepP] at h1
    rw [h1, RepL_ints ns vs' h2]
    rfl

def sh0 : Sh := (shOf Tryz.prog 9 ((Tryz.prog.globals[0]?.map (·.type)).getD 0)).getD .iface
theorem glob0 {W : World} {ps : List MemPlace} (hl : DataW.LaidVars Tryz.prog W laidL ps) : RepCs W (fun b _ => b < 11) (cellsOf sh0 (Rows.laid_strings_asciiSpace (H := Unit))) 0 0 ∧ ∃ cs e q, W.heap[0]? = some (.cells cs e q) ∧ RepL W (fun b _ => b < W.heap.size) (cellsOf sh0 (Rows.laid_strings_asciiSpace (H := Unit))) cs.toList :=
  laid_cells (g := 0) (t := (Tryz.prog.globals[0]?.map (·.type)).getD 0) hl (List.mem_of_getElem? (i := 7) (a := ("strings.asciiSpace", Rows.laid_strings_asciiSpace)) (by kernel_rfl)) (by kernel_rfl) (by kernel_rfl) (s := sh0) (by kernel_rfl) (by decide) (by kernel_rfl)
def sh3 : Sh := (shOf Tryz.prog 9 ((Tryz.prog.globals[3]?.map (·.type)).getD 0)).getD .iface
theorem glob3 {W : World} {ps : List MemPlace} (hl : DataW.LaidVars Tryz.prog W laidL ps) : RepCs W (fun b _ => b < 11) (cellsOf sh3 (Rows.laid_internal_strconv_uint64pow10 (H := Unit))) 3 0 ∧ ∃ cs e q, W.heap[3]? = some (.cells cs e q) ∧ RepL W (fun b _ => b < W.heap.size) (cellsOf sh3 (Rows.laid_internal_strconv_uint64pow10 (H := Unit))) cs.toList :=
  laid_cells (g := 3) (t := (Tryz.prog.globals[3]?.map (·.type)).getD 0) hl (List.mem_of_getElem? (i := 2) (a := ("internal/strconv.uint64pow10", Rows.laid_internal_strconv_uint64pow10)) (by kernel_rfl)) (by kernel_rfl) (by kernel_rfl) (s := sh3) (by kernel_rfl) (by decide) (by kernel_rfl)
def sh4 : Sh := (shOf Tryz.prog 9 ((Tryz.prog.globals[4]?.map (·.type)).getD 0)).getD .iface
theorem glob4 {W : World} {ps : List MemPlace} (hl : DataW.LaidVars Tryz.prog W laidL ps) : RepCs W (fun b _ => b < 11) (cellsOf sh4 (Rows.laid_strconv_ErrSyntax (H := Unit))) 4 0 ∧ ∃ cs e q, W.heap[4]? = some (.cells cs e q) ∧ RepL W (fun b _ => b < W.heap.size) (cellsOf sh4 (Rows.laid_strconv_ErrSyntax (H := Unit))) cs.toList :=
  laid_cells (g := 4) (t := (Tryz.prog.globals[4]?.map (·.type)).getD 0) hl (List.mem_of_getElem? (i := 5) (a := ("strconv.ErrSyntax", Rows.laid_strconv_ErrSyntax)) (by kernel_rfl)) (by kernel_rfl) (by kernel_rfl) (s := sh4) (by kernel_rfl) (by decide) (by kernel_rfl)
def sh5 : Sh := (shOf Tryz.prog 9 ((Tryz.prog.globals[5]?.map (·.type)).getD 0)).getD .iface
theorem glob5 {W : World} {ps : List MemPlace} (hl : DataW.LaidVars Tryz.prog W laidL ps) : RepCs W (fun b _ => b < 11) (cellsOf sh5 (Rows.laid_strconv_ErrRange (H := Unit))) 5 0 ∧ ∃ cs e q, W.heap[5]? = some (.cells cs e q) ∧ RepL W (fun b _ => b < W.heap.size) (cellsOf sh5 (Rows.laid_strconv_ErrRange (H := Unit))) cs.toList :=
  laid_cells (g := 5) (t := (Tryz.prog.globals[5]?.map (·.type)).getD 0) hl (List.mem_of_getElem? (i := 4) (a := ("strconv.ErrRange", Rows.laid_strconv_ErrRange)) (by kernel_rfl)) (by kernel_rfl) (by kernel_rfl) (s := sh5) (by kernel_rfl) (by decide) (by kernel_rfl)
def sh6 : Sh := (shOf Tryz.prog 9 ((Tryz.prog.globals[6]?.map (·.type)).getD 0)).getD .iface
theorem glob6 {W : World} {ps : List MemPlace} (hl : DataW.LaidVars Tryz.prog W laidL ps) : RepCs W (fun b _ => b < 11) (cellsOf sh6 (Rows.laid_math_bits_deBruijn32tab (H := Unit))) 6 0 ∧ ∃ cs e q, W.heap[6]? = some (.cells cs e q) ∧ RepL W (fun b _ => b < W.heap.size) (cellsOf sh6 (Rows.laid_math_bits_deBruijn32tab (H := Unit))) cs.toList :=
  laid_cells (g := 6) (t := (Tryz.prog.globals[6]?.map (·.type)).getD 0) hl (List.mem_of_getElem? (i := 0) (a := ("math/bits.deBruijn32tab", Rows.laid_math_bits_deBruijn32tab)) (by kernel_rfl)) (by kernel_rfl) (by kernel_rfl) (s := sh6) (by kernel_rfl) (by decide) (by kernel_rfl)
def sh7 : Sh := (shOf Tryz.prog 9 ((Tryz.prog.globals[7]?.map (·.type)).getD 0)).getD .iface
theorem glob7 {W : World} {ps : List MemPlace} (hl : DataW.LaidVars Tryz.prog W laidL ps) : RepCs W (fun b _ => b < 11) (cellsOf sh7 (Rows.laid_math_bits_deBruijn64tab (H := Unit))) 7 0 ∧ ∃ cs e q, W.heap[7]? = some (.cells cs e q) ∧ RepL W (fun b _ => b < W.heap.size) (cellsOf sh7 (Rows.laid_math_bits_deBruijn64tab (H := Unit))) cs.toList :=
  laid_cells (g := 7) (t := (Tryz.prog.globals[7]?.map (·.type)).getD 0) hl (List.mem_of_getElem? (i := 1) (a := ("math/bits.deBruijn64tab", Rows.laid_math_bits_deBruijn64tab)) (by kernel_rfl)) (by kernel_rfl) (by kernel_rfl) (s := sh7) (by kernel_rfl) (by decide) (by kernel_rfl)
def sh9 : Sh := (shOf Tryz.prog 9 ((Tryz.prog.globals[9]?.map (·.type)).getD 0)).getD .iface
theorem glob9 {W : World} {ps : List MemPlace} (hl : DataW.LaidVars Tryz.prog W laidL ps) : RepCs W (fun b _ => b < 11) (cellsOf sh9 (Rows.laid_unicode_utf8_acceptRanges (H := Unit))) 9 0 ∧ ∃ cs e q, W.heap[9]? = some (.cells cs e q) ∧ RepL W (fun b _ => b < W.heap.size) (cellsOf sh9 (Rows.laid_unicode_utf8_acceptRanges (H := Unit))) cs.toList :=
  laid_cells (g := 9) (t := (Tryz.prog.globals[9]?.map (·.type)).getD 0) hl (List.mem_of_getElem? (i := 3) (a := ("unicode/utf8.acceptRanges", Rows.laid_unicode_utf8_acceptRanges)) (by kernel_rfl)) (by kernel_rfl) (by kernel_rfl) (s := sh9) (by kernel_rfl) (by decide) (by kernel_rfl)

theorem laid_GI {W : World} (hsh : W.ShapedOpen Tryz.prog) (hL : laidMetH Tryz.prog laidL W) : ∃ m, (env m).GI W := by
  rw [MakeChecks.laidMetH_plain _ _ _ (by kernel_rfl)] at hL
  obtain ⟨ps, hl, _, _⟩ := hL
  obtain ⟨m, hm⟩ := cell_of_shapedOpen_int (P := Tryz.prog) (g := 2) (t := 3) (zero := #[.int .i64 0]) hsh (of_decide_eq_true (by kernel_rfl)) (by kernel_rfl) rfl (by kernel_rfl) (by kernel_rfl) (k := .i64) (by kernel_rfl)
  have hsz : 11 ≤ W.heap.size := shaped_lt hsh (g := 10) (of_decide_eq_true (by kernel_rfl)) (z := (#[.pointer none], 199)) (by kernel_rfl)
  refine ⟨m, hsz, fun g cs hg => ?_, ?_⟩
  · change glT m g = some cs at hg
    unfold glT at hg
    split at hg
    · injection hg with hg
      subst hg
      exact (glob0 hl).1
    · injection hg with hg
      subst hg
      exact (RepCs_iff _ _ _).2 fun i c hc => by
        cases i with
        | zero =>
          simp at hc
          subst hc
          exact ⟨by decide, _, hm, rfl, by simp only [RepP]⟩
        | succ i => simp at hc
    · injection hg with hg
      subst hg
      exact (glob3 hl).1
    · injection hg with hg
      subst hg
      exact (glob4 hl).1
    · injection hg with hg
      subst hg
      exact (glob5 hl).1
    · injection hg with hg
      subst hg
      exact (glob6 hl).1
    · injection hg with hg
      subst hg
      exact (glob7 hl).1
    · injection hg with hg
      subst hg
      exact (glob9 hl).1
    · cases hg
  · obtain ⟨_, cs, e, q, hh, hr⟩ := glob3 hl
    refine ⟨e, q, ?_⟩
    show (bif Nat.blt 3 11 then W.heap[3]? else none) = _
    have h3 : cs.toList = _ := RepL_ints (k := .u64) ((List.range 20).map fun i => ((10 ^ i : Nat) : Int)) cs.toList hr
    have h4 : cs = ((List.range 20).map fun i => Value.int .u64 ((10 ^ i : Nat) : Int)).toArray := by
      apply Array.ext'
      rw [h3]
      simp
    rw [← h4]
    exact hh
end
end Db
end Go.Px
