/- Shows each operation does what its form says; no condition. -/
import Derived.Test.YtecojilckmiobaaGreatDoorPxA
import Derived.Laws.MakeOwn
import Derived.WideLaws
import Derived.Lib.SliceRun
import Derived.Laws.BytesString
set_option linter.unusedVariables false
set_option linter.unusedSimpArgs false
set_option linter.unnecessarySimpa false
namespace Go.Px
open Go

/-! ### Values that are made -/
def zcells (i : TyI) : List PV := i.zero.cells.toList.map ofConst

def boxK (v : PV) (h : Hp) (nid : Nat) (K : PV → Hp → Prop) : Prop :=
  bif faith v && v.cells.all isCell then K (.ptr nid 0) (setB h nid (some (.box v.cells false))) else False

/-- Parts laid over cells. -/
def fillP (place : Nat → Option (Nat × Nat)) (cells : List PV) : List (Nat × PV) → Option (List PV)
  | [] => some cells
  | (i, v) :: rest =>
    match place i with
    | none => none
    | some (off, size) =>
      bif faith v && Nat.beq v.cells.length size && Nat.ble (off + size) cells.length then fillP place (splice cells off v.cells) rest else none

section
variable {Tb : Tab} {E : Env Tb} {w : World} {F : Foot} {β : Nat → Nat} {h : Hp}

theorem ReL_zero (vs : List Value) : ReL w F β h (vs.map ofConst) vs := by
  refine (ReL_iff _ _).2 ⟨by simp, fun i x hx => ?_⟩
  rw [List.getElem?_map] at hx
  obtain ⟨v, hv, rfl⟩ := Option.map_eq_some_iff.1 hx
  exact ⟨v, hv, ofConst_rep v⟩

theorem foldl_set (vs : List Value) : ∀ (k : Nat) (a : Array Value) (off : Nat), off + k + vs.length ≤ a.size →
    (vs.zipIdx k).foldl (fun cs (c, j) => cs.setIfInBounds (off + j) c) a = (a.toList.take (off + k) ++ vs ++ a.toList.drop (off + k + vs.length)).toArray := by
  induction vs with
  | nil => intro k a off _; simp
  | cons v vs ih =>
    intro k a off hle
    simp only [List.length_cons] at hle
    rw [List.zipIdx_cons, List.foldl_cons, ih (k + 1) _ off (by simp; omega)]
    apply Array.ext'
    simp only [Array.toList_setIfInBounds]
    apply List.ext_getElem?
    intro m
    have hl : (a.toList.set (off + k) v).length = a.size := by simp
    simp only [List.append_assoc, List.getElem?_append, List.length_take, List.length_cons, List.length_set, Array.length_toList, List.getElem?_take, List.getElem?_drop, List.getElem?_set]
    by_cases h1 : m < off + k
    · simp [show m < min (off + (k + 1)) a.size by omega, show m < off + (k + 1) by omega, show ¬ (off + k = m) by omega, show m < min (off + k) a.size by omega, h1]
    · by_cases h2 : m = off + k
      · subst h2
        simp [show off + k < min (off + (k + 1)) a.size by omega, show off + k < a.size by omega, show ¬ (off + k < min (off + k) a.size) by omega, show min (off + k) a.size = off + k by omega]
      · simp only [show ¬ m < min (off + (k + 1)) a.size by omega, show ¬ m < min (off + k) a.size by omega, if_false, show min (off + k) a.size = off + k by omega, show min (off + (k + 1)) a.size = off + (k + 1) by omega]
        obtain ⟨d, rfl⟩ : ∃ d, m = off + (k + 1) + d := ⟨m - (off + (k + 1)), by omega⟩
        simp only [show off + (k + 1) + d - (off + (k + 1)) = d by omega, show off + (k + 1) + d - (off + k) = d + 1 by omega, List.getElem?_cons_succ]
        by_cases h3 : d < vs.length
        · simp [h3, show ¬ (off + (k + 1) + d < off + (k + 1)) by omega, show ¬ (off + (k + 1) + d < off + k) by omega]
        · simp [h3, show ¬ (off + (k + 1) + d < off + (k + 1)) by omega, show ¬ (off + (k + 1) + d < off + k) by omega, show ¬ (off + k = off + k + (vs.length + 1) + (d - vs.length)) by omega, show ¬ (d + 1 < vs.length + 1) by omega, show ¬ (off + k = off + (k + 1) + vs.length + (d - vs.length)) by omega, show off + (k + 1) + vs.length + (d - vs.length) = off + k + (vs.length + 1) + (d + 1 - (vs.length + 1)) by omega]

theorem fill_sound {place : Nat → Option (Nat × Nat)} : ∀ (ps : List (Nat × PV)) (Ps : List (Nat × Value)) (cells cells' : List PV) (arr : Array Value),
    fillP place cells ps = some cells' → ReL w F β h cells arr.toList → (ps.length = Ps.length ∧ ∀ (j i : Nat) (v : PV), ps[j]? = some (i, v) → ∃ V, Ps[j]? = some (i, V) ∧ Rep w F β h v V) →
    ∃ arr', Instr.fill place arr Ps = some arr' ∧ ReL w F β h cells' arr'.toList
  | [], Ps, cells, cells', arr, hf, hr, hp => by
    obtain rfl : Ps = [] := List.eq_nil_of_length_eq_zero hp.1.symm
    simp only [fillP, Option.some.injEq] at hf
    subst hf
    exact ⟨arr, rfl, hr⟩
  | (i, v) :: ps, Ps, cells, cells', arr, hf, hr, hp => by
    cases Ps with
    | nil => simp at hp
    | cons P Ps =>
      obtain ⟨hl, hp⟩ := hp
      obtain ⟨V, hV, hrv⟩ := hp 0 i v rfl
      simp at hV
      subst hV
      simp only [fillP] at hf
      cases hpl : place i with
      | none => rw [hpl] at hf; cases hf
      | some os =>
        obtain ⟨off, size⟩ := os
        rw [hpl] at hf
        simp only at hf
        cases hc : (faith v && Nat.beq v.cells.length size && Nat.ble (off + size) cells.length) with
        | false => rw [hc] at hf; cases hf
        | true =>
          rw [hc] at hf
          simp only [cond_true] at hf
          simp only [Bool.and_eq_true] at hc
          obtain ⟨⟨hfa, h1⟩, h2⟩ := hc
          have h1 := Nat.eq_of_beq_eq_true h1
          have h2 := Nat.le_of_ble_eq_true h2
          have hcl := faith_cells hfa hrv
          have hlen := ((ReL_iff _ _).1 hcl).1
          have harr := ((ReL_iff _ _).1 hr).1
          simp only [Array.length_toList] at hlen harr
          have hs := foldl_set V.cells.toList 0 arr off (by simp; omega)
          have hrec := fill_sound ps Ps (splice cells off v.cells) cells' (arr.toList.take off ++ V.cells.toList ++ arr.toList.drop (off + V.cells.size)).toArray hf (by
            have h3 := ReL_append (ReL_append (ReL_take off hr) hcl) (ReL_drop (off + v.cells.length) hr)
            simp only [splice]
            rw [hlen] at h3 ⊢
            exact h3) ⟨by simpa using hl, fun j i' v' hj => by simpa using hp (j + 1) i' v' (by simpa using hj)⟩
          obtain ⟨arr', he, hr'⟩ := hrec
          refine ⟨arr', ?_, hr'⟩
          have e1 : ¬ (V.cells.size ≠ size) := by omega
          have e2 : ¬ (off + V.cells.size > arr.size) := by omega
          simp only [Instr.fill, hpl]
          simp only [e1, e2, decide_false, Bool.or_false, Bool.false_eq_true, if_false, false_or]
          have hz : V.cells.zipIdx.foldl (fun cs (x : Value × Nat) => cs.setIfInBounds (off + x.2) x.1) arr = (arr.toList.take off ++ V.cells.toList ++ arr.toList.drop (off + V.cells.size)).toArray := by
            rw [← Array.foldl_toList, Array.toList_zipIdx]
            simpa using hs
          rw [← he, ← hz]
end
end Go.Px

set_option linter.unusedVariables false
set_option linter.unusedSimpArgs false
set_option linter.unnecessarySimpa false
namespace Go.Px
open Go

def placesP {Tb : Tab} (E : Env Tb) : List Field → Option (List (Nat × Nat))
  | [] => some []
  | f :: fs =>
    match E.ty f.type with
    | some i =>
      match placesP E fs with
      | some r => some ((f.offset, i.size) :: r)
      | none => none
    | none => none

def nth? {α : Type} : List α → Nat → Option α
  | [], _ => none
  | x :: _, 0 => some x
  | _ :: xs, n + 1 => nth? xs n
theorem nth?_eq {α : Type} : ∀ (l : List α) (n : Nat), nth? l n = l[n]?
  | [], _ => by simp [nth?]
  | _ :: _, 0 => rfl
  | _ :: xs, n + 1 => by simpa [nth?] using nth?_eq xs n

def buildK {Tb : Tab} (E : Env Tb) (t : TypeId) (ps : List (Nat × PV)) (K : PV → Prop) : Prop :=
  match E.ty t with
  | some i =>
    match i.und with
    | .struct fs =>
      match placesP E fs.toList with
      | some pl =>
        match fillP (nth? pl) (zcells i) ps with
        | some cs => K (.agg cs)
        | none => False
      | none => False
    | .array _ e =>
      match E.ty e with
      | some j =>
        match fillP (fun k => some (k * j.size, j.size)) (zcells i) ps with
        | some cs => K (.agg cs)
        | none => False
      | none => False
    | _ => False
  | none => False

def okE (size : Nat) (x : PV) : Bool := faith x && Nat.beq x.cells.length size && x.cells.all isCell
def hasPtr : PV → Bool
  | .ptr _ _ | .rp _ _ _ _ => true
  | .fn _ a b => !(a.all pureC && b.all pureC)
  | _ => false
def inOrder : Nat → List (Nat × PV) → Bool
  | _, [] => true
  | k, (i, _) :: r => Nat.beq i k && inOrder (k + 1) r

def buildSliceK {Tb : Tab} (E : Env Tb) (t : TypeId) (len : Nat) (ps : List (Nat × PV)) (h : Hp) (nid : Nat) (K : PV → Hp → Prop) : Prop :=
  match elemTy E t with
  | some (e, size) =>
    bif inOrder 0 ps && Nat.beq ps.length len && Nat.ble 1 size && Nat.ble (len * size) 16777216 then
      bif (ps.map (·.2)).any hasPtr then
        (bif (ps.map (·.2)).all (okE size) then K (.own nid len) (setB h nid (some (.row e size false (ps.map (·.2)) 0))) else False)
      else fzLK (fzK 6) h (ps.map (·.2)) fun xs h' => bif xs.all (okE size) then K (.own nid xs.length) (setB h' nid (some (.row e size true xs 0))) else False
    else False
  | none => False

section
variable {Tb : Tab} {E : Env Tb} {w : World} {F : Foot} {β : Nat → Nat} {h : Hp}

theorem places_ok : ∀ (fs : List Field) (pl : List (Nat × Nat)), placesP E fs = some pl → fs.mapM (fun f => (E.P.info? f.type).map fun i => (f.offset, i.size)) = some pl
  | [], pl, hp => by simp only [placesP, Option.some.injEq] at hp; subst hp; rfl
  | f :: fs, pl, hp => by
    simp only [placesP] at hp
    cases hi : E.ty f.type with
    | none => rw [hi] at hp; cases hp
    | some i =>
      rw [hi] at hp
      simp only at hp
      cases hr : placesP E fs with
      | none => rw [hr] at hp; cases hp
      | some r =>
        rw [hr] at hp
        simp only [Option.some.injEq] at hp
        subst hp
        obtain ⟨inf, h1, h2, _⟩ := ty_info hi
        simp [List.mapM_cons, h1, h2, places_ok fs r hr]

theorem build_sound {t : TypeId} {ps : List (Nat × PV)} {Ps : Array (Nat × Value)} {K : PV → Hp → Prop} (hk : buildK E t ps (fun v => K v h)) (hs : SimH E.G w F β h)
    (hp : ps.length = Ps.size ∧ ∀ (j i : Nat) (v : PV), ps[j]? = some (i, v) → ∃ V, Ps[j]? = some (i, V) ∧ Rep w F β h v V) : VGoal E (Instr.build t Ps) w F β h K := by
  unfold buildK at hk
  split at hk
  · rename_i i hi
    split at hk
    · rename_i fs hu
      split at hk
      · rename_i pl hpl
        split at hk
        · rename_i cs hf
          obtain ⟨inf, h1, h2, h3, h4⟩ := ty_info hi
          obtain ⟨arr', he, hr⟩ := fill_sound ps Ps.toList (zcells i) cs i.zero.cells hf (ReL_zero _) (by simpa using hp)
          refine vg_pure hs (run_build w t Ps arr' ?_) hk (by simp only [Rep]; exact ⟨arr', rfl, hr⟩)
          unfold Program.built
          rw [h1, ty_und hi, hu]
          simp only [h4, places_ok _ _ hpl]
          rw [← he]
          congr 1
          funext j
          simp [nth?_eq]
        · exact hk.elim
      · exact hk.elim
    · rename_i n e hu
      split at hk
      · rename_i j hj
        split at hk
        · rename_i cs hf
          obtain ⟨inf, h1, h2, h3, h4⟩ := ty_info hi
          obtain ⟨ine, g1, g2, g3, g4⟩ := ty_info hj
          obtain ⟨arr', he, hr⟩ := fill_sound ps Ps.toList (zcells i) cs i.zero.cells hf (ReL_zero _) (by simpa using hp)
          refine vg_pure hs (run_build w t Ps arr' ?_) hk (by simp only [Rep]; exact ⟨arr', rfl, hr⟩)
          unfold Program.built
          rw [h1, ty_und hi, hu]
          simp only [h4, g1, g2]
          exact he
        · exact hk.elim
      · exact hk.elim
    · exact hk.elim
  · exact hk.elim

theorem cells_one {v : PV} {V : Value} (hfa : faith v = true) (hall : v.cells.all isCell = true) (hv : Rep w F β h v V) : ∀ u ∈ V.cells.toList, u.oneCell' = true := fun u hu => by
  have hcells := faith_cells hfa hv
  have hlen := ((ReL_iff _ _).1 hcells).1
  obtain ⟨j, hj⟩ := List.mem_iff_getElem?.1 hu
  have hj' : j < v.cells.length := by rw [hlen]; exact (List.getElem?_eq_some_iff.1 hj).1
  obtain ⟨U, hU, hr⟩ := ((ReL_iff _ _).1 hcells).2 j _ (List.getElem?_eq_getElem hj')
  rw [hj] at hU; cases hU
  exact isCell_one ((List.all_eq_true.1 hall) _ (List.getElem_mem hj')) hr

theorem alloc_at (w : World) (o : Obj) : (w.alloc o).heap[w.heap.size]? = some o := by
  show (w.heap.push _)[w.heap.size]? = _
  simp

theorem alloc_box {G : Nat} (hs : SimH G w F β h) (hG : G ≤ w.heap.size) {nid : Nat} (hn : nid < h.length) (hfree : getB h nid = none) (t : TypeId) {cs : List PV} {arr : Array Value} (hcl : ReL w F β h cs arr.toList) (h1 : ∀ u ∈ arr.toList, u.oneCell' = true) :
    ∃ w' β', w' = w.alloc (.cells arr t) ∧ Rep w' F β' (setB h nid (some (.box cs false))) (.ptr nid 0) (.pointer (some ⟨w.heap.size, 0, none⟩)) ∧ SimH G w' F β' (setB h nid (some (.box cs false))) ∧
      Evo h.length w F β h w' F β' (setB h nid (some (.box cs false))) := by
  have hmain := alloc_evo hs hG hn hfree (.cells arr t) (.box cs false) (fun hkeep hev =>
    .inl ⟨ReL_notMap hcl, arr, t, by simp only [if_true]; exact alloc_at w _, ReL.mono hkeep hev _ _ hcl, fun i hi => by simp only [if_true] at hi; exact absurd (hs.fin _ _ hi) (Nat.lt_irrefl _), h1⟩)
  refine ⟨_, _, rfl, ?_, hmain.1, hmain.2⟩
  simp only [Rep]
  exact ⟨cs, false, getB_setB_self _ _ _ hn, by simp⟩

theorem alloc_row {G : Nat} (hs : SimH G w F β h) (hG : G ≤ w.heap.size) {nid : Nat} (hn : nid < h.length) (hfree : getB h nid = none) (e : TypeId) {k : Nat} {pr : Bool} {xs : List PV} {arr : Array Value} {c : Nat} (hk : 0 < k) (hc : arr.size = c * k) (hl : xs.length ≤ c) (hrow : RowIn w F β h k pr xs arr) :
    ∃ w' β', w' = w.alloc (.cells arr e) ∧ Rep w' F β' (setB h nid (some (.row e k pr xs 0))) (.own nid xs.length) (.slice (some ⟨w.heap.size, 0, none⟩) xs.length c) ∧ SimH G w' F β' (setB h nid (some (.row e k pr xs 0))) ∧
      Evo h.length w F β h w' F β' (setB h nid (some (.row e k pr xs 0))) := by
  have hnoF : ∀ i, ¬ F w.heap.size i := fun i hi => absurd (hs.fin _ _ hi) (Nat.lt_irrefl _)
  have hmain := alloc_evo hs hG hn hfree (.cells arr e) (.row e k pr xs 0) (fun hkeep hev => by
    refine ⟨arr, by simp only [if_true]; exact alloc_at w _, hk, by rw [hc]; exact Nat.mul_le_mul_right _ hl, fun j x hx => ⟨(hrow j x hx).1, fun i c' hi => ?_⟩, fun i hi => by simp only [if_true] at hi; exact absurd hi (hnoF i), Nat.zero_le _⟩
    obtain ⟨U, hU, ho, hp⟩ := (hrow j x hx).2 i c' hi
    refine ⟨U, hU, ho, ?_⟩
    cases pr with
    | true => exact by simpa using RepP.mono hkeep _ _ (by simpa using hp)
    | false => exact by simpa using Rep.mono hkeep hev _ _ (by simpa using hp))
  refine ⟨_, _, rfl, ?_, hmain.1, hmain.2⟩
  simp only [Rep]
  refine ⟨_, c, rfl, hl, e, k, pr, xs, 0, getB_setB_self _ _ _ hn, Nat.le_refl _, fun _ => ⟨by simp, arr, by simp only [if_true]; exact alloc_at w _, hc⟩⟩

theorem box_sound {t : TypeId} {v : PV} {V : Value} {nid : Nat} {K : PV → Hp → Prop} (hk : boxK v h nid K) (hs : SimH E.G w F β h) (hg : E.GI w) (hn : nid < h.length) (hfree : getB h nid = none) (hv : Rep w F β h v V) : VGoal E (Instr.box t V) w F β h K := by
  unfold boxK at hk
  cases hf : (faith v && v.cells.all isCell) with
  | false => rw [hf] at hk; exact hk.elim
  | true =>
    rw [hf] at hk
    simp only [cond_true] at hk
    rw [Bool.and_eq_true] at hf
    obtain ⟨w', β', hw', h1, h2, h3⟩ := alloc_box hs (E.gsz hg) hn hfree t (faith_cells hf.1 hv) (cells_one hf.1 hf.2 hv)
    exact ⟨_, w', F, β', _, _, by rw [hw']; rfl, hk, h1, h2, h3⟩

theorem alloc_sound {t : TypeId} {i : TyI} {nid : Nat} {K : PV → Hp → Prop} (hi : E.ty t = some i) (hk : K (.ptr nid 0) (setB h nid (some (.box (zcells i) false)))) (hs : SimH E.G w F β h) (hg : E.GI w) (hn : nid < h.length) (hfree : getB h nid = none) :
    VGoal E (Instr.alloc t true (.tuple #[])) w F β h K := by
  obtain ⟨w', β', hw', h1, h2, h3⟩ := alloc_box hs (E.gsz hg) hn hfree t (cs := zcells i) (ReL_zero i.zero.cells.toList) (E.tyz hi).2
  refine ⟨_, w', F, β', _, _, ?_, hk, h1, h2, h3⟩
  rw [hw']
  simp [Instr.alloc, run_zero' hi, newVar, newRow]
end
end Go.Px

set_option linter.unusedVariables false
set_option linter.unusedSimpArgs false
set_option linter.unnecessarySimpa false
namespace Go.Px
open Go

def flatV (Vs : List Value) : List Value := Vs.flatMap fun V => V.cells.toList
theorem flatV_length {k : Nat} : ∀ {Vs : List Value}, (∀ V ∈ Vs, V.cells.size = k) → (flatV Vs).length = Vs.length * k
  | [], _ => by simp [flatV]
  | V :: Vs, hk => by
    have := flatV_length (k := k) (Vs := Vs) (fun V hV => hk V (List.mem_cons_of_mem _ hV))
    simp only [flatV, List.flatMap_cons, List.length_append, Array.length_toList, List.length_cons] at this ⊢
    rw [this, hk V (by simp), Nat.succ_mul]; omega
theorem flatV_get {k : Nat} : ∀ {Vs : List Value}, (∀ V ∈ Vs, V.cells.size = k) → ∀ {j i : Nat} {V : Value}, Vs[j]? = some V → i < k → (flatV Vs)[j * k + i]? = V.cells[i]?
  | [], _, j, i, V, hj, _ => by simp at hj
  | U :: Vs, hk, 0, i, V, hj, hi => by
    simp only [List.getElem?_cons_zero, Option.some.injEq] at hj
    subst hj
    have hU := hk U (by simp)
    simp only [flatV, List.flatMap_cons]
    rw [List.getElem?_append_left (by simp; omega)]
    simp
  | U :: Vs, hk, j + 1, i, V, hj, hi => by
    have hU := hk U (by simp)
    have ih := flatV_get (k := k) (Vs := Vs) (fun V hV => hk V (List.mem_cons_of_mem _ hV)) (j := j) (by simpa using hj) hi
    simp only [flatV, List.flatMap_cons] at ih ⊢
    rw [List.getElem?_append_right (by simp [hU, Nat.succ_mul]; omega)]
    rw [← ih]
    congr 1
    simp [hU, Nat.succ_mul]; omega

theorem fill_order {k : Nat} : ∀ (Ps : List (Nat × Value)) (m : Nat) (arr : Array Value), (∀ j i V, Ps[j]? = some (i, V) → i = m + j ∧ V.cells.size = k) → (m + Ps.length) * k ≤ arr.size →
    ∃ arr', Instr.fill (fun i => some (i * k, k)) arr Ps = some arr' ∧ arr'.toList = arr.toList.take (m * k) ++ flatV (Ps.map (·.2)) ++ arr.toList.drop ((m + Ps.length) * k)
  | [], m, arr, _, _ => ⟨arr, rfl, by simp [flatV]⟩
  | (i, V) :: Ps, m, arr, hp, hle => by
    obtain ⟨hi, hV⟩ := hp 0 i V rfl
    obtain rfl : i = m := by omega
    simp only [List.length_cons] at hle
    have hmul : (i + (Ps.length + 1)) * k = i * k + k + Ps.length * k := by simp only [Nat.add_mul, Nat.succ_mul]; omega
    have hs := foldl_set V.cells.toList 0 arr (i * k) (by simp; omega)
    have hz : V.cells.zipIdx.foldl (fun cs (x : Value × Nat) => cs.setIfInBounds (i * k + x.2) x.1) arr = (arr.toList.take (i * k) ++ V.cells.toList ++ arr.toList.drop (i * k + V.cells.size)).toArray := by
      rw [← Array.foldl_toList, Array.toList_zipIdx]
      simpa using hs
    have hsz : (arr.toList.take (i * k) ++ V.cells.toList ++ arr.toList.drop (i * k + V.cells.size)).toArray.size = arr.size := by
      simpa using size_splice arr (i * k) V.cells.toList (by simp; omega)
    obtain ⟨arr', h1, h2⟩ := fill_order (k := k) Ps (i + 1) (arr.toList.take (i * k) ++ V.cells.toList ++ arr.toList.drop (i * k + V.cells.size)).toArray (fun j i' V' hj => by
      have := hp (j + 1) i' V' (by simpa using hj)
      omega) (by rw [hsz, show (i + 1 + Ps.length) * k = (i + (Ps.length + 1)) * k by congr 1; omega]; exact hle)
    refine ⟨arr', ?_, ?_⟩
    · have e1 : ¬ (V.cells.size ≠ k) := by omega
      have e2 : ¬ (i * k + V.cells.size > arr.size) := by omega
      simp only [Instr.fill]
      simp only [e1, e2, decide_false, Bool.or_false, Bool.false_eq_true, if_false, false_or]
      rw [← h1, ← hz]
    · rw [h2]
      have hik : (i + 1) * k = i * k + V.cells.size := by rw [Nat.succ_mul]; omega
      have hmin : min (i * k) arr.size = i * k := by omega
      simp only [List.map_cons, flatV, List.flatMap_cons, hik, List.length_cons]
      rw [List.take_append_of_le_length (by simp; omega), List.take_of_length_le (by simp; omega)]
      rw [show (i + 1 + Ps.length) * k = i * k + V.cells.size + Ps.length * k by simp only [Nat.add_mul, Nat.one_mul]; omega, show (i + (Ps.length + 1)) * k = i * k + V.cells.size + Ps.length * k by rw [hmul]; omega]
      rw [List.drop_append, List.drop_of_length_le (by simp; omega)]
      simp only [List.nil_append, List.length_append, List.length_take, Array.length_toList, hmin, List.drop_drop, List.append_assoc, List.append_cancel_left_eq]
      congr 1
      omega

section
variable {Tb : Tab} {E : Env Tb} {w : World} {F : Foot} {β : Nat → Nat} {h : Hp}

theorem rep_single {v : PV} {V : Value} (hf : faith v = true) (hx : ∀ cs, v ≠ .agg cs) (hr : Rep w F β h v V) : V.cells = #[V] := by
  cases v <;> simp [faith] at hf <;> simp only [Rep, RepP] at hr
  case agg cs => exact absurd rfl (hx cs)
  case int => subst hr; rfl
  case bool => subst hr; rfl
  case str => subst hr; rfl
  case nili => subst hr; rfl
  case nilf => rcases hr with rfl | rfl <;> rfl
  case err => obtain ⟨t, v, rfl⟩ := hr; rfl
  case sl => obtain ⟨A, c, rfl, _⟩ := hr; rfl
  case nils => obtain ⟨A, rfl⟩ := hr; rfl
  case own => obtain ⟨A, c, rfl, _⟩ := hr; rfl
  case ptr => obtain ⟨_, _, _, rfl⟩ := hr; rfl
  case rp => obtain ⟨⟨A, rfl⟩, _⟩ := hr; rfl
  case pp => obtain ⟨b, base, rfl, _⟩ := hr; rfl
  case fn => obtain ⟨fa, ga, rfl, _⟩ := hr; rfl
  case gp => subst hr; rfl

theorem rowIn_flat {k : Nat} {pr : Bool} {xs : List PV} {Vs : List Value} {arr : Array Value} {rest : List Value} (hlen : xs.length = Vs.length) (hok : ∀ x ∈ xs, okE k x = true)
    (hrep : ∀ (j : Nat) (x : PV) (V : Value), xs[j]? = some x → Vs[j]? = some V → (if pr = true then RepP w F x V else Rep w F β h x V)) (harr : arr.toList = flatV Vs ++ rest) : RowIn w F β h k pr xs arr := by
  have hV : ∀ (j : Nat) (x : PV) (V : Value), xs[j]? = some x → Vs[j]? = some V → V.cells.size = k ∧ x.cells.length = k ∧ ReL w F β h x.cells V.cells.toList ∧ x.cells.all isCell = true := fun j x V hx hv => by
    have h1 := hok x (List.mem_of_getElem? hx)
    simp only [okE, Bool.and_eq_true] at h1
    obtain ⟨⟨hf, hk⟩, hall⟩ := h1
    have hr : Rep w F β h x V := by
      have := hrep j x V hx hv
      cases pr with
      | true => exact RepP.toRep _ _ _ _ (by simpa using this)
      | false => simpa using this
    have hc := faith_cells hf hr
    have hl := ((ReL_iff _ _).1 hc).1
    have hk := Nat.eq_of_beq_eq_true hk
    simp only [Array.length_toList] at hl
    exact ⟨by omega, hk, hc, hall⟩
  have hVs : ∀ V ∈ Vs, V.cells.size = k := fun V hm => by
    obtain ⟨j, hj⟩ := List.mem_iff_getElem?.1 hm
    have hjl : j < xs.length := by rw [hlen]; exact (List.getElem?_eq_some_iff.1 hj).1
    exact (hV j _ V (List.getElem?_eq_getElem hjl) hj).1
  intro j x hx
  have hjl : j < Vs.length := by rw [← hlen]; exact (List.getElem?_eq_some_iff.1 hx).1
  have hv := List.getElem?_eq_getElem hjl
  obtain ⟨h1, h2, h3, h4⟩ := hV j x _ hx hv
  refine ⟨h2, fun i c hi => ?_⟩
  have hik : i < k := by rw [← h2]; exact (List.getElem?_eq_some_iff.1 hi).1
  obtain ⟨U, hU, hr⟩ := ((ReL_iff _ _).1 h3).2 i c hi
  have hUone : U.oneCell' = true := isCell_one ((List.all_eq_true.1 h4) c (List.mem_of_getElem? hi)) hr
  refine ⟨U, ?_, hUone, ?_⟩
  · rw [← Array.getElem?_toList, harr, List.getElem?_append_left, flatV_get hVs hv hik]
    · simpa using hU
    · rw [flatV_length hVs]
      have : (j + 1) * k ≤ Vs.length * k := Nat.mul_le_mul_right _ hjl
      rw [Nat.succ_mul] at this
      omega
  · cases pr with
    | false => simpa using hr
    | true =>
      simp only [if_true]
      have hp := hrep j x _ hx hv
      simp only [if_true] at hp
      cases x with
      | agg cs =>
        simp only [RepP] at hp
        obtain ⟨a, ha, hl⟩ := hp
        simp only [PV.cells] at hi
        obtain ⟨U', hU', hr'⟩ := ((RepL_iff _ _).1 hl).2 i c hi
        rw [ha] at hU
        simp only [Value.cells] at hU
        rw [hU] at hU'; cases hU'; exact hr'
      | _ =>
        simp only [PV.cells, List.length_singleton] at h2 hi
        obtain rfl : i = 0 := by omega
        simp only [List.getElem?_cons_zero, Option.some.injEq] at hi
        subst hi
        have : Vs[j].cells.toList[0]? = some Vs[j] := by
          have hf := hok _ (List.mem_of_getElem? hx)
          simp only [okE, Bool.and_eq_true] at hf
          rw [rep_single hf.1.1 (fun _ h => by cases h) (RepP.toRep β h _ _ hp)]
          rfl
        rw [this] at hU; cases hU; exact hp

theorem run_buildSlice {t e : TypeId} {it ie : TyI} {size n : Nat} (hit : E.ty t = some it) (hu : it.und = .slice e) (hie : E.ty e = some ie) (hsz : ie.size = size) (hpos : 0 < size) (hle : n * size ≤ 16777216) (Ps : Array (Nat × Value))
    (hps : ∀ (j i : Nat) (V : Value), Ps[j]? = some (i, V) → i = j ∧ V.cells.size = size) (hn : Ps.size = n) (w : World) :
    ∃ arr, (Instr.buildSlice t n Ps).run E.P w = .ok (.slice (some ⟨w.heap.size, 0, none⟩) n n) (w.alloc (.cells arr e)) ∧ arr.toList = flatV (Ps.toList.map (·.2)) := by
  have hz := (E.tyz hie).1
  obtain ⟨arr', h1, h2⟩ := fill_order (k := size) Ps.toList 0 (if n * size = 0 then (#[] : Array Value) else (Array.range (n * size)).map (ie.zero.cells[· % ie.zero.cells.size]!)) (fun j i V hj => by
    have := hps j i V (by simpa using hj); omega) (by
    simp only [Array.length_toList, hn, Nat.zero_add]
    split
    · omega
    · simp)
  simp only [Array.length_toList, hn, Nat.zero_add, Nat.zero_mul, List.take_zero, List.nil_append] at h2
  refine ⟨arr', ?_, ?_⟩
  · have hle' : ¬ (2 ^ 24 < n * size) := by simp only [show (2 : Nat) ^ 24 = 16777216 from rfl]; omega
    have hzr := run_zero' hie w
    have hsr := run_sizeOf' hie w
    rw [hsz] at hsr
    have hur := run_underlying (ty_und hit) w
    rw [hu] at hur
    simp only [Instr.buildSlice, Sem.run_bind, hur, Result.andThen_ok, hsr]
    simp only [gt_iff_lt, hle', if_false]
    by_cases h0 : n * size = 0
    · simp only [h0, if_true] at h1 ⊢
      simp only [Sem.run_pure, Result.andThen_ok, Sem.run_bind]
      have : (Array.map (fun x => (#[] : Array Value)[x % (#[] : Array Value).size]!) (Array.range 0)) = #[] := by simp
      rw [this, h1]
      simp [newRow]
    · simp only [h0, if_false] at h1 ⊢
      simp only [Sem.run_pure, Result.andThen_ok, Sem.run_bind, hzr]
      rw [h1]
      simp [newRow]
  · rw [h2, List.drop_of_length_le, List.append_nil]
    simp only [Array.length_toList]
    split
    · simp
    · simp
end
end Go.Px

set_option linter.unusedVariables false
set_option linter.unusedSimpArgs false
set_option linter.unnecessarySimpa false
namespace Go.Px
open Go
section
variable {Tb : Tab} {E : Env Tb} {w : World} {F : Foot} {β : Nat → Nat} {h : Hp}

theorem elemTy_some {t e : TypeId} {size : Nat} (he : elemTy E t = some (e, size)) : ∃ it ie, E.ty t = some it ∧ it.und = .slice e ∧ E.ty e = some ie ∧ ie.size = size := by
  unfold elemTy at he
  split at he
  · rename_i i hi
    split at he
    · rename_i e' hu
      split at he
      · rename_i j hj
        simp only [Option.some.injEq, Prod.mk.injEq] at he
        obtain ⟨rfl, rfl⟩ := he
        exact ⟨i, j, hi, hu, hj, rfl⟩
      · cases he
    · cases he
  · cases he

theorem inOrder_spec : ∀ (ps : List (Nat × PV)) (k : Nat), inOrder k ps = true → ∀ (j i : Nat) (v : PV), ps[j]? = some (i, v) → i = k + j
  | [], _, _, j, i, v, hj => by simp at hj
  | (m, u) :: ps, k, ho, 0, i, v, hj => by
    simp only [List.getElem?_cons_zero, Option.some.injEq, Prod.mk.injEq] at hj
    simp only [inOrder, Bool.and_eq_true] at ho
    have := Nat.eq_of_beq_eq_true ho.1
    omega
  | (m, u) :: ps, k, ho, j + 1, i, v, hj => by
    simp only [inOrder, Bool.and_eq_true] at ho
    have := inOrder_spec ps (k + 1) ho.2 j i v (by simpa using hj)
    omega

theorem okE_size {k : Nat} {x : PV} {V : Value} (ho : okE k x = true) (hr : Rep w F β h x V) : V.cells.size = k := by
  simp only [okE, Bool.and_eq_true] at ho
  have hl := ((ReL_iff _ _).1 (faith_cells ho.1.1 hr)).1
  have := Nat.eq_of_beq_eq_true ho.1.2
  simp only [Array.length_toList] at hl
  omega

theorem Evo.trans' {w1 w2 : World} {F1 F2 : Foot} {β1 β2 : Nat → Nat} {h1 h2 : Hp} (p : Evo h.length w F β h w1 F1 β1 h1) (q : Evo h1.length w1 F1 β1 h1 w2 F2 β2 h2) : Evo h.length w F β h w2 F2 β2 h2 where
  size := Nat.le_trans p.size q.size
  keep := fun b hb ho => by
    rw [q.keep b (Nat.lt_of_lt_of_le hb p.size) (fun h1 => (p.own b h1).elim ho (by omega))]
    exact p.keep b hb ho
  tape := q.tape.trans p.tape
  os := q.os.trans p.os
  output := q.output.trans p.output
  cell := p.cell.trans q.cell
  org := fun b i hf => by
    rcases q.org b i hf with h1 | h1 | h1
    · exact p.org b i h1
    · exact (p.own b h1).elim (fun x => .inr (.inl x)) (fun x => .inr (.inr x))
    · exact .inr (.inr (Nat.le_trans p.size h1))
  own := fun b ho => by
    rcases q.own b ho with h1 | h1
    · exact p.own b h1
    · exact .inr (Nat.le_trans p.size h1)
  box := fun id cs fz hi hb => by
    obtain ⟨⟨cs1, fz1, hb1⟩, e1⟩ := p.box id cs fz hi hb
    obtain ⟨hb0, e0⟩ := q.box id cs1 fz1 (getB_lt _ _ _ hb1) hb1
    exact ⟨hb0, e0.trans e1⟩
  row := fun id el k pr xs fz hi hb => by
    obtain ⟨pr1, xs1, fz1, hb1, l1, s1⟩ := p.row id el k pr xs fz hi hb
    obtain ⟨pr0, xs0, fz0, hb0, l0, s0⟩ := q.row id el k pr1 xs1 fz1 (getB_lt _ _ _ hb1) hb1
    refine ⟨pr0, xs0, fz0, hb0, Nat.le_trans l1 l0, fun hl => ?_⟩
    obtain ⟨e0, c0⟩ := s1 (by omega)
    obtain ⟨e1, c1⟩ := s0 (by omega)
    refine ⟨e1.trans e0, fun arr ha => ?_⟩
    obtain ⟨arr1, ha1, hs1⟩ := c0 arr ha
    obtain ⟨arr2, ha2, hs2⟩ := c1 arr1 (by rw [e0]; exact ha1)
    exact ⟨arr2, by rw [← e0]; exact ha2, by omega⟩

theorem buildSlice_sound {t : TypeId} {len : Nat} {ps : List (Nat × PV)} {Ps : Array (Nat × Value)} {K : PV → Hp → Prop} {nid : Nat} (hk : buildSliceK E t len ps h nid K) (hs : SimH E.G w F β h) (hg : E.GI w) (hn : nid < h.length) (hfree : getB h nid = none)
    (hp : ps.length = Ps.size ∧ ∀ (j i : Nat) (v : PV), ps[j]? = some (i, v) → ∃ V, Ps[j]? = some (i, V) ∧ Rep w F β h v V) : VGoal E (Instr.buildSlice t len Ps) w F β h K := by
  unfold buildSliceK at hk
  split at hk
  · rename_i e size he
    obtain ⟨it, ie, hit, hu, hie, hsz⟩ := elemTy_some he
    cases hc : (inOrder 0 ps && Nat.beq ps.length len && Nat.ble 1 size && Nat.ble (len * size) 16777216) with
    | false => rw [hc] at hk; exact hk.elim
    | true =>
      rw [hc] at hk
      simp only [cond_true] at hk
      simp only [Bool.and_eq_true] at hc
      obtain ⟨⟨⟨ho, hl⟩, h1⟩, h2⟩ := hc
      have hl := Nat.eq_of_beq_eq_true hl
      have h1 := Nat.le_of_ble_eq_true h1
      have h2 := Nat.le_of_ble_eq_true h2
      have hord := inOrder_spec ps 0 ho
      have hPs : ∀ (j i : Nat) (V : Value), Ps[j]? = some (i, V) → ∃ v, ps[j]? = some (i, v) ∧ Rep w F β h v V := fun j i V hj => by
        have hjl : j < ps.length := by rw [hp.1]; exact (Array.getElem?_eq_some_iff.1 hj).1
        obtain ⟨⟨i', v⟩, hv⟩ : ∃ x, ps[j]? = some x := ⟨_, List.getElem?_eq_getElem hjl⟩
        obtain ⟨V', hV', hr⟩ := hp.2 j i' v hv
        rw [hj] at hV'; cases hV'
        exact ⟨v, hv, hr⟩
      have go : ∀ (pr : Bool) (F' : Foot) (h' : Hp) (xs : List PV), SimH E.G w F' β h' → Evo h.length w F β h w F' β h' → nid < h'.length → getB h' nid = none → xs.length = ps.length → xs.all (okE size) = true →
          (∀ (j : Nat) (x : PV) (V : Value), xs[j]? = some x → (Ps.toList.map (·.2))[j]? = some V → (if pr = true then RepP w F' x V else Rep w F' β h' x V)) →
          K (.own nid xs.length) (setB h' nid (some (.row e size pr xs 0))) → VGoal E (Instr.buildSlice t len Ps) w F β h K := by
        intro pr F' h' xs hs' hev' hn' hfree' hxl hok hrep hK
        have hcell : ∀ (j i : Nat) (V : Value), Ps[j]? = some (i, V) → i = j ∧ V.cells.size = size := fun j i V hj => by
          obtain ⟨v, hv, _⟩ := hPs j i V hj
          have hjl : j < xs.length := by rw [hxl]; exact (List.getElem?_eq_some_iff.1 hv).1
          have hr := hrep j _ V (List.getElem?_eq_getElem hjl) (by simp [hj])
          have hr' : Rep w F' β h' xs[j] V := by
            cases pr with
            | true => exact RepP.toRep _ _ _ _ (by simpa using hr)
            | false => simpa using hr
          exact ⟨by have := hord j i v hv; omega, okE_size ((List.all_eq_true.1 hok) _ (List.getElem_mem hjl)) hr'⟩
        obtain ⟨arr, hrun, harr⟩ := run_buildSlice hit hu hie hsz h1 h2 Ps hcell (by omega) w
        have hVs : ∀ V ∈ Ps.toList.map (·.2), V.cells.size = size := fun V hV => by
          obtain ⟨⟨i, V'⟩, hm, rfl⟩ := List.mem_map.1 hV
          obtain ⟨j, hj⟩ := List.mem_iff_getElem?.1 hm
          exact (hcell j i V' (by simpa using hj)).2
        have hrow : RowIn w F' β h' size pr xs arr := rowIn_flat (rest := []) (by simp; omega) (List.all_eq_true.1 hok) hrep (by rw [harr, List.append_nil])
        have hasz : arr.size = len * size := by
          rw [← Array.length_toList, harr, flatV_length hVs]
          simp; rw [← hp.1, hl]
        have hxlen : xs.length = len := by omega
        obtain ⟨w', β', hw', r1, r2, r3⟩ := alloc_row hs' (E.gsz hg) hn' hfree' e (c := len) h1 hasz (by omega) hrow
        rw [hxlen] at r1
        refine ⟨_, w', F', β', _, _, by rw [hw']; exact hrun, hK, by rw [hxlen]; exact r1, r2, hev'.trans' r3⟩
      cases hpt : (ps.map (·.2)).any hasPtr with
      | true =>
        rw [hpt] at hk
        simp only [cond_true] at hk
        cases hok : (ps.map (·.2)).all (okE size) with
        | false => rw [hok] at hk; exact hk.elim
        | true =>
          rw [hok] at hk
          simp only [cond_true] at hk
          refine go false F h (ps.map (·.2)) hs (Evo.refl _ _ _ _) hn hfree (by simp) hok (fun j x V hx hV => ?_) (by simpa [hl] using hk)
          rw [List.getElem?_map] at hx hV
          obtain ⟨⟨i, v⟩, hv, rfl⟩ := Option.map_eq_some_iff.1 hx
          obtain ⟨⟨i', V'⟩, hV', rfl⟩ := Option.map_eq_some_iff.1 hV
          obtain ⟨V2, h3, hr⟩ := hp.2 j i v hv
          simp only [Array.getElem?_toList] at hV'
          rw [hV'] at h3; cases h3
          simpa using hr
      | false =>
        rw [hpt] at hk
        simp only [cond_false] at hk
        have hrl : ReL w F β h (ps.map (·.2)) (Ps.toList.map (·.2)) := (ReL_iff _ _).2 ⟨by simp [hp.1], fun j x hx => by
          rw [List.getElem?_map] at hx
          obtain ⟨⟨i, v⟩, hv, rfl⟩ := Option.map_eq_some_iff.1 hx
          obtain ⟨V2, h3, hr⟩ := hp.2 j i v hv
          exact ⟨V2, by simp [h3], hr⟩⟩
        obtain ⟨xs, h', F', hk', hrp, hs', hz⟩ := fzL_sound (fz_sound (G := E.G) (w := w) (β := β) 6) _ h F _ _ hk hs hrl
        cases hok : xs.all (okE size) with
        | false => rw [hok] at hk'; exact hk'.elim
        | true =>
          rw [hok] at hk'
          simp only [cond_true] at hk'
          have hxl := ((RepL_iff _ _).1 hrp).1
          refine go true F' h' xs hs' hz.evo (by rw [hz.len]; exact hn) (by cases hq : getB h' nid with | none => rfl | some b => (obtain ⟨b0, h0⟩ := hz.own nid b hq; rw [hfree] at h0; cases h0)) (by simp at hxl; omega) hok (fun j x V hx hV => ?_) hk'
          obtain ⟨V', hV', hr⟩ := ((RepL_iff _ _).1 hrp).2 j x hx
          rw [hV] at hV'; cases hV'
          simpa using hr
  · exact hk.elim

end
end Go.Px

set_option linter.unusedVariables false
set_option linter.unusedSimpArgs false
set_option linter.unnecessarySimpa false
namespace Go.Px
open Go

def srcK (size : Nat) (x : PV) (h : Hp) (K : List PV → Prop) : Prop :=
  match x with
  | .own id m =>
    match getB h id with
    | some (.row _ k true xs _) => m = xs.length ∧ (bif Nat.beq k size then K xs else False)
    | _ => False
  | .sl xs => (∀ x ∈ xs, x.cells.length = size) ∧ K xs
  | .nils => K []
  | _ => False

def appendK {Tb : Tab} (E : Env Tb) (t : TypeId) (s x : PV) (h : Hp) (nid : Nat) (K : PV → Hp → Prop) : Prop :=
  match elemTy E t with
  | some (e, size) =>
    match E.ty e with
    | some ie =>
      bif Nat.ble 1 size && Nat.ble 1 ie.bytes then
        srcK size x h fun ys =>
          match s with
          | .nils =>
            match ys with
            | [] => K .nils h
            | y :: ys => (y :: ys).length * ie.bytes ≤ 140737488355328 ∧ K (.own nid (y :: ys).length) (setB h nid (some (.row e size true (y :: ys) 0)))
          | .own id n =>
            match getB h id with
            | some (.row e' k true xs fz) => n = xs.length ∧ (bif Nat.beq e' e && Nat.beq k size then (xs.length + ys.length) * ie.bytes ≤ 140737488355328 ∧ K (.own id (xs ++ ys).length) (setB h id (some (.row e' k true (xs ++ ys) fz))) else False)
            | _ => False
          | _ => False
      else False
    | none => False
  | none => False

section
variable {Tb : Tab} {E : Env Tb} {w : World} {F : Foot} {β : Nat → Nat} {h : Hp}

theorem grow_ok {G : Nat} {w' : World} (hs : SimH G w F β h) (hG : G ≤ w.heap.size) {id : Nat} {e : TypeId} {k : Nat} {xs ys : List PV} {fz c : Nat} {arr : Array Value} (hb : getB h id = some (.row e k true xs fz)) (hy : ys ≠ [])
    (hw : w'.heap = w.heap.push (.cells arr e)) (ht : w'.tape = w.tape) (ho : w'.os = w.os) (hu : w'.output = w.output) (hsz : arr.size = c * k) (hc : (xs ++ ys).length ≤ c) (hrow : RowIn w F β h k true (xs ++ ys) arr) :
    SimH G w' F (fun i => if i = id then w.heap.size else β i) (setB h id (some (.row e k true (xs ++ ys) fz))) ∧
    Evo h.length w F β h w' F (fun i => if i = id then w.heap.size else β i) (setB h id (some (.row e k true (xs ++ ys) fz))) ∧
    Rep w' F (fun i => if i = id then w.heap.size else β i) (setB h id (some (.row e k true (xs ++ ys) fz))) (.own id (xs ++ ys).length) (.slice (some ⟨w.heap.size, 0, none⟩) (xs ++ ys).length c) := by
  have hlt := getB_lt h id _ hb
  have hlen : xs.length < (xs ++ ys).length := by
    have := List.length_pos_iff.2 hy
    simp; omega
  have hheap : ∀ b, b < w.heap.size → w'.heap[b]? = w.heap[b]? := fun b hb' => by
    rw [hw]; simp [Array.getElem?_push, Nat.ne_of_lt hb']
  have hnew : w'.heap[w.heap.size]? = some (.cells arr e) := by rw [hw]; simp
  have hkeep : Keeps w F w' F := fun b i hf => ⟨hf, cell?_of_heap (hheap b (hs.fin b i hf))⟩
  have hβ : ∀ i, i ≠ id → (if i = id then w.heap.size else β i) = β i := fun i hi => if_neg hi
  have hev : HEv w β h w' (fun i => if i = id then w.heap.size else β i) (setB h id (some (.row e k true (xs ++ ys) fz))) := by
    refine ⟨fun j cs fz' hb' => ?_, fun j el k' pr xs' fz' hb' => ?_⟩
    · have he : j ≠ id := fun he => by subst he; rw [hb] at hb'; cases hb'
      exact ⟨⟨_, _, by rw [getB_setB_ne _ _ _ _ he]; exact hb'⟩, hβ j he⟩
    · by_cases he : j = id
      · subst he; rw [hb] at hb'; cases hb'
        exact ⟨_, _, _, getB_setB_self _ _ _ hlt, Nat.le_of_lt hlen, fun h' => absurd h' (by omega)⟩
      · refine ⟨pr, xs', fz', by rw [getB_setB_ne _ _ _ _ he]; exact hb', Nat.le_refl _, fun _ => ⟨hβ j he, fun a ha => ⟨a, ?_, rfl⟩⟩⟩
        rw [hheap _ (hs.blk _ _ hb').lt]; exact ha
  have back : ∀ j bj, getB (setB h id (some (.row e k true (xs ++ ys) fz))) j = some bj → ∃ b0, getB h j = some b0 := fun j bj hj => by
    by_cases he : j = id
    · exact ⟨_, he ▸ hb⟩
    · exact ⟨bj, by rwa [getB_setB_ne _ _ _ _ he] at hj⟩
  have hblk := hs.blk _ _ hb
  have hnoF : ∀ i, ¬ F w.heap.size i := fun i hi => absurd (hs.fin _ _ hi) (Nat.lt_irrefl _)
  refine ⟨⟨fun j bj hj => ?_, fun i j bi bj hi hj he => ?_, fun x i hf => ?_, fun j bj hj => ?_, hs.glo⟩, ?_, ?_⟩
  · by_cases he : j = id
    · subst he; rw [getB_setB_self _ _ _ hlt] at hj; injection hj with hj; subst hj
      obtain ⟨_, _, hk0, _, _, _, hfz⟩ := hblk
      refine ⟨arr, by simp only [if_true]; exact hnew, hk0, by rw [hsz]; exact Nat.mul_le_mul_right _ hc, fun j x hx => ⟨(hrow j x hx).1, fun i c' hi => ?_⟩, fun i hi => by simp only [if_true] at hi; exact absurd hi (hnoF i), by omega⟩
      obtain ⟨U, hU, h1, hp⟩ := (hrow j x hx).2 i c' hi
      exact ⟨U, hU, h1, by simpa using RepP.mono hkeep _ _ (by simpa using hp)⟩
    · rw [getB_setB_ne _ _ _ _ he] at hj
      exact BlkRep.of hkeep hev (hβ j he) (hheap _ (hs.blk _ _ hj).lt) (fun _ hf => hf) (hs.blk _ _ hj)
  · obtain ⟨b1, g1⟩ := back i bi hi; obtain ⟨b2, g2⟩ := back j bj hj
    have l1 := (hs.blk _ _ g1).lt
    have l2 := (hs.blk _ _ g2).lt
    by_cases e1 : i = id <;> by_cases e2 : j = id
    · omega
    · rw [if_pos e1, if_neg e2] at he; omega
    · rw [if_neg e1, if_pos e2] at he; omega
    · rw [if_neg e1, if_neg e2] at he; exact hs.inj i j _ _ g1 g2 he
  · have := hs.fin x i hf
    rw [hw]; simp; omega
  · obtain ⟨b1, g1⟩ := back j bj hj
    split
    · exact hG
    · exact hs.lo _ _ g1
  · refine ⟨by rw [hw]; simp, fun x hx _ => hheap x hx, ht, ho, hu, hkeep, fun _ _ hf => .inl hf, fun x ⟨j, bj, hj, he⟩ => ?_, fun j cs fz _ hb => hev.box j cs fz hb, fun j el k pr xs fz _ hb => hev.row j el k pr xs fz hb⟩
    obtain ⟨b1, g1⟩ := back j bj hj
    change (if j = id then w.heap.size else β j) = x at he
    by_cases e1 : j = id
    · exact .inr (by rw [if_pos e1] at he; omega)
    · exact .inl ⟨j, b1, g1, by rw [if_neg e1] at he; exact he⟩
  · simp only [Rep]
    exact ⟨_, c, rfl, hc, e, k, true, _, fz, getB_setB_self _ _ _ hlt, Nat.le_refl _, fun _ => ⟨by simp, arr, by simp only [if_true]; exact hnew, hsz⟩⟩

/-- What a source of 'append' is. -/
theorem src_ok {size : Nat} {x : PV} {X : Value} {K : List PV → Prop} (hk : srcK size x h K) (hpos : 0 < size) (hs : SimH E.G w F β h) (hr : Rep w F β h x X) :
    ∃ (ys : List PV) (A : Option Addr) (c : Nat) (news : List Value), K ys ∧ X = .slice A ys.length c ∧ news.length = ys.length * size ∧ RowIn w F β h size true ys news.toArray ∧ (∀ v ∈ news, v.oneCell' = true) ∧
      (ys ≠ [] → ∃ b off, A = some ⟨b, off, none⟩ ∧ ∀ (j : Nat) (u : Value), news[j]? = some u → w.cell? ⟨b, off + j, none⟩ = some u) := by
  -- from cells that lie in a row
  have key : ∀ (ys : List PV) (b off : Nat), (∀ (j : Nat) (y : PV), ys[j]? = some y → y.cells.length = size ∧ ∀ (i : Nat) (c : PV), y.cells[i]? = some c → ∃ U, w.cell? ⟨b, off + (j * size + i), none⟩ = some U ∧ U.oneCell' = true ∧ RepP w F c U) →
      ∃ news : List Value, news.length = ys.length * size ∧ RowIn w F β h size true ys news.toArray ∧ (∀ v ∈ news, v.oneCell' = true) ∧ ∀ (j : Nat) (u : Value), news[j]? = some u → w.cell? ⟨b, off + j, none⟩ = some u := by
    intro ys b off hc
    have hex : ∀ m, m < ys.length * size → ∃ U, w.cell? ⟨b, off + m, none⟩ = some U ∧ U.oneCell' = true := fun m hm => by
      have hj : m / size < ys.length := Nat.div_lt_of_lt_mul (by rw [Nat.mul_comm]; exact hm)
      obtain ⟨h1, h2⟩ := hc (m / size) _ (List.getElem?_eq_getElem hj)
      have hi : m % size < (ys[m / size]).cells.length := by rw [h1]; exact Nat.mod_lt _ hpos
      obtain ⟨U, hU, ho, _⟩ := h2 (m % size) _ (List.getElem?_eq_getElem hi)
      refine ⟨U, ?_, ho⟩
      rwa [Nat.mul_comm (m / size) size, Nat.div_add_mod] at hU
    refine ⟨(List.range (ys.length * size)).map fun m => (w.cell? ⟨b, off + m, none⟩).getD undef, by simp, fun j y hy => ?_, fun v hv => ?_, fun j u hu => ?_⟩
    · obtain ⟨h1, h2⟩ := hc j y hy
      refine ⟨h1, fun i c hi => ?_⟩
      obtain ⟨U, hU, ho, hp⟩ := h2 i c hi
      have hik : i < size := by rw [← h1]; exact (List.getElem?_eq_some_iff.1 hi).1
      have hjl : j < ys.length := (List.getElem?_eq_some_iff.1 hy).1
      have hlt : j * size + i < ys.length * size := by
        have : (j + 1) * size ≤ ys.length * size := Nat.mul_le_mul_right _ hjl
        rw [Nat.succ_mul] at this; omega
      exact ⟨U, by simp [List.getElem?_range hlt, hU], ho, by simpa using hp⟩
    · obtain ⟨m, hm, rfl⟩ := List.mem_map.1 hv
      obtain ⟨U, hU, ho⟩ := hex m (List.mem_range.1 hm)
      simpa [hU] using ho
    · have hjl : j < ys.length * size := by
        have := (List.getElem?_eq_some_iff.1 hu).1
        simpa using this
      obtain ⟨U, hU, _⟩ := hex j hjl
      simp [List.getElem?_range hjl, hU] at hu
      rw [hU, hu]
  cases x <;> simp only [srcK] at hk <;> try exact hk.elim
  case own id m =>
    split at hk
    · rename_i e k xs fz hb
      obtain ⟨rfl, hk⟩ := hk
      cases hkk : Nat.beq k size with
      | false => rw [hkk] at hk; exact hk.elim
      | true =>
        rw [hkk] at hk
        simp only [cond_true] at hk
        obtain rfl := Nat.eq_of_beq_eq_true hkk
        simp only [Rep] at hr
        obtain ⟨A, c, rfl, hle, e1, k1, pr1, xs1, fz1, hb1, _, hr⟩ := hr
        rw [hb] at hb1; cases hb1
        obtain ⟨rfl, _⟩ := hr rfl
        obtain ⟨arr, harr, _, _, hrow, _⟩ := hs.blk _ _ hb
        obtain ⟨news, n1, n2, n3, n4⟩ := key xs (β id) 0 (fun j y hy => ⟨(hrow j y hy).1, fun i c hi => by
          obtain ⟨U, hU, ho, hp⟩ := (hrow j y hy).2 i c hi
          exact ⟨U, by rw [Nat.zero_add, cell?_cells harr]; exact hU, ho, by simpa using hp⟩⟩)
        exact ⟨xs, _, c, news, hk, rfl, n1, n2, n3, fun _ => ⟨_, _, rfl, n4⟩⟩
    · exact hk.elim
  case sl xs =>
    obtain ⟨hsz, hk⟩ := hk
    simp only [Rep, RepP] at hr
    obtain ⟨A, c, rfl, hle, hr⟩ := hr
    rcases hr with rfl | ⟨b, off, k, hk0, rfl, hrow⟩
    · exact ⟨[], A, c, [], hk, rfl, by simp, fun j x hx => by simp at hx, by simp, fun h' => absurd rfl h'⟩
    · rw [RepRow_iff] at hrow
      obtain ⟨news, n1, n2, n3, n4⟩ := key xs b off (fun j y hy => by
        have h1 := hsz y (List.mem_of_getElem? hy)
        obtain ⟨h2, h3⟩ := hrow j y hy
        obtain rfl : k = size := by omega
        refine ⟨h1, fun i c hi => ?_⟩
        obtain ⟨_, U, hU, ho, hp⟩ := h3 i c hi
        exact ⟨U, by rw [← Nat.add_assoc]; exact hU, ho, hp⟩)
      exact ⟨xs, _, c, news, hk, rfl, n1, n2, n3, fun _ => ⟨b, off, rfl, n4⟩⟩
  case nils =>
    simp only [Rep, RepP] at hr
    obtain ⟨A, rfl⟩ := hr
    exact ⟨[], A, 0, [], hk, rfl, by simp, fun j x hx => by simp at hx, by simp, fun h' => absurd rfl h'⟩

theorem run_append_empty {t e : TypeId} (ht : E.P.underlying t = some (.slice e)) {ie : TyI} (hie : E.ty e = some ie) (ty : TypeId) (A B : Option Addr) (n c d : Nat) (hle : n ≤ c) (w : World) :
    (Builtin.append_ #[t, t] ty #[.slice A n c, .slice B 0 d]).run E.P w = .ok (.slice A n c) w := by
  cases A <;> cases B <;> simp [Builtin.append_, run_underlying ht, run_sizeOf' hie, Builtin.lenOf, hle, Builtin.firstCells, loadCells, loadCellsFrom, storeCells]

theorem same_heap {G : Nat} {w' : World} (hs : SimH G w F β h) (hw : w'.heap = w.heap) (ht : w'.tape = w.tape) (ho : w'.os = w.os) (hu : w'.output = w.output) : SimH G w' F β h ∧ Evo h.length w F β h w' F β h := by
  have hkeep : Keeps w F w' F := fun b i hf => ⟨hf, cell?_of_heap (by rw [hw])⟩
  have hev : HEv w β h w' β h := ⟨fun id cs fz hb => ⟨⟨cs, fz, hb⟩, rfl⟩, fun id e k pr xs fz hb => ⟨pr, xs, fz, hb, Nat.le_refl _, fun _ => ⟨rfl, fun arr ha => ⟨arr, by rw [hw]; exact ha, rfl⟩⟩⟩⟩
  exact ⟨⟨fun id b hb => BlkRep.of hkeep hev rfl (by rw [hw]) (fun _ hf => hf) (hs.blk id b hb), hs.inj, fun b i hf => by rw [hw]; exact hs.fin b i hf, hs.lo, hs.glo⟩,
    Nat.le_of_eq (by rw [hw]), fun b _ _ => by rw [hw], ht, ho, hu, hkeep, fun _ _ hf => .inl hf, fun _ h => .inl h, fun j cs fz _ hb => hev.box j cs fz hb, fun j el k pr xs fz _ hb => hev.row j el k pr xs fz hb⟩

theorem RowIn.mono {w' : World} {F' : Foot} {β' : Nat → Nat} {h' : Hp} {k : Nat} {pr : Bool} {xs : List PV} {arr : Array Value} (hkeep : Keeps w F w' F') (hev : HEv w β h w' β' h') (hr : RowIn w F β h k pr xs arr) : RowIn w' F' β' h' k pr xs arr :=
  fun j x hx => ⟨(hr j x hx).1, fun i c hi => by
    obtain ⟨U, hU, ho, hp⟩ := (hr j x hx).2 i c hi
    refine ⟨U, hU, ho, ?_⟩
    cases pr with
    | true => exact by simpa using RepP.mono hkeep _ _ (by simpa using hp)
    | false => exact by simpa using Rep.mono hkeep hev _ _ (by simpa using hp)⟩

theorem lt_row {k n j i : Nat} (hj : j < n) (hi : i < k) : j * k + i < n * k := by
  have : (j + 1) * k ≤ n * k := Nat.mul_le_mul_right _ hj
  rw [Nat.succ_mul] at this; omega

theorem rowIn_append {k : Nat} {xs ys : List PV} {a b arr : Array Value} (hx : RowIn w F β h k true xs a) (hy : RowIn w F β h k true ys b) (ha : ∀ m, m < xs.length * k → arr[m]? = a[m]?) (hb : ∀ m, m < ys.length * k → arr[xs.length * k + m]? = b[m]?) :
    RowIn w F β h k true (xs ++ ys) arr := fun j x hj => by
  by_cases hjl : j < xs.length
  · rw [List.getElem?_append_left hjl] at hj
    refine ⟨(hx j x hj).1, fun i c hi => ?_⟩
    obtain ⟨U, hU, h1⟩ := (hx j x hj).2 i c hi
    have hik : i < k := by rw [← (hx j x hj).1]; exact (List.getElem?_eq_some_iff.1 hi).1
    exact ⟨U, by rw [ha _ (lt_row hjl hik)]; exact hU, h1⟩
  · rw [List.getElem?_append_right (by omega)] at hj
    refine ⟨(hy _ x hj).1, fun i c hi => ?_⟩
    obtain ⟨U, hU, h1⟩ := (hy _ x hj).2 i c hi
    have hik : i < k := by rw [← (hy _ x hj).1]; exact (List.getElem?_eq_some_iff.1 hi).1
    have hjl' : j - xs.length < ys.length := (List.getElem?_eq_some_iff.1 hj).1
    refine ⟨U, ?_, h1⟩
    have e : j * k + i = xs.length * k + ((j - xs.length) * k + i) := by
      obtain ⟨d, rfl⟩ : ∃ d, j = xs.length + d := ⟨j - xs.length, by omega⟩
      rw [Nat.add_sub_cancel_left, Nat.add_mul]; omega
    rw [e, hb _ (lt_row hjl' hik)]; exact hU

theorem size_zeroC (z : Array Value) (n : Nat) : (Builtin.zeroCells z n).size = n * z.size := by simp [Builtin.zeroCells]

set_option maxHeartbeats 1000000 in
theorem append_sound {t ty : TypeId} {s x : PV} {S X : Value} {K : PV → Hp → Prop} {nid : Nat} (hk : appendK E t s x h nid K) (hs : SimH E.G w F β h) (hg : E.GI w) (hn : nid < h.length) (hfree : getB h nid = none) (hrs : Rep w F β h s S) (hrx : Rep w F β h x X) :
    VGoal E (Builtin.append_ #[t, t] ty #[S, X]) w F β h K := by
  unfold appendK at hk
  split at hk
  · rename_i e size he
    obtain ⟨it, ie, hit, hu, hie, hsz⟩ := elemTy_some he
    have ht : E.P.underlying t = some (.slice e) := by rw [ty_und hit, hu]
    simp only [hie] at hk
    cases hp1 : (Nat.ble 1 size && Nat.ble 1 ie.bytes) with
    | false => rw [hp1] at hk; exact hk.elim
    | true =>
      rw [hp1] at hk
      simp only [cond_true] at hk
      rw [Bool.and_eq_true] at hp1
      have hpos := Nat.le_of_ble_eq_true hp1.1
      have hpb := Nat.le_of_ble_eq_true hp1.2
      have hk0 := hk
      clear hk
      obtain ⟨ys, A, c, news, hk, rfl, hnl, hnrow, hn1, hA⟩ := src_ok hk0 hpos hs hrx
      clear hk0
      obtain ⟨inf, hinf, hisz, hiby, hiz⟩ := ty_info hie
      cases s <;> simp only at hk <;> try exact hk.elim
      case nils =>
        simp only [Rep, RepP] at hrs
        obtain ⟨S0, rfl⟩ := hrs
        cases ys with
        | nil =>
          simp only at hk
          refine vg_pure hs (by simpa using run_append_empty ht hie ty S0 A 0 0 c (Nat.le_refl _) w) hk (by simp [Rep, RepP])
        | cons y ys =>
          simp only at hk
          obtain ⟨hbd, hk⟩ := hk
          obtain ⟨b, off, rfl, hcell⟩ := hA (by simp)
          have hcell' : ∀ (j : Nat) (u : Value), news[j]? = some u → w.cell? ((⟨b, off, none⟩ : Addr).add j) = some u := fun j u hj => by rw [add_addr]; exact hcell j u hj
          have hrun : (Builtin.append_ #[t, t] ty #[.slice S0 0 0, .slice (some ⟨b, off, none⟩) (y :: ys).length c]).run E.P w =
              .ok (.slice (some ⟨w.heap.size, 0, none⟩) (y :: ys).length (grownCap w (y :: ys).length 0 e)) (w.drew.alloc (.cells (news.toArray ++ Builtin.zeroCells ie.zero.cells (grownCap w (y :: ys).length 0 e - (y :: ys).length)) e)) := by
            have h63 : ((y :: ys).length : Int) ≤ 9223372036854775807 := by
              have : (y :: ys).length ≤ (y :: ys).length * ie.bytes := Nat.le_mul_of_pos_right _ hpb
              omega
            cases S0 with
            | none => exact run_append_nil w t ty e inf ie.zero ht hinf hiz _ _ c news (by rw [hisz, hsz]; exact hnl) hcell' (by simp) h63 (by rw [hiby]; omega)
            | some a0 =>
              have := run_append_grow w t ty e inf ie.zero ht hinf hiz a0 0 0 [] (by simp) (by simp) _ (y :: ys).length c news (by rw [hisz, hsz]; exact hnl) hcell' (by simp) (by simpa using h63) (by rw [hiby, Nat.zero_add]; exact growslice_fits (by simp) hbd)
              simpa using this
          obtain ⟨hs1, he1⟩ := same_heap (w' := w.drew) hs rfl rfl rfl rfl
          have hcap := grownCap_ge w (y :: ys).length 0 e
          have hzs : ie.zero.cells.size = size := by rw [(E.tyz hie).1, hsz]
          obtain ⟨w', β', hw', r1, r2, r3⟩ := alloc_row hs1 (by show E.G ≤ w.heap.size; exact E.gsz hg) hn hfree e (k := size) (pr := true) (xs := y :: ys) (arr := news.toArray ++ Builtin.zeroCells ie.zero.cells (grownCap w (y :: ys).length 0 e - (y :: ys).length)) (c := grownCap w (y :: ys).length 0 e) hpos (by
            rw [Array.size_append, size_zeroC, hzs, List.size_toArray, hnl, ← Nat.add_mul]; congr 1; omega) hcap (fun j x hx => by
            obtain ⟨q1, q2⟩ := (hnrow.mono he1.cell he1.hev) j x hx
            refine ⟨q1, fun i c hi => ?_⟩
            obtain ⟨U, hU, q3⟩ := q2 i c hi
            refine ⟨U, ?_, q3⟩
            have : j * size + i < news.toArray.size := (Array.getElem?_eq_some_iff.1 hU).1
            rw [Array.getElem?_append_left this]; exact hU)
          exact ⟨_, w', F, β', _, _, by rw [hrun, hw']; rfl, hk, r1, r2, he1.trans' r3⟩
      case own id n =>
        split at hk
        · rename_i e' k xs fz hb
          obtain ⟨rfl, hk⟩ := hk
          cases hee : (Nat.beq e' e && Nat.beq k size) with
          | false => rw [hee] at hk; exact hk.elim
          | true =>
            rw [hee] at hk
            simp only [cond_true] at hk
            rw [Bool.and_eq_true] at hee
            obtain rfl := Nat.eq_of_beq_eq_true hee.1
            obtain rfl := Nat.eq_of_beq_eq_true hee.2
            obtain ⟨hbd, hk⟩ := hk
            have hrs' := hrs
            simp only [Rep] at hrs
            obtain ⟨A0, c0, rfl, hle, e1, k1, pr1, xs1, fz1, hb1, _, hrs⟩ := hrs
            rw [hb] at hb1; cases hb1
            have hid := getB_lt _ _ _ hb
            obtain ⟨rfl, arr0, harr0, hsz0⟩ := hrs rfl
            obtain ⟨arr, harr, hk0, hasz, hrow, hF, hfz⟩ := hs.blk _ _ hb
            have h01 : arr0 = arr := by rw [harr] at harr0; injection harr0 with q; injection q with q1; exact q1.symm
            rw [h01] at hsz0
            clear harr0 h01
            by_cases hys : ys = []
            · subst hys
              simp only [List.append_nil] at hk
              have hset : ∀ (h : Hp) (id : Nat) (b : Blk), getB h id = some b → setB h id (some b) = h := by
                intro h
                induction h with
                | nil => intro id b _; rfl
                | cons x h ih =>
                  intro id b hb
                  cases id with
                  | zero => simp only [getB] at hb; simp [setB, hb]
                  | succ n => simp only [getB] at hb; simp [setB, ih n b hb]
              rw [hset _ _ _ hb] at hk
              exact vg_pure hs (run_append_empty ht hie ty _ A xs.length c0 c hle w) hk hrs'
            · obtain ⟨b, off, rfl, hcell⟩ := hA hys
              have hcell' : ∀ (j : Nat) (u : Value), news[j]? = some u → w.cell? ((⟨b, off, none⟩ : Addr).add j) = some u := fun j u hj => by rw [add_addr]; exact hcell j u hj
              have hlen : (xs ++ ys).length = xs.length + ys.length := by simp
              by_cases hroom : xs.length + ys.length ≤ c0
              · have hmulc : (xs.length + ys.length) * k ≤ c0 * k := Nat.mul_le_mul_right _ hroom
                have hmul2 : (xs.length + ys.length) * k = xs.length * k + ys.length * k := Nat.add_mul _ _ _
                have hrun := run_append_room w t ty e' inf ht hinf (β id) xs.length c0 arr harr ⟨b, off, none⟩ ys.length c news (by rw [hisz, hsz]; exact hnl) hcell' hn1 hroom (by rw [hisz, hsz, hnl]; omega)
                rw [hisz, hsz] at hrun
                have hget : ∀ m, (arr.toList.take (xs.length * k) ++ news ++ arr.toList.drop (xs.length * k + news.length)).toArray[m]? = if m < xs.length * k then arr[m]? else if m < xs.length * k + news.length then news[m - xs.length * k]? else arr[m]? := fun m => by
                  have := get_splice arr news.toArray (xs.length * k) m (by simp [hnl]; omega)
                  simpa using this
                have hnsz : (arr.toList.take (xs.length * k) ++ news ++ arr.toList.drop (xs.length * k + news.length)).toArray.size = arr.size := size_splice arr (xs.length * k) news (by rw [hnl]; omega)
                have hmain := write_ok (w' := w.setRow (β id) (arr.toList.take (xs.length * k) ++ news ++ arr.toList.drop (xs.length * k + news.length)).toArray) hs hb (b' := .row e' k true (xs ++ ys) fz) (by simp)
                  (fun m hm => setRow_other w _ m _ hm) rfl rfl rfl (.inr ⟨e', k, true, xs, fz, true, _, fz, rfl, rfl, by simp, fun a0 h0 => by
                    rw [harr] at h0; cases h0
                    exact ⟨_, setRow_heap w _ arr _ e' _ harr, hnsz⟩⟩)
                  (fun m hf => by
                    rw [cell_setRow_same w _ m arr _ e' _ harr, cell?_cells harr, hget, if_pos]
                    have h1 := hF m hf
                    have h2 : fz * k ≤ xs.length * k := Nat.mul_le_mul_right _ hfz
                    omega)
                  (fun hkeep hev => by
                    refine ⟨_, setRow_heap w _ arr _ e' _ harr, hk0, by rw [hnsz, hlen]; omega, ?_, hF, by simp; omega⟩
                    refine rowIn_append (hrow.mono hkeep hev) (hnrow.mono hkeep hev) (fun m hm => by rw [hget, if_pos hm]) (fun m hm => ?_)
                    rw [hget, if_neg (by omega), if_pos (by rw [hnl]; omega)]
                    simp)
                refine ⟨_, _, F, β, _, _, hrun, hk, ?_, hmain.1, hmain.2⟩
                simp only [Rep]
                exact ⟨_, c0, by rw [hlen], by rw [hlen]; exact hroom, e', k, true, _, fz, getB_setB_self _ _ _ hid, Nat.le_refl _, fun _ => ⟨rfl, _, setRow_heap w _ arr _ e' _ harr, by rw [hnsz]; exact hsz0⟩⟩
              · have hcap := grownCap_ge w (xs.length + ys.length) c0 e'
                have holds : ∀ (j : Nat) (v : Value), (arr.toList.take (xs.length * k))[j]? = some v → w.cell? ((⟨β id, 0, none⟩ : Addr).add j) = some v := fun j v hj => by
                  rw [List.getElem?_take] at hj
                  split at hj
                  · rw [add_addr, Nat.zero_add, cell?_cells harr]; simpa using hj
                  · cases hj
                have hol : (arr.toList.take (xs.length * k)).length = xs.length * k := by simp; omega
                have hrun := run_append_grow w t ty e' inf ie.zero ht hinf hiz ⟨β id, 0, none⟩ xs.length c0 (arr.toList.take (xs.length * k)) (by rw [hisz, hsz]; exact hol) holds ⟨b, off, none⟩ ys.length c news (by rw [hisz, hsz]; exact hnl) hcell'
                  (by omega) (by have h9 : xs.length + ys.length ≤ (xs.length + ys.length) * ie.bytes := Nat.le_mul_of_pos_right _ hpb; omega) (by rw [hiby]; exact growslice_fits (by omega) hbd)
                obtain ⟨hs1, he1⟩ := same_heap (w' := w.drew) hs rfl rfl rfl rfl
                have hzs : ie.zero.cells.size = k := by rw [(E.tyz hie).1, hsz]
                obtain ⟨r1, r2, r3⟩ := grow_ok (w := w.drew) (w' := w.drew.alloc (.cells ((arr.toList.take (xs.length * k)).toArray ++ news.toArray ++ Builtin.zeroCells ie.zero.cells (grownCap w (xs.length + ys.length) c0 e' - (xs.length + ys.length))) e')) hs1 (by show E.G ≤ w.heap.size; exact E.gsz hg) hb hys rfl rfl rfl rfl (c := grownCap w (xs.length + ys.length) c0 e')
                  (by rw [Array.size_append, Array.size_append, size_zeroC, hzs, List.size_toArray, List.size_toArray, hnl, hol, ← Nat.add_mul, ← Nat.add_mul]; congr 1; omega) (by rw [hlen]; exact hcap)
                  (by
                    refine rowIn_append (hrow.mono he1.cell he1.hev) (hnrow.mono he1.cell he1.hev) (fun m hm => ?_) (fun m hm => ?_)
                    · rw [Array.append_assoc, Array.getElem?_append_left (by simp; omega)]
                      simp [hm]
                    · rw [Array.append_assoc, Array.getElem?_append_right (by rw [List.size_toArray, hol]; omega), List.size_toArray, hol, Nat.add_sub_cancel_left, Array.getElem?_append_left (by rw [List.size_toArray, hnl]; exact hm)])
                refine ⟨_, _, F, _, _, _, hrun, hk, ?_, r1, he1.trans' r2⟩
                rw [hlen] at r3 ⊢
                exact r3
        · exact hk.elim
  · exact hk.elim
end
end Go.Px

set_option linter.unusedVariables false
set_option linter.unusedSimpArgs false
set_option linter.unnecessarySimpa false
namespace Go.Px
open Go
section
variable {Tb : Tab} {E : Env Tb} {w : World} {F : Foot} {β : Nat → Nat} {h : Hp}

theorem toList_str (l : List UInt8) : (⟨⟨l⟩⟩ : ByteArray).toList = l := by
  have : (⟨⟨l⟩⟩ : ByteArray).toList = (⟨⟨l⟩⟩ : ByteArray).data.toList := by
    simp
  simpa using this

theorem intOp_run {op : BinOp} {k : IntKind} {a b : Int} {K : PV → Prop} (hk : intOpK op k a b K) (t : TypeId) (w : World) : ∃ v V, (binOp op t (.int k a) (.int k b)).run E.P w = .ok V w ∧ K v ∧ RepP w F v V := by
  cases op <;> simp only [intOpK] at hk <;> try exact hk.elim
  case add => obtain ⟨z, rfl, hk⟩ := hk; exact ⟨_, _, by simp [binOp, Op.intArith]; rfl, hk, by simp [RepP]⟩
  case sub => obtain ⟨z, rfl, hk⟩ := hk; exact ⟨_, _, by simp [binOp, Op.intArith]; rfl, hk, by simp [RepP]⟩
  case mul => obtain ⟨z, rfl, hk⟩ := hk; exact ⟨_, _, by simp [binOp, Op.intArith]; rfl, hk, by simp [RepP]⟩
  case quo => obtain ⟨h0, z, rfl, hk⟩ := hk; exact ⟨_, _, by simp [binOp, Op.intDiv, h0]; rfl, hk, by simp [RepP]⟩
  case rem => obtain ⟨h0, z, rfl, hk⟩ := hk; exact ⟨_, _, by simp [binOp, Op.intDiv, h0]; rfl, hk, by simp [RepP]⟩
  case and => obtain ⟨z, rfl, hk⟩ := hk; exact ⟨_, _, by simp [binOp, Op.intBits]; rfl, hk, by simp [RepP]⟩
  case or => obtain ⟨z, rfl, hk⟩ := hk; exact ⟨_, _, by simp [binOp, Op.intBits]; rfl, hk, by simp [RepP]⟩
  case xor => obtain ⟨z, rfl, hk⟩ := hk; exact ⟨_, _, by simp [binOp, Op.intBits]; rfl, hk, by simp [RepP]⟩
  case andNot => obtain ⟨z, rfl, hk⟩ := hk; exact ⟨_, .int k (k.wrap ((BitVec.ofInt k.bits a &&& ~~~BitVec.ofInt k.bits b).toNat : Int)), by simp only [binOp, Op.intBits, ne_eq, not_true_eq_false, if_false, Sem.run_pure], hk, by simp only [RepP]⟩
  case eql => exact ⟨_, .bool (decide (a = b)), by simp [binOp, Op.intCmp]; rfl, hk, by simp [RepP]⟩
  case neq => exact ⟨_, .bool (decide (a ≠ b)), by simp [binOp, Op.intCmp, bne]; rfl, hk, by simp [RepP]⟩
  case lss => exact ⟨_, _, by simp [binOp, Op.intCmp]; rfl, hk, by simp [RepP]⟩
  case leq => exact ⟨_, _, by simp [binOp, Op.intCmp]; rfl, hk, by simp [RepP]⟩
  case gtr => exact ⟨_, _, by simp [binOp, Op.intCmp]; rfl, hk, by simp [RepP]⟩
  case geq => exact ⟨_, _, by simp [binOp, Op.intCmp]; rfl, hk, by simp [RepP]⟩

theorem strOp_run {op : BinOp} {a b : List UInt8} {K : PV → Prop} (hk : strOpK op a b K) (t : TypeId) (w : World) : ∃ v V, (binOp op t (.string ⟨⟨a⟩⟩) (.string ⟨⟨b⟩⟩)).run E.P w = .ok V w ∧ K v ∧ RepP w F v V := by
  have e1 : ((a == b) : Bool) = decide (a = b) := by rw [Bool.eq_iff_iff]; simp
  cases op <;> simp only [strOpK] at hk <;> try exact hk.elim
  case add =>
    obtain ⟨hl, hk⟩ := hk
    have hn : ¬ (9223372036854775807 < ((a.length : Int) + (b.length : Int))) := by omega
    refine ⟨_, .string ⟨⟨a ++ b⟩⟩, ?_, hk, by simp [RepP]⟩
    simp only [binOp, Op.stringOp]
    have h1 : ¬ (((((⟨⟨a⟩⟩ : ByteArray).size + (⟨⟨b⟩⟩ : ByteArray).size : Nat) : Int)) > IntKind.i64.max) := by
      simp only [ByteArray.size, List.size_toArray]
      have : IntKind.i64.max = 9223372036854775807 := by decide
      rw [this]; simpa using hn
    rw [if_neg h1]
    simp only [Sem.run_pure]
    congr 2
  case eql => exact ⟨_, .bool (decide (a = b)), by simp only [binOp, Op.stringOp, toList_str, e1]; rfl, hk, by simp [RepP]⟩
  case neq => exact ⟨_, .bool (decide (a ≠ b)), by simp only [binOp, Op.stringOp, toList_str, e1]; simp, hk, by simp [RepP]⟩
  case lss => exact ⟨_, _, by simp only [binOp, Op.stringOp, toList_str]; rfl, hk, by simp [RepP]⟩
  case leq => exact ⟨_, _, by simp only [binOp, Op.stringOp, toList_str, e1]; rfl, hk, by simp [RepP]⟩
  case gtr => exact ⟨_, _, by simp only [binOp, Op.stringOp, toList_str, e1]; rfl, hk, by simp [RepP]⟩
  case geq => exact ⟨_, _, by simp only [binOp, Op.stringOp, toList_str]; rfl, hk, by simp [RepP]⟩

theorem eqCs_kinds {w : World} {F : Foot} {β : Nat → Nat} {h : Hp} : ∀ (as bs : List PV) (xs : List Value) (r : Bool), eqCs as bs = some r → ReL w F β h as xs → xs.map kV = as.map kOf
  | [], bs, xs, r, he, hx => by simp only [ReL] at hx; subst hx; rfl
  | a :: as, bs, xs, r, he, hx => by
    simp only [ReL] at hx
    obtain ⟨x, xs', rfl, hx1, hx2⟩ := hx
    cases bs with
    | nil => cases a <;> simp [eqCs] at he
    | cons b bs =>
      have main : ∀ (f : Bool → Bool), (eqCs as bs).map f = some r → xs'.map kV = as.map kOf := fun f hf => by
        obtain ⟨t, ht, _⟩ := Option.map_eq_some_iff.1 hf
        exact eqCs_kinds as bs xs' t ht hx2
      cases a <;> cases b <;> simp only [eqCs] at he <;> try (cases he; done)
      case int.int k a k' b =>
        simp only [Rep, RepP] at hx1
        subst hx1
        cases hk : decide (k = k') with
        | false => rw [hk] at he; cases he
        | true => rw [hk] at he; simp only [List.map_cons, kV, kOf, main _ he]
      case bool.bool =>
        simp only [Rep, RepP] at hx1
        subst hx1
        simp only [List.map_cons, kV, kOf, main _ he]
      case str.str =>
        simp only [Rep, RepP] at hx1
        subst hx1
        simp only [List.map_cons, kV, kOf, main _ he]
theorem eqCs_vals {w : World} {F : Foot} {β : Nat → Nat} {h : Hp} : ∀ (as bs : List PV) (xs ys : List Value) (r : Bool), eqCs as bs = some r → ReL w F β h as xs → ReL w F β h bs ys → eqVals xs ys = some r
  | [], bs, xs, ys, r, he, hx, hy => by
    cases bs with
    | nil => simp only [ReL] at hx hy; subst hx hy; simpa [eqCs, eqVals] using he
    | cons b bs => simp [eqCs] at he
  | a :: as, bs, xs, ys, r, he, hx, hy => by
    cases bs with
    | nil => cases a <;> simp [eqCs] at he
    | cons b bs =>
      simp only [ReL] at hx hy
      obtain ⟨x, xs', rfl, hx1, hx2⟩ := hx
      obtain ⟨y, ys', rfl, hy1, hy2⟩ := hy
      cases a <;> cases b <;> simp only [eqCs] at he <;> try (cases he; done)
      case int.int k a k' b =>
        simp only [Rep, RepP] at hx1 hy1
        subst hx1 hy1
        by_cases hk : k = k'
        · simp only [hk, decide_true, cond_true] at he
          obtain ⟨t, ht, rfl⟩ := Option.map_eq_some_iff.1 he
          have := eqCs_vals as bs xs' ys' t ht hx2 hy2
          simp only [eqVals, hk, if_true, this, Option.map_some, Option.some.injEq]
          congr 1
        · simp [hk] at he
      case bool.bool a b =>
        simp only [Rep, RepP] at hx1 hy1
        subst hx1 hy1
        obtain ⟨t, ht, rfl⟩ := Option.map_eq_some_iff.1 he
        have := eqCs_vals as bs xs' ys' t ht hx2 hy2
        simp only [eqVals, this, Option.map_some, Option.some.injEq]
        congr 1
      case str.str a b =>
        simp only [Rep, RepP] at hx1 hy1
        subst hx1 hy1
        obtain ⟨t, ht, rfl⟩ := Option.map_eq_some_iff.1 he
        have := eqCs_vals as bs xs' ys' t ht hx2 hy2
        simp only [eqVals, this, Option.map_some, Option.some.injEq]
        congr 1
        have e : ((⟨⟨a⟩⟩ : ByteArray) == ⟨⟨b⟩⟩) = ((⟨a⟩ : Array UInt8) == ⟨b⟩) := rfl
        rw [e, Bool.eq_iff_iff]
        simp
end
end Go.Px

set_option linter.unusedVariables false
set_option linter.unusedSimpArgs false
set_option linter.unnecessarySimpa false
namespace Go.Px
open Go
section
variable {Tb : Tab} {E : Env Tb} {w : World} {F : Foot} {β : Nat → Nat} {h : Hp}

theorem guard_plain {op : BinOp} {t : TypeId} {xo yo : Operand} {X Y : Value} (hX : ∀ a, X ≠ .agg a) (hn : X ≠ .nilIface ∨ isConstNil yo = true) : (eqGuard op t xo yo X Y).run E.P w = .ok () w := by
  unfold eqGuard
  split
  · rcases hn with hn | hn
    · cases X <;> first | (exact absurd rfl hn) | (exact absurd rfl (hX _)) | (cases Y <;> simp)
    · cases yo <;> simp [isConstNil] at hn
      rename_i v
      cases X <;> first | (exact absurd rfl (hX _)) | (cases Y <;> simp)
  · rcases hn with hn | hn
    · cases X <;> first | (exact absurd rfl hn) | (exact absurd rfl (hX _)) | (cases Y <;> simp)
    · cases yo <;> simp [isConstNil] at hn
      rename_i v
      cases X <;> first | (exact absurd rfl (hX _)) | (cases Y <;> simp)
  · simp

theorem guard_agg {op : BinOp} {t : TypeId} {xo yo : Operand} {a b : Array Value} (hq : E.P.eqGuardType E.P.depth t = false) : (eqGuard op t xo yo (.agg a) (.agg b)).run E.P w = .ok () w := by
  unfold eqGuard
  split
  · simp [hq]
  · simp [hq]
  · simp

theorem run_neq_sl (w : World) (t e : TypeId) (a : Option Addr) (n c : Nat) (h : E.P.underlying t = some (.slice e)) :
    (binOp .neq t (.slice a n c) (.slice none 0 0)).run E.P w = .ok (.bool (!a.isNone)) w := by
  simp only [binOp]
  simp [Op.equal, Op.maxDepth, Lib.run_equalIn_slice_nil w 9999 t e a n c 0 0 h]
theorem isSlice_und {d : TypeDesc} (h : isSlice d = true) : ∃ e, d = .slice e := by
  cases d <;> simp_all [isSlice]
theorem constNilS {yo : Operand} (h : isConstNilS yo = true) : yo = .const (.slice none 0 0) := by
  unfold isConstNilS at h
  split at h
  · rfl
  · cases h
theorem nilK_run {op : BinOp} {t : TypeId} {xo yo : Operand} {xs : List PV} {want : Bool} {K : PV → Prop} {A : Option Addr} {n c : Nat} {Y : Value} (hk : nilK E t yo xs want K) (hyc : ∀ v, yo = .const v → Y = v) (hA : A = none → xs = []) (ho : op = cond want .eql .neq) :
    ∃ b : Bool, (eqGuard op t xo yo (.slice A n c) Y).run E.P w = .ok () w ∧ (binOp op t (.slice A n c) Y).run E.P w = .ok (.bool b) w ∧ K (.bool b) := by
  unfold nilK at hk
  cases hc : isConstNilS yo with
  | false => rw [hc] at hk; exact hk.elim
  | true =>
    rw [hc] at hk
    have hy := hyc _ (constNilS hc)
    subst hy
    simp only [cond_true] at hk
    split at hk
    · rename_i i hi
      cases hs : isSlice i.und with
      | false => rw [hs] at hk; exact hk.elim
      | true =>
        rw [hs] at hk
        obtain ⟨e, he⟩ := isSlice_und hs
        have hu : E.P.underlying t = some (.slice e) := by rw [ty_und hi, he]
        cases want with
        | true =>
          subst ho
          refine ⟨A.isNone, guard_plain (by simp) (.inl (by simp)), Lib.run_eql_slice_nil w t e A n c 0 0 hu, hk _ fun hb => hA ?_⟩
          cases A <;> simp_all
        | false =>
          subst ho
          refine ⟨!A.isNone, guard_plain (by simp) (.inl (by simp)), run_neq_sl w t e A n c hu, hk _ fun hb => hA ?_⟩
          cases A <;> simp_all
    · exact hk.elim

theorem bin_sound {op : BinOp} {t : TypeId} {xo yo : Operand} {x y : PV} {X Y : Value} {K : PV → Hp → Prop} (hk : binK E op t xo yo x y fun v => K v h) (hs : SimH E.G w F β h) (hx : Rep w F β h x X) (hy : Rep w F β h y Y) (hyc : ∀ v, yo = .const v → Y = v) :
    VGoal E (do eqGuard op t xo yo X Y; binOp op t X Y) w F β h K := by
  have hx' := unkb_rep hx
  have hy' := unkb_rep hy
  have fin : ∀ {v : PV} {V : Value}, (eqGuard op t xo yo X Y).run E.P w = .ok () w → (binOp op t X Y).run E.P w = .ok V w → K v h → RepP w F v V → VGoal E (do eqGuard op t xo yo X Y; binOp op t X Y) w F β h K := by
    intro v V h1 h2 h3 h4
    exact vg_pure hs (by rw [Sem.run_bind, h1]; exact h2) h3 (RepP.toRep _ _ _ _ h4)
  have hbool : ∀ {i : TyI}, E.ty t = some i → i.und = .bool → E.P.underlying t = some .bool := fun hi hu => by rw [ty_und hi, hu]
  unfold binK at hk
  generalize unkb x = x1 at hk hx'
  generalize unkb y = y1 at hk hy'
  split at hk
  · -- shl
    simp only [Rep, RepP] at hx' hy'
    subst hx' hy'
    obtain ⟨h0, z, rfl, hk⟩ := hk
    have h1 := Int.not_lt.2 h0
    exact fin (guard_plain (by simp) (.inl (by simp))) (by simp only [binOp, Op.shift, h1, if_false]; rfl) hk (by simp [RepP])
  · simp only [Rep, RepP] at hx' hy'
    subst hx' hy'
    obtain ⟨h0, z, rfl, hk⟩ := hk
    have h1 := Int.not_lt.2 h0
    exact fin (guard_plain (by simp) (.inl (by simp))) (by simp only [binOp, Op.shift, h1, if_false]; rfl) hk (by simp [RepP])
  · rename_i k a k' b _ _
    simp only [Rep, RepP] at hx' hy'
    subst hx' hy'
    by_cases hkk : k = k'
    · subst hkk
      simp only [decide_true, cond_true] at hk
      obtain ⟨v, V, h1, h2, h3⟩ := intOp_run (E := E) (F := F) hk t w
      exact fin (guard_plain (by simp) (.inl (by simp))) h1 h2 h3
    · simp [hkk] at hk
  · simp only [Rep, RepP] at hx' hy'
    subst hx' hy'
    obtain ⟨v, V, h1, h2, h3⟩ := strOp_run (E := E) (F := F) hk t w
    exact fin (guard_plain (by simp) (.inl (by simp))) h1 h2 h3
  · simp only [Rep, RepP] at hx' hy'
    subst hx' hy'
    split at hk
    · rename_i i hi
      split at hk
      · rename_i hu
        refine fin (v := .bool _) (guard_plain (by simp) (.inl (by simp))) (run_eql_bool w t _ _ (hbool hi hu)) hk ?_
        simp only [RepP, Value.bool.injEq]
        rw [Bool.eq_iff_iff]; simp
      · exact hk.elim
    · exact hk.elim
  · rename_i a b
    simp only [Rep, RepP] at hx' hy'
    subst hx' hy'
    split at hk
    · rename_i i hi
      split at hk
      · rename_i hu
        refine fin (v := .bool _) (V := .bool (a != b)) (guard_plain (by simp) (.inl (by simp))) (by
          simp only [binOp]
          simp [run_equal_bool w t _ _ (hbool hi hu), bne]) hk ?_
        simp only [RepP, Value.bool.injEq]
        rw [Bool.eq_iff_iff]; simp
      · exact hk.elim
    · exact hk.elim
  · simp only [Rep] at hx' hy'
    obtain ⟨arr1, rfl, r1⟩ := hx'
    obtain ⟨arr2, rfl, r2⟩ := hy'
    split at hk
    · rename_i i hi
      cases hq : (E.eqt t (List.map kOf _) && Nat.beq _ i.size) with
      | false => rw [hq] at hk; exact hk.elim
      | true =>
        rw [hq] at hk
        simp only [cond_true] at hk
        rw [Bool.and_eq_true] at hq
        obtain ⟨i', hi', hg1, hg2⟩ := E.eqok hq.1
        rw [show (Tb ()).ty t = some i from hi] at hi'; cases hi'
        have hsz := Nat.eq_of_beq_eq_true hq.2
        have hl := ((ReL_iff _ _).1 r1).1
        simp only [Array.length_toList] at hl
        split at hk
        · rename_i r hr
          have hrun := hg2 arr1 arr2 w r (by omega) (eqCs_kinds _ _ _ _ hr r1) (eqCs_vals _ _ _ _ _ hr r1 r2)
          exact fin (v := .bool r) (V := .bool r) (guard_agg hg1) (by simp only [binOp]; simp [hrun]) hk (by simp [RepP])
        · exact hk.elim
    · exact hk.elim
  · simp only [Rep] at hx' hy'
    obtain ⟨arr1, rfl, r1⟩ := hx'
    obtain ⟨arr2, rfl, r2⟩ := hy'
    split at hk
    · rename_i i hi
      cases hq : (E.eqt t (List.map kOf _) && Nat.beq _ i.size) with
      | false => rw [hq] at hk; exact hk.elim
      | true =>
        rw [hq] at hk
        simp only [cond_true] at hk
        rw [Bool.and_eq_true] at hq
        obtain ⟨i', hi', hg1, hg2⟩ := E.eqok hq.1
        rw [show (Tb ()).ty t = some i from hi] at hi'; cases hi'
        have hsz := Nat.eq_of_beq_eq_true hq.2
        have hl := ((ReL_iff _ _).1 r1).1
        simp only [Array.length_toList] at hl
        split at hk
        · rename_i r hr
          have hrun := hg2 arr1 arr2 w r (by omega) (eqCs_kinds _ _ _ _ hr r1) (eqCs_vals _ _ _ _ _ hr r1 r2)
          exact fin (v := .bool (!r)) (V := .bool (!r)) (guard_agg hg1) (by simp only [binOp]; simp [hrun]) hk (by simp [RepP])
        · exact hk.elim
    · exact hk.elim
  · simp only [Rep, RepP] at hx' hy'
    obtain ⟨u, z, rfl⟩ := hx'
    subst hy'
    split at hk
    · rename_i i hi
      split at hk
      · rename_i ms hu
        have hm : E.P.underlying t = some (.interface (E.P.methodsAt t)) := by
          rw [ty_und hi, hu]; simp [Program.methodsAt, ty_und hi, hu]
        exact fin (v := .bool false) (V := .bool false) (guard_plain (by simp) (.inl (by simp))) (run_eql_held_nil w t u z hm) hk (by simp [RepP])
      · exact hk.elim
    · exact hk.elim
  · simp only [Rep, RepP] at hx' hy'
    obtain ⟨u, z, rfl⟩ := hx'
    subst hy'
    split at hk
    · rename_i i hi
      split at hk
      · rename_i ms hu
        have hm : E.P.underlying t = some (.interface (E.P.methodsAt t)) := by
          rw [ty_und hi, hu]; simp [Program.methodsAt, ty_und hi, hu]
        exact fin (v := .bool true) (V := .bool true) (guard_plain (by simp) (.inl (by simp))) (run_neq_held_nil w t u z hm) hk (by simp [RepP])
      · exact hk.elim
    · exact hk.elim
  · simp only [Rep, RepP] at hx' hy'
    subst hx' hy'
    cases hc : isConstNil yo with
    | false => rw [hc] at hk; exact hk.elim
    | true =>
      rw [hc] at hk
      simp only [cond_true] at hk
      split at hk
      · rename_i i hi
        split at hk
        · rename_i ms hu
          have hm : E.P.underlying t = some (.interface (E.P.methodsAt t)) := by
            rw [ty_und hi, hu]; simp [Program.methodsAt, ty_und hi, hu]
          exact fin (v := .bool true) (V := .bool true) (guard_plain (by simp) (.inr hc)) (run_eql_nil_nil w t hm) hk (by simp [RepP])
        · exact hk.elim
      · exact hk.elim
  · simp only [Rep, RepP] at hx' hy'
    subst hx' hy'
    cases hc : isConstNil yo with
    | false => rw [hc] at hk; exact hk.elim
    | true =>
      rw [hc] at hk
      simp only [cond_true] at hk
      split at hk
      · rename_i i hi
        split at hk
        · rename_i ms hu
          have hm : E.P.underlying t = some (.interface (E.P.methodsAt t)) := by
            rw [ty_und hi, hu]; simp [Program.methodsAt, ty_und hi, hu]
          exact fin (v := .bool false) (V := .bool false) (guard_plain (by simp) (.inr hc)) (run_neq_nil_nil w t hm) hk (by simp [RepP])
        · exact hk.elim
      · exact hk.elim
  · simp only [Rep, RepP] at hx' hy'
    obtain ⟨A, c, rfl, hc, hA⟩ := hx'
    obtain ⟨b, h1, h2, h3⟩ := nilK_run (xo := xo) hk hyc (A := A) (n := _) (c := c) (w := w) (by rintro rfl; exact hA.elim id (fun ⟨_, _, _, _, h, _⟩ => nomatch h)) rfl
    exact fin (v := .bool b) h1 h2 h3 (by simp [RepP])
  · simp only [Rep, RepP] at hx' hy'
    obtain ⟨A, c, rfl, hc, hA⟩ := hx'
    obtain ⟨b, h1, h2, h3⟩ := nilK_run (xo := xo) hk hyc (A := A) (n := _) (c := c) (w := w) (by rintro rfl; exact hA.elim id (fun ⟨_, _, _, _, h, _⟩ => nomatch h)) rfl
    exact fin (v := .bool b) h1 h2 h3 (by simp [RepP])
  · simp only [Rep, RepP] at hx' hy'
    obtain ⟨A, rfl⟩ := hx'
    obtain ⟨b, h1, h2, h3⟩ := nilK_run (xo := xo) hk hyc (A := A) (n := 0) (c := 0) (w := w) (fun _ => rfl) rfl
    exact fin (v := .bool b) h1 h2 h3 (by simp [RepP])
  · simp only [Rep, RepP] at hx' hy'
    obtain ⟨A, rfl⟩ := hx'
    obtain ⟨b, h1, h2, h3⟩ := nilK_run (xo := xo) hk hyc (A := A) (n := 0) (c := 0) (w := w) (fun _ => rfl) rfl
    exact fin (v := .bool b) h1 h2 h3 (by simp [RepP])
  · exact hk.elim
end
end Go.Px

set_option linter.unusedVariables false
set_option linter.unusedSimpArgs false
set_option linter.unnecessarySimpa false
namespace Go.Px
open Go

def bndK (o : Option PV) (d : Nat) (K : Nat → Prop) : Prop :=
  match o with
  | none => K d
  | some (.int _ i) => 0 ≤ i ∧ K i.toNat
  | _ => False

/-- An array of one-cell pure elements in a box of one's own. -/
def arrCs {Tb : Tab} (E : Env Tb) (t : TypeId) (off : Nat) (h : Hp) (id : Nat) : Option (List PV) :=
  match E.ty t with
  | some ti => match ti.und with
    | .array len e => match E.ty e with
      | some ei => match getB h id with
        | some (.box cs _) => bif (Nat.beq ei.size 1 && Nat.beq off 0) && (Nat.beq cs.length len && (notMap cs && cs.all pureC)) then some cs else none
        | _ => none
      | none => none
    | _ => none
  | none => none
theorem arrCs_some {Tb : Tab} {E : Env Tb} {t : TypeId} {off : Nat} {h : Hp} {id : Nat} {cs : List PV} (hc : arrCs E t off h id = some cs) :
    ∃ ti e ei fz, E.ty t = some ti ∧ ti.und = .array cs.length e ∧ E.ty e = some ei ∧ ei.size = 1 ∧ off = 0 ∧ getB h id = some (.box cs fz) ∧ notMap cs = true ∧ cs.all pureC = true := by
  unfold arrCs at hc
  split at hc
  · rename_i ti hti
    split at hc
    · rename_i len e hu
      split at hc
      · rename_i ei hei
        split at hc
        · rename_i cs' fz hb
          cases hq : ((Nat.beq ei.size 1 && Nat.beq off 0) && (Nat.beq cs'.length len && (notMap cs' && cs'.all pureC))) with
          | false => rw [hq] at hc; cases hc
          | true =>
            rw [hq] at hc
            simp only [cond_true, Option.some.injEq] at hc
            subst hc
            simp only [Bool.and_eq_true] at hq
            obtain ⟨⟨h1, h2⟩, h3, h4, h5⟩ := hq
            refine ⟨ti, e, ei, fz, hti, ?_, hei, Nat.eq_of_beq_eq_true h1, Nat.eq_of_beq_eq_true h2, hb, h4, h5⟩
            rw [Nat.eq_of_beq_eq_true h3, hu]
        · cases hc
      · cases hc
    · cases hc
  · cases hc
theorem fzL_pureC : ∀ (cs : List PV) (h : Hp) (K : List PV → Hp → Prop), cs.all pureC = true → K cs h → fzLK (fzK 1) h cs K
  | [], h, K, _, hk => hk
  | c :: cs, h, K, hc, hk => by
    simp only [List.all_cons, Bool.and_eq_true] at hc
    simp only [fzLK]
    have := fzL_pureC cs h (fun xs' h' => K (c :: xs') h') hc.2 hk
    cases c <;> first
      | exact this
      | exact absurd hc.1 (by simp [pureC])
theorem repRow_of_cs {w : World} {F : Foot} : ∀ (cs : List PV) (b off : Nat), cs.all pureC = true → RepCs w F cs b off → RepRow w F cs b off 1
  | [], _, _, _, _ => by simp [RepRow]
  | c :: cs, b, off, hc, hr => by
    simp only [List.all_cons, Bool.and_eq_true] at hc
    simp only [RepCs] at hr
    obtain ⟨⟨h1, U, h2, h3, h4⟩, h5⟩ := hr
    have ih := repRow_of_cs cs b (off + 1) hc.2 h5
    unfold RepRow
    refine ⟨?_, ih⟩
    cases c <;> first
      | exact ⟨rfl, h1, U, h2, h3, h4⟩
      | exact absurd hc.1 (by simp [pureC])

def sliceK {Tb : Tab} (E : Env Tb) (t : TypeId) (x : PV) (lo hi mx : Option PV) (h : Hp) (K : PV → Hp → Prop) : Prop :=
  match mx with
  | none =>
    match x with
    | .str l => match E.ty t with
      | some i => match i.und with
        | .string => bndK hi l.length fun b => bndK lo 0 fun a => b ≤ l.length ∧ a ≤ b ∧ K (.str ((l.take b).drop a)) h
        | _ => False
      | none => False
    | .sl xs => match elemTy E t with
      | some (_, size) => (∀ x ∈ xs, x.cells.length = size) ∧ bndK hi xs.length fun b => bndK lo 0 fun a => b ≤ xs.length ∧ a ≤ b ∧ K (.sl ((xs.take b).drop a)) h
      | none => False
    | .own id n => match elemTy E t with
      | some (_, size) =>
        match getB h id with
        | some (.row e k true xs _) => n = xs.length ∧ (bif Nat.beq k size then bndK hi xs.length fun b => bndK lo 0 fun a => b ≤ xs.length ∧ a ≤ b ∧ K (.sl ((xs.take b).drop a)) (setB h id (some (.row e k true xs xs.length))) else False)
        | _ => False
      | none => False
    | .nils => match elemTy E t with
      | some (_, size) => bndK hi 0 fun b => bndK lo 0 fun a => b ≤ 0 ∧ a ≤ b ∧ K .nils h
      | none => False
    | .ptr id off => match arrCs E t off h id with
      | some cs => bndK hi cs.length fun b => bndK lo 0 fun a => b ≤ cs.length ∧ a ≤ b ∧ K (.sl ((cs.take b).drop a)) (setB h id (some (.box cs true)))
      | none => False
    | _ => False
  | some (.int _ 0) =>
    match hi, lo, elemTy E t with
    | some (.int _ 0), none, some _ =>
      match x with
      | .sl _ | .own _ _ | .nils => K .nils h
      | _ => False
    | _, _, _ => False
  | some _ => False

def iaddrK {Tb : Tab} (E : Env Tb) (t : TypeId) (x i : PV) (h : Hp) (K : PV → Hp → Prop) : Prop :=
  match i with
  | .int _ i =>
    match x with
    | .sl xs => match elemTy E t with
      | some (_, size) => ∃ y, xs[i.toNat]? = some y ∧ 0 ≤ i ∧ y.cells.length = size ∧ K (.pp y.cells 0) h
      | none => False
    | .own id n => match elemTy E t with
      | some (_, size) =>
        match getB h id with
        | some (.row _ k _ xs _) => n = xs.length ∧ 0 ≤ i ∧ i < (n : Int) ∧ (bif Nat.beq k size then K (.rp id n i.toNat 0) h else False)
        | _ => False
      | none => False
    | .gp g off => match E.ty t with
      | some ti => match ti.und with
        | .array len e => match E.ty e with
          | some ei => 0 ≤ i ∧ i < (len : Int) ∧ K (.gp g (off + i.toNat * ei.size)) h
          | none => False
        | _ => False
      | none => False
    | .ptr id off => match E.ty t with
      | some ti => match ti.und with
        | .array len e => match E.ty e with
          | some ei => match getB h id with
            | some (.box _ _) => 0 ≤ i ∧ i < (len : Int) ∧ K (.ptr id (off + i.toNat * ei.size)) h
            | _ => False
          | none => False
        | _ => False
      | none => False
    | .pp cs off => match E.ty t with
      | some ti => match ti.und with
        | .array len e => match E.ty e with
          | some ei => 0 ≤ i ∧ i < (len : Int) ∧ K (.pp cs (off + i.toNat * ei.size)) h
          | none => False
        | _ => False
      | none => False
    | _ => False
  | _ => False

def faddrK {Tb : Tab} (E : Env Tb) (s : TypeId) (x : PV) (f : Nat) (h : Hp) (K : PV → Hp → Prop) : Prop :=
  match fld E s f with
  | some (o, size, _) =>
    bif Nat.ble 1 size then
      match x with
      | .ptr id off => match getB h id with
        | some (.box _ _) => K (.ptr id (off + o)) h
        | _ => False
      | .rp id n j off => match getB h id with
        | some (.row _ _ _ xs _) => n = xs.length ∧ K (.rp id n j (off + o)) h
        | _ => False
      | .pp cs off => K (.pp cs (off + o)) h
      | .gp g off => K (.gp g (off + o)) h
      | _ => False
    else False
  | none => False

def fieldK {Tb : Tab} (E : Env Tb) (s : TypeId) (x : PV) (f : Nat) (K : PV → Prop) : Prop :=
  match fld E s f with
  | some (o, size, ag) =>
    match x with
    | .agg cs => partK ag size cs o K
    | _ => False
  | none => False

def indexK {Tb : Tab} (E : Env Tb) (t : TypeId) (x i : PV) (K : PV → Prop) : Prop :=
  match E.ty t with
  | some ti =>
    match ti.und, x, i with
    | .string, .str l, .int _ i => ∃ b, l[i.toNat]? = some b ∧ 0 ≤ i ∧ K (.int .u8 b.toNat)
    | _, _, _ => False
  | none => False

def extractK (x : PV) (i : Nat) (K : PV → Prop) : Prop :=
  match x with
  | .tup vs =>
    match nth? vs i with
    | some v => K v
    | none => False
  | _ => False

def lenK {Tb : Tab} (E : Env Tb) (t : TypeId) (x : PV) (K : PV → Prop) : Prop :=
  match E.ty t with
  | some ti =>
    match ti.und, x with
    | .string, .str l => K (.int .i64 l.length)
    | .slice _, .sl xs => K (.int .i64 xs.length)
    | .slice _, .own _ n => K (.int .i64 n)
    | .slice _, .nils => K (.int .i64 0)
    | .array n _, _ => K (.int .i64 n)
    | _, _ => False
  | none => False

def nilCheckK (x : PV) (h : Hp) (K : PV → Prop) : Prop :=
  match x with
  | .ptr id off => match getB h id with
    | some (.box _ _) => K x
    | _ => False
  | .rp id n _ _ => match getB h id with
    | some (.row _ _ _ xs _) => n = xs.length ∧ K x
    | _ => False
  | .pp _ _ | .gp _ _ | .fn (.func _) _ _ => K x
  | _ => False

def onesK (k : IntKind) : Int := if k.signed then -1 else k.max
def unK (op : UnOp) (x : PV) (K : PV → Prop) : Prop :=
  match op, unkb x with
  | .not, .bool b => K (.bool (!b))
  | .neg, .int k n => ∃ z, k.wrap (0 - n) = z ∧ K (.int k z)
  | .xor, .int k n => ∃ z, k.wrap ((BitVec.ofInt k.bits (onesK k) ^^^ BitVec.ofInt k.bits n).toNat : Int) = z ∧ K (.int k z)
  | _, _ => False

/-- The bytes in a list of numbers. -/
def bytesOf : List PV → Option (List UInt8)
  | [] => some []
  | .int .u8 n :: r => (bytesOf r).map (UInt8.ofNat n.toNat :: ·)
  | _ => none
theorem bytesOf_ints : ∀ (xs : List PV) (l : List UInt8), bytesOf xs = some l → ∃ ns : List Int, xs = ns.map (PV.int .u8) ∧ l = ns.map fun n => UInt8.ofNat n.toNat
  | [], l, h => by simp only [bytesOf, Option.some.injEq] at h; subst h; exact ⟨[], rfl, rfl⟩
  | x :: xs, l, h => by
    cases x with
    | int k n =>
      cases k with
      | u8 =>
        simp only [bytesOf] at h
        obtain ⟨r, hr, h⟩ := Option.map_eq_some_iff.1 h
        obtain ⟨ns, h1, h2⟩ := bytesOf_ints xs r hr
        subst h h1 h2
        exact ⟨n :: ns, rfl, rfl⟩
      | _ => simp [bytesOf] at h
    | _ => simp [bytesOf] at h
theorem push_foldl : ∀ (ns : List Int) (s : List UInt8), (ns.foldl (fun r n => r.push (UInt8.ofNat n.toNat)) (⟨⟨s⟩⟩ : ByteArray)) = ⟨⟨s ++ ns.map fun n => UInt8.ofNat n.toNat⟩⟩
  | [], s => by simp
  | n :: ns, s => by
    simp only [List.foldl_cons, List.map_cons]
    have : (⟨⟨s⟩⟩ : ByteArray).push (UInt8.ofNat n.toNat) = ⟨⟨s ++ [UInt8.ofNat n.toNat]⟩⟩ := by
      apply ByteArray.ext
      simp [ByteArray.push]
    rw [this, push_foldl ns]
    simp

def convK {Tb : Tab} (E : Env Tb) (s d : TypeId) (x : PV) (K : PV → Prop) : Prop :=
  match E.ty s, E.ty d with
  | some si, some di =>
    match di.und, x with
    | .int k, .int _ n => ∃ z, k.wrap n = z ∧ K (.int k z)
    | .string, .str l => K (.str l)
    | .string, .sl xs => match si.und with
      | .slice e => match E.ty e with
        | some ei => match ei.und with
          | .int .u8 => match bytesOf xs with
            | some l => K (.str l)
            | none => False
          | _ => False
        | none => False
      | _ => False
    | _, _ => False
  | _, _ => False

def zeroE (ie : TyI) : PV :=
  bif isAggD ie.und then .agg (zcells ie) else match zcells ie with
    | [c] => c
    | _ => .undef

def makeSliceK {Tb : Tab} (E : Env Tb) (t : TypeId) (l c : PV) (h : Hp) (nid : Nat) (K : PV → Hp → Prop) : Prop :=
  match l, c with
  | .int _ a, .int _ b =>
    match elemTy E t with
    | some (e, size) =>
      match E.ty e with
      | some ie =>
        bif Nat.ble 1 size && okE size (zeroE ie) then
          0 ≤ a ∧ a ≤ b ∧ b * ie.bytes ≤ 140737488355328 ∧ b ≤ 140737488355328 ∧
            K (.own nid (List.replicate a.toNat (zeroE ie)).length) (setB h nid (some (.row e size true (List.replicate a.toNat (zeroE ie)) 0)))
        else False
      | none => False
    | none => False
  | _, _ => False

section
variable {Tb : Tab} {E : Env Tb} {w : World} {F : Foot} {β : Nat → Nat} {h : Hp}

theorem fld_some {s : TypeId} {f o size : Nat} {ag : Bool} (hf : fld E s f = some (o, size, ag)) : ∃ i fs fd j, E.ty s = some i ∧ i.und = .struct fs ∧ fs[f]? = some fd ∧ fd.offset = o ∧ E.ty fd.type = some j ∧ j.size = size ∧ isAggD j.und = ag := by
  unfold fld at hf
  split at hf
  · rename_i i hi
    split at hf
    · rename_i fs hu
      split at hf
      · rename_i fd hfd
        split at hf
        · rename_i j hj
          simp only [Option.some.injEq, Prod.mk.injEq] at hf
          exact ⟨i, fs, fd, j, hi, hu, hfd, hf.1, hj, hf.2.1, hf.2.2⟩
        · cases hf
      · cases hf
    · cases hf
  · cases hf

theorem faddr_sound {s : TypeId} {x : PV} {X : Value} {f : Nat} {K : PV → Hp → Prop} (hk : faddrK E s x f h K) (hs : SimH E.G w F β h) (hx : Rep w F β h x X) : VGoal E (Instr.fieldAt s X f) w F β h K := by
  unfold faddrK at hk
  split at hk
  · rename_i o size ag hf
    obtain ⟨i, fs, fd, j, hi, hu, hfd, ho, hj, hsz, hag⟩ := fld_some hf
    cases hb : Nat.ble 1 size with
    | false => rw [hb] at hk; exact hk.elim
    | true =>
      rw [hb] at hk
      simp only [cond_true] at hk
      have hpos := Nat.le_of_ble_eq_true hb
      have hrun : ∀ (b m : Nat), X = .pointer (some ⟨b, m, none⟩) → (Instr.fieldAt s X f).run E.P w = .ok (.pointer (some ⟨b, m + o, none⟩)) w := by
        rintro b m rfl
        have hur := run_underlying (ty_und hi) w
        rw [hu] at hur
        have hz : ¬ (j.size = 0) := by omega
        simp only [Instr.fieldAt, Sem.run_bind, hur, Result.andThen_ok, hfd, Instr.sureAddr, Sem.run_pure, fieldPlace, run_sizeOf' hj, hz, if_false, add_addr, ho]
      cases x <;> simp only at hk <;> try exact hk.elim
      case ptr id off =>
        split at hk
        · rename_i cs fz hb'
          simp only [Rep] at hx
          obtain ⟨cs1, fz1, hb1, hX⟩ := hx
          refine vg_pure hs (hrun _ _ hX) hk ?_
          simp only [Rep]
          exact ⟨cs1, fz1, hb1, by first | rfl | trivial⟩
        · exact hk.elim
      case rp id n m off =>
        split at hk
        · rename_i e k pr xs fz hb'
          obtain ⟨hn, hk⟩ := hk
          simp only [Rep] at hx
          obtain ⟨hA, e1, k1, pr1, xs1, fz1, hb1, hle1, hx⟩ := hx
          rw [hb'] at hb1; cases hb1
          refine vg_pure hs (hrun _ _ (hx hn)) hk ?_
          simp only [Rep]
          exact ⟨⟨_, rfl⟩, _, _, _, _, _, hb', hle1, fun _ => by rw [Nat.add_assoc]⟩
        · exact hk.elim
      case pp cs off =>
        simp only [Rep, RepP] at hx
        obtain ⟨b, base, hX, hc⟩ := hx
        refine vg_pure hs (hrun _ _ hX) hk ?_
        simp only [Rep, RepP]
        exact ⟨b, base, by rw [Nat.add_assoc], hc⟩
      case gp g off =>
        simp only [Rep, RepP] at hx
        refine vg_pure hs (hrun _ _ hx) hk ?_
        simp only [Rep, RepP]
  · exact hk.elim

theorem part_agg {t : TypeId} {i : TyI} (hi : E.ty t = some i) {cs : List PV} {arr : Array Value} {off : Nat} {K : PV → Prop} (hr : ReL w F β h cs arr.toList) (hp : partK (isAggD i.und) i.size cs off K) :
    ∃ V v, (part t arr off).run E.P w = .ok V w ∧ K v ∧ Rep w F β h v V := by
  unfold partK at hp
  simp only [part, Sem.run_bind, run_isAgg' hi, Result.andThen_ok]
  have hl := ((ReL_iff _ _).1 hr).1
  simp only [Array.length_toList] at hl
  cases hag : isAggD i.und with
  | true =>
    rw [hag] at hp
    simp only [cond_true] at hp
    cases hle : Nat.ble (off + i.size) cs.length with
    | false => simp [hle] at hp
    | true =>
      rw [hle] at hp
      simp only [cond_true] at hp
      refine ⟨.agg (arr.extract off (off + i.size)), _, by simp only [if_true, Sem.run_bind, run_sizeOf' hi, Result.andThen_ok, Sem.run_pure], hp, ?_⟩
      simp only [Rep]
      refine ⟨_, rfl, ?_⟩
      have := ReL_take i.size (ReL_drop off hr)
      rw [Array.toList_extract, List.extract_eq_take_drop]
      rw [Nat.add_sub_cancel_left]
      exact this
  | false =>
    rw [hag] at hp
    simp only [cond_false] at hp
    cases hx : cs[off]? with
    | none => rw [hx] at hp; exact hp.elim
    | some c =>
      rw [hx] at hp
      obtain ⟨U, hU, hr'⟩ := ((ReL_iff _ _).1 hr).2 off c hx
      simp only [Array.getElem?_toList] at hU
      exact ⟨U, c, by simp [hU], hp, hr'⟩

theorem field_sound {s : TypeId} {x : PV} {X : Value} {f : Nat} {K : PV → Hp → Prop} (hk : fieldK E s x f fun v => K v h) (hs : SimH E.G w F β h) (hx : Rep w F β h x X) : VGoal E (Instr.field s X f) w F β h K := by
  unfold fieldK at hk
  split at hk
  · rename_i o size ag hf
    obtain ⟨i, fs, fd, j, hi, hu, hfd, ho, hj, hsz, hag⟩ := fld_some hf
    split at hk
    · rename_i cs
      simp only [Rep] at hx
      obtain ⟨arr, rfl, hr⟩ := hx
      obtain ⟨V, v, h1, h2, h3⟩ := part_agg hj hr (by rw [hag, hsz]; exact hk)
      have hur := run_underlying (ty_und hi) w
      rw [hu] at hur
      refine vg_pure hs ?_ h2 h3
      simp only [Instr.field, Sem.run_bind, hur, Result.andThen_ok, hfd, asAgg, Sem.run_pure, ho]
      exact h1
    · exact hk.elim
  · exact hk.elim

theorem index_sound {t : TypeId} {x i : PV} {X I : Value} {K : PV → Hp → Prop} (hk : indexK E t x i fun v => K v h) (hs : SimH E.G w F β h) (hx : Rep w F β h x X) (hi : Rep w F β h i I) : VGoal E (Instr.index t X I) w F β h K := by
  unfold indexK at hk
  split at hk
  · rename_i ti hti
    split at hk
    · rename_i l k n hu
      obtain ⟨b, hb, h0, hk⟩ := hk
      simp only [Rep, RepP] at hx hi
      subst hx hi
      have hur := run_underlying (ty_und hti) w
      rw [hu] at hur
      refine vg_pure (V := .int .u8 b.toNat) hs ?_ hk (by simp only [Rep, RepP])
      have hg : (⟨⟨l⟩⟩ : ByteArray)[n.toNat]? = some b := by
        have hlt := (List.getElem?_eq_some_iff.1 hb).1
        have hv := (List.getElem?_eq_some_iff.1 hb).2
        rw [getElem?_pos _ _ (by simpa [ByteArray.size] using hlt)]
        congr 1
      simp only [Instr.index, asIntOf, Sem.run_bind, Sem.run_pure, Result.andThen_ok, hur, h0, if_true, hg]
    · exact hk.elim
  · exact hk.elim

theorem extract_sound {x : PV} {X : Value} {n : Nat} {K : PV → Hp → Prop} (hk : extractK x n fun v => K v h) (hs : SimH E.G w F β h) (hx : Rep w F β h x X) : VGoal E (Instr.extract X n) w F β h K := by
  unfold extractK at hk
  split at hk
  · rename_i vs
    simp only [Rep] at hx
    obtain ⟨arr, rfl, hr⟩ := hx
    split at hk
    · rename_i v hv
      rw [nth?_eq] at hv
      obtain ⟨U, hU, hp⟩ := ((ReL_iff _ _).1 hr).2 n v hv
      simp only [Array.getElem?_toList] at hU
      exact vg_pure hs (by simp [Instr.extract, hU]) hk hp
    · exact hk.elim
  · exact hk.elim

theorem len_sound {t ty : TypeId} {x : PV} {X : Value} {K : PV → Hp → Prop} (hk : lenK E t x fun v => K v h) (hs : SimH E.G w F β h) (hx : Rep w F β h x X) : VGoal E (Builtin.len_ #[t] ty #[X]) w F β h K := by
  unfold lenK at hk
  split at hk
  · rename_i ti hti
    have hur := run_underlying (ty_und hti) w
    split at hk
    · rename_i l hu
      simp only [Rep, RepP] at hx; subst hx
      rw [hu] at hur
      exact vg_pure (V := .int .i64 l.length) hs (by simp [Builtin.len_, hur, goInt]; rfl) hk (by simp [Rep, RepP])
    · rename_i e xs hu
      simp only [Rep, RepP] at hx
      obtain ⟨A, c, rfl, _⟩ := hx
      rw [hu] at hur
      exact vg_pure hs (by simp [Builtin.len_, hur]; rfl) hk (by simp [Rep, RepP, goInt])
    · rename_i e id n hu
      simp only [Rep] at hx
      obtain ⟨A, c, rfl, _⟩ := hx
      rw [hu] at hur
      exact vg_pure hs (by simp [Builtin.len_, hur]; rfl) hk (by simp [Rep, RepP, goInt])
    · rename_i e hu
      simp only [Rep, RepP] at hx
      obtain ⟨A, rfl⟩ := hx
      rw [hu] at hur
      exact vg_pure hs (by simp [Builtin.len_, hur]; rfl) hk (by simp [Rep, RepP, goInt])
    · rename_i n e hu
      rw [hu] at hur
      exact vg_pure hs (by simp [Builtin.len_, hur]; rfl) hk (by simp [Rep, RepP, goInt])
    · exact hk.elim
  · exact hk.elim

theorem un_sound {op : UnOp} {x : PV} {X : Value} {K : PV → Hp → Prop} (hk : unK op x fun v => K v h) (hs : SimH E.G w F β h) (hx : Rep w F β h x X) : VGoal E (Op.unary op X) w F β h K := by
  unfold unK at hk
  have hx' := unkb_rep hx
  split at hk
  · rename_i b hb
    rw [hb] at hx'
    simp only [Rep, RepP] at hx'; subst hx'
    exact vg_pure hs (by simp [Op.unary]; rfl) hk (by simp [Rep, RepP])
  · rename_i k n hb
    rw [hb] at hx'
    simp only [Rep, RepP] at hx'; subst hx'
    obtain ⟨z, rfl, hk⟩ := hk
    exact vg_pure hs (by simp [Op.unary, Op.intArith]; rfl) hk (by simp [Rep, RepP])
  · rename_i k n hb
    rw [hb] at hx'
    simp only [Rep, RepP] at hx'; subst hx'
    obtain ⟨z, rfl, hk⟩ := hk
    exact vg_pure (V := .int k (k.wrap ((BitVec.ofInt k.bits (onesK k) ^^^ BitVec.ofInt k.bits n).toNat : Int))) hs (by simp only [Op.unary, Op.intBits, Sem.run_pure, onesK]) hk (by simp only [Rep, RepP])
  · exact hk.elim

theorem conv_sound {s d : TypeId} {x : PV} {X : Value} {K : PV → Hp → Prop} (hk : convK E s d x fun v => K v h) (hs : SimH E.G w F β h) (hx : Rep w F β h x X) : VGoal E (convert s d X) w F β h K := by
  unfold convK at hk
  split at hk
  · rename_i si di hsi hdi
    have hus := run_underlying (ty_und hsi) w
    have hud := run_underlying (ty_und hdi) w
    split at hk
    · rename_i k kn n hu
      simp only [Rep, RepP] at hx; subst hx
      obtain ⟨z, rfl, hk⟩ := hk
      rw [hu] at hud
      refine vg_pure (V := .int k (k.wrap n)) hs ?_ hk (by simp only [Rep, RepP])
      simp only [convert, Sem.run_bind, hus, hud, Result.andThen_ok, Conv.intToInt, Sem.run_pure]
    · rename_i l hu
      simp only [Rep, RepP] at hx; subst hx
      rw [hu] at hud
      refine vg_pure (V := .string ⟨⟨l⟩⟩) hs ?_ hk (by simp only [Rep, RepP])
      simp only [convert, Sem.run_bind, hus, hud, Result.andThen_ok, Sem.run_pure]
    · rename_i xs hu
      split at hk
      · rename_i e hue
        split at hk
        · rename_i ei hei
          split at hk
          · rename_i hu8
            split at hk
            · rename_i l hl
              obtain ⟨ns, rfl, rfl⟩ := bytesOf_ints _ _ hl
              simp only [Rep, RepP] at hx
              obtain ⟨A, c, rfl, hle, hA⟩ := hx
              rw [hu] at hud
              rw [hue] at hus
              have hue8 := run_underlying (ty_und hei) w
              rw [hu8] at hue8
              refine vg_pure (V := .string ⟨⟨ns.map fun n => UInt8.ofNat n.toNat⟩⟩) hs ?_ hk (by simp only [Rep, RepP])
              have hbs : ∀ A', A = A' → (Conv.bytesToString (.slice A' (ns.map (PV.int .u8)).length c)).run E.P w = .ok (.string ⟨⟨ns.map fun n => UInt8.ofNat n.toNat⟩⟩) w := by
                rintro A' rfl
                cases hAq : A with
                | none =>
                  rw [hAq] at hA
                  have : ns = [] := by
                    rcases hA with h | ⟨_, _, _, _, h, _⟩
                    · simpa using h
                    · cases h
                  subst this
                  simp only [Conv.bytesToString, Sem.run_pure]
                  rfl
                | some ad =>
                  rw [hAq] at hA
                  have hload : (loadCells ad ns.length).run E.P w = .ok (ns.map (Value.int .u8)).toArray w := by
                    have hc : ∀ j, j < ns.length → (w.cell? (ad.add j)) = some (.int .u8 (ns.getD j 0)) := fun j hj => by
                      rcases hA with h | ⟨b, off, k, hk0, h, hrow⟩
                      · have : ns = [] := by simpa using h
                        subst this; simp at hj
                      · cases h
                        have hj' : (ns.map (PV.int .u8))[j]? = some (.int .u8 ns[j]) := by simp [hj]
                        obtain ⟨h1, h2⟩ := (RepRow_iff _ _ _ _).1 hrow j _ hj'
                        have hk1 : k = 1 := by rw [← h1]; rfl
                        subst hk1
                        obtain ⟨_, U, hU, _, hp⟩ := h2 0 (.int .u8 ns[j]) rfl
                        simp only [RepP] at hp
                        subst hp
                        rw [add_addr]
                        rw [show off + j = off + j * 1 + 0 by omega, hU]
                        simp [hj]
                    have := run_loadCells (P := E.P) w ad ns.length (fun j => .int .u8 (ns.getD j 0)) (fun j hj => hc j hj)
                    rw [this]
                    congr 1
                    apply Array.ext'
                    apply List.ext_getElem
                    · simp
                    · intro i h1 h2
                      simp at h1 h2 ⊢
                      simp [h1]
                  rw [List.length_map, run_bytesToString w ad ns.length c ns hload, show (ByteArray.empty) = (⟨⟨[]⟩⟩ : ByteArray) from rfl, push_foldl]
                  rfl
              cases A with
              | none =>
                simp only [convert, Sem.run_bind, hus, hud, Result.andThen_ok, hue8]
                exact hbs _ rfl
              | some ad =>
                simp only [convert, Sem.run_bind, hus, hud, Result.andThen_ok, hue8]
                exact hbs _ rfl
            · exact hk.elim
          · exact hk.elim
        · exact hk.elim
      · exact hk.elim
    · exact hk.elim
  · exact hk.elim

theorem nilCheck_sound {x : PV} {X : Value} {K : PV → Hp → Prop} (hk : nilCheckK x h fun v => K v h) (hx : Rep w F β h x X) : K x h ∧ ((∃ a, X = .pointer (some a)) ∨ ∃ f fa ga, X = .func (.func f) fa ga) := by
  unfold nilCheckK at hk
  split at hk
  · split at hk
    · rename_i hb
      simp only [Rep] at hx
      obtain ⟨_, _, _, hX⟩ := hx
      exact ⟨hk, .inl ⟨_, hX⟩⟩
    · exact hk.elim
  · split at hk
    · rename_i hb
      simp only [Rep] at hx
      obtain ⟨_, e1, k1, pr1, xs1, fz1, hb1, _, hX⟩ := hx
      rw [hb] at hb1; cases hb1
      exact ⟨hk.2, .inl ⟨_, hX hk.1⟩⟩
    · exact hk.elim
  · simp only [Rep, RepP] at hx
    obtain ⟨b, base, rfl, _⟩ := hx
    exact ⟨hk, .inl ⟨_, rfl⟩⟩
  · simp only [Rep, RepP] at hx
    exact ⟨hk, .inl ⟨_, hx⟩⟩
  · simp only [Rep] at hx
    obtain ⟨fa, ga, rfl, _⟩ := hx
    exact ⟨hk, .inr ⟨_, _, _, rfl⟩⟩
  · exact hk.elim

theorem iaddr_sound {t : TypeId} {x i : PV} {X I : Value} {K : PV → Hp → Prop} (hk : iaddrK E t x i h K) (hs : SimH E.G w F β h) (hx : Rep w F β h x X) (hi : Rep w F β h i I) : VGoal E (Instr.indexAt t X I) w F β h K := by
  unfold iaddrK at hk
  split at hk
  · rename_i ik n
    simp only [Rep, RepP] at hi; subst hi
    have arr : ∀ {ti ei : TyI} {len : Nat} {e : TypeId} (b m : Nat), E.ty t = some ti → ti.und = .array len e → E.ty e = some ei → 0 ≤ n → n < (len : Int) → X = .pointer (some ⟨b, m, none⟩) →
        (Instr.indexAt t X (.int ik n)).run E.P w = .ok (.pointer (some ⟨b, m + n.toNat * ei.size, none⟩)) w := by
      rintro ti ei len e b m hti hu hei h0 h1 rfl
      have hur := run_underlying (ty_und hti) w
      rw [hu] at hur
      simp [Instr.indexAt, asIntOf, hur, Instr.sureAddr, h0, h1, run_sizeOf' hei, add_addr]
    split at hk
    · rename_i xs
      split at hk
      · rename_i e size he
        obtain ⟨it, ie, hit, hu, hie, hsz⟩ := elemTy_some he
        obtain ⟨y, hy, h0, hyl, hk⟩ := hk
        simp only [Rep, RepP] at hx
        obtain ⟨A, c, rfl, hle, hx⟩ := hx
        have hlt := (List.getElem?_eq_some_iff.1 hy).1
        rcases hx with rfl | ⟨b, off, k, hk0, rfl, hrow⟩
        · simp at hlt
        · obtain ⟨h1, h2⟩ := (RepRow_iff _ _ _ _).1 hrow _ _ hy
          obtain rfl : k = size := by omega
          have hur := run_underlying (ty_und hit) w
          rw [hu] at hur
          have hlt' : n < (xs.length : Int) := by omega
          refine vg_pure (V := .pointer (some ⟨b, off + n.toNat * k, none⟩)) hs ?_ hk ?_
          · simp [Instr.indexAt, asIntOf, hur, h0, hlt', run_sizeOf' hie, hsz, add_addr]
          · simp only [Rep, RepP]
            exact ⟨b, off + n.toNat * k, rfl, (RepCs_iff _ _ _).2 fun i c hc => by simpa using h2 i c hc⟩
      · exact hk.elim
    · rename_i id m
      split at hk
      · rename_i e size he
        obtain ⟨it, ie, hit, hu, hie, hsz⟩ := elemTy_some he
        split at hk
        · rename_i e' k pr xs fz hb
          obtain ⟨hm, h0, h1, hk⟩ := hk
          cases hkk : Nat.beq k size with
          | false => rw [hkk] at hk; exact hk.elim
          | true =>
            rw [hkk] at hk
            simp only [cond_true] at hk
            obtain rfl := Nat.eq_of_beq_eq_true hkk
            simp only [Rep] at hx
            obtain ⟨A, c, rfl, hle, e1, k1, pr1, xs1, fz1, hb1, hle1, hx⟩ := hx
            rw [hb] at hb1; cases hb1
            obtain ⟨rfl, _⟩ := hx hm
            have hur := run_underlying (ty_und hit) w
            rw [hu] at hur
            refine vg_pure (V := .pointer (some ⟨β id, n.toNat * k, none⟩)) hs ?_ hk ?_
            · simp [Instr.indexAt, asIntOf, hur, h0, h1, run_sizeOf' hie, hsz, add_addr]
            · simp only [Rep]
              exact ⟨⟨_, rfl⟩, _, _, _, _, _, hb, hle1, fun _ => by simp⟩
        · exact hk.elim
      · exact hk.elim
    · rename_i g off
      split at hk
      · rename_i ti hti
        split at hk
        · rename_i len e hu
          split at hk
          · rename_i ei hei
            obtain ⟨h0, h1, hk⟩ := hk
            simp only [Rep, RepP] at hx
            exact vg_pure hs (arr g off hti hu hei h0 h1 hx) hk (by simp only [Rep, RepP])
          · exact hk.elim
        · exact hk.elim
      · exact hk.elim
    · rename_i id off
      split at hk
      · rename_i ti hti
        split at hk
        · rename_i len e hu
          split at hk
          · rename_i ei hei
            split at hk
            · rename_i hb
              obtain ⟨h0, h1, hk⟩ := hk
              simp only [Rep] at hx
              obtain ⟨cs1, fz1, hb1, hX⟩ := hx
              exact vg_pure hs (arr _ _ hti hu hei h0 h1 hX) hk (by simp only [Rep]; exact ⟨cs1, fz1, hb1, by first | rfl | trivial⟩)
            · exact hk.elim
          · exact hk.elim
        · exact hk.elim
      · exact hk.elim
    · rename_i cs off
      split at hk
      · rename_i ti hti
        split at hk
        · rename_i len e hu
          split at hk
          · rename_i ei hei
            obtain ⟨h0, h1, hk⟩ := hk
            simp only [Rep, RepP] at hx
            obtain ⟨b, base, rfl, hc⟩ := hx
            exact vg_pure hs (arr _ _ hti hu hei h0 h1 rfl) hk (by simp only [Rep, RepP]; exact ⟨b, base, by rw [Nat.add_assoc], hc⟩)
          · exact hk.elim
        · exact hk.elim
      · exact hk.elim
    · exact hk.elim
  · exact hk.elim

theorem bnd_ok {o : Option PV} {O : Option Value} {d : Nat} {K : Nat → Prop} (hk : bndK o d K) (ho : (o = none ∧ O = none) ∨ ∃ p V, o = some p ∧ O = some V ∧ Rep w F β h p V) :
    ∃ n, K n ∧ ((O = none ∧ n = d) ∨ ∃ k i, O = some (.int k i) ∧ 0 ≤ i ∧ i.toNat = n) := by
  rcases ho with ⟨rfl, rfl⟩ | ⟨p, V, rfl, rfl, hr⟩
  · exact ⟨d, hk, .inl ⟨rfl, rfl⟩⟩
  · cases p <;> simp only [bndK] at hk <;> try exact hk.elim
    simp only [Rep, RepP] at hr; subst hr
    exact ⟨_, hk.2, .inr ⟨_, _, rfl, hk.1, rfl⟩⟩

theorem run_bounds {isS : Bool} {len cap a b : Nat} {lo hi : Option Value} (hlo : (lo = none ∧ a = 0) ∨ ∃ k i, lo = some (.int k i) ∧ 0 ≤ i ∧ i.toNat = a) (hhi : (hi = none ∧ b = len) ∨ ∃ k i, hi = some (.int k i) ∧ 0 ≤ i ∧ i.toNat = b)
    (h1 : b ≤ len) (h2 : a ≤ b) (h3 : len ≤ cap) (w : World) : (Instr.sliceBounds isS len cap lo hi none).run E.P w = .ok (a, b, cap) w := by
  rcases hlo with ⟨rfl, rfl⟩ | ⟨k, i, rfl, hi0, rfl⟩ <;> rcases hhi with ⟨rfl, rfl⟩ | ⟨k', j, rfl, hj0, rfl⟩
  · simp [Instr.sliceBounds]
  · have : j ≤ (cap : Int) := by omega
    simp [Instr.sliceBounds, Instr.sliceBound, asIntOf, hj0, this]
  · have : i ≤ (b : Int) := by omega
    simp [Instr.sliceBounds, Instr.sliceBound, asIntOf, hi0, this]
  · have h4 : j ≤ (cap : Int) := by omega
    have h5 : i ≤ j := by omega
    simp [Instr.sliceBounds, Instr.sliceBound, asIntOf, hi0, hj0, h4, h5, Int.toNat_of_nonneg hj0]

theorem repRow_sub {xs : List PV} {b off k lo hi : Nat} (hr : RepRow w F xs b off k) : RepRow w F ((xs.take hi).drop lo) b (off + lo * k) k := by
  rw [RepRow_iff] at hr ⊢
  intro j x hx
  rw [List.getElem?_drop, List.getElem?_take] at hx
  split at hx
  · obtain ⟨h1, h2⟩ := hr _ _ hx
    refine ⟨h1, fun i c hc => ?_⟩
    have := h2 i c hc
    rwa [show off + (lo + j) * k + i = off + lo * k + j * k + i by rw [Nat.add_mul]; omega] at this
  · cases hx

theorem slice_sound {t : TypeId} {x : PV} {lo hi mx : Option PV} {X : Value} {Lo Hi Mx : Option Value} {K : PV → Hp → Prop} (hk : sliceK E t x lo hi mx h K) (hs : SimH E.G w F β h) (hx : Rep w F β h x X)
    (hlo : (lo = none ∧ Lo = none) ∨ ∃ p V, lo = some p ∧ Lo = some V ∧ Rep w F β h p V) (hhi : (hi = none ∧ Hi = none) ∨ ∃ p V, hi = some p ∧ Hi = some V ∧ Rep w F β h p V) (hmx : (mx = none ∧ Mx = none) ∨ ∃ p V, mx = some p ∧ Mx = some V ∧ Rep w F β h p V) :
    VGoal E (Instr.sliceAt t X Lo Hi Mx) w F β h K := by
  have hur : ∀ {i : TyI}, E.ty t = some i → (underlying t).run E.P w = .ok i.und w := fun hi => run_underlying (ty_und hi) w
  -- a slice, its bounds known
  have sl : ∀ {e : TypeId} {size : Nat} {A : Option Addr} {n c a b : Nat}, elemTy E t = some (e, size) → X = .slice A n c → n ≤ c → ((Lo = none ∧ a = 0) ∨ ∃ k i, Lo = some (.int k i) ∧ 0 ≤ i ∧ i.toNat = a) → ((Hi = none ∧ b = n) ∨ ∃ k i, Hi = some (.int k i) ∧ 0 ≤ i ∧ i.toNat = b) →
      b ≤ n → a ≤ b → Mx = none → (Instr.sliceAt t X Lo Hi Mx).run E.P w = .ok (.slice (if c = a then A else A.map (·.add (a * size))) (b - a) (c - a)) w := by
    rintro e size A n c a b he rfl hnc h1 h2 h3 h4 rfl
    obtain ⟨it, ie, hit, hu, hie, hsz⟩ := elemTy_some he
    have hb := run_bounds (E := E) (isS := true) h1 h2 h3 h4 hnc w
    have hu' := hur hit
    rw [hu] at hu'
    simp only [Instr.sliceAt, Sem.run_bind, hu', Result.andThen_ok, Instr.slice, hb, run_sizeOf' hie, hsz, Sem.run_pure]
  have sub : ∀ {xs : List PV} {A : Option Addr} {c a b size : Nat} {F' : Foot}, (xs = [] ∨ ∃ b off k, 0 < k ∧ A = some ⟨b, off, none⟩ ∧ RepRow w F' xs b off k) → (∀ x ∈ xs, x.cells.length = size) → xs.length ≤ c → b ≤ xs.length → a ≤ b →
      RepP w F' (.sl ((xs.take b).drop a)) (.slice (if c = a then A else A.map (·.add (a * size))) (b - a) (c - a)) := by
    intro xs A c a b size F' hA hsz hc hb ha
    have hl : ((xs.take b).drop a).length = b - a := by simp; omega
    simp only [RepP]
    refine ⟨_, c - a, by rw [hl], by rw [hl]; omega, ?_⟩
    by_cases h0 : (xs.take b).drop a = []
    · exact .inl h0
    · right
      have hne : a < b := by
        rcases Nat.lt_or_ge a b with h | h
        · exact h
        · exact absurd (List.eq_nil_of_length_eq_zero (by omega)) h0
      rcases hA with rfl | ⟨bb, off, k, hk0, rfl, hrow⟩
      · simp at hb; omega
      · have hk : k = size := by
          have hlt : a < xs.length := by omega
          have h1 := (RepRow_iff _ _ _ _).1 hrow a _ (List.getElem?_eq_getElem hlt)
          rw [← h1.1]; exact hsz _ (List.getElem_mem hlt)
        subst hk
        rw [if_neg (by omega)]
        exact ⟨bb, off + a * k, k, hk0, by simp [add_addr], repRow_sub hrow⟩
  unfold sliceK at hk
  split at hk
  · have hMx : Mx = none := by
      rcases hmx with ⟨_, h⟩ | ⟨p, V, h, _⟩
      · exact h
      · cases h
    split at hk
    · rename_i l
      split at hk
      · rename_i i hi'
        split at hk
        · rename_i hu
          obtain ⟨b, hk, hb⟩ := bnd_ok hk hhi
          obtain ⟨a, hk, ha⟩ := bnd_ok hk hlo
          obtain ⟨h1, h2, hk⟩ := hk
          simp only [Rep, RepP] at hx; subst hx hMx
          have hu' := hur hi'
          rw [hu] at hu'
          have hbs := run_bounds (E := E) (isS := false) (len := l.length) (cap := l.length) ha hb h1 h2 (Nat.le_refl _) w
          refine vg_pure (V := .string ⟨⟨(l.take b).drop a⟩⟩) hs ?_ hk (by simp only [Rep, RepP])
          have hsz : (⟨⟨l⟩⟩ : ByteArray).size = l.length := rfl
          simp only [Instr.sliceAt, Sem.run_bind, hu', Result.andThen_ok, Instr.slice, Option.isSome_none, Bool.false_eq_true, if_false, hsz, hbs, Sem.run_pure]
          congr 2
          apply ByteArray.ext
          simp only [ByteArray.data_extract]
          apply Array.ext'
          simp [List.extract_eq_take_drop, List.drop_take]
        · exact hk.elim
      · exact hk.elim
    · rename_i xs
      split at hk
      · rename_i e size he
        obtain ⟨hsz, hk⟩ := hk
        obtain ⟨b, hk, hb⟩ := bnd_ok hk hhi
        obtain ⟨a, hk, ha⟩ := bnd_ok hk hlo
        obtain ⟨h1, h2, hk⟩ := hk
        simp only [Rep, RepP] at hx
        obtain ⟨A, c, hX, hle, hx⟩ := hx
        exact vg_pure hs (sl he hX hle ha hb h1 h2 hMx) hk (RepP.toRep _ _ _ _ (sub hx hsz hle h1 h2))
      · exact hk.elim
    · rename_i id n
      split at hk
      · rename_i e size he
        split at hk
        · rename_i e' k xs fz hb'
          obtain ⟨hn, hk⟩ := hk
          cases hkk : Nat.beq k size with
          | false => rw [hkk] at hk; exact hk.elim
          | true =>
            rw [hkk] at hk
            simp only [cond_true] at hk
            obtain rfl := Nat.eq_of_beq_eq_true hkk
            obtain ⟨b, hk, hb⟩ := bnd_ok hk hhi
            obtain ⟨a, hk, ha⟩ := bnd_ok hk hlo
            obtain ⟨h1, h2, hk⟩ := hk
            subst hn
            -- frozen first
            obtain ⟨v', h', F', hk', hr', hs', hz⟩ := fz_sound (G := E.G) (w := w) (β := β) 1 h F (.own id xs.length) X (fun v h' => v = .sl xs ∧ h' = setB h id (some (.row e' k true xs xs.length))) (by simp [fzK, hb']) hs hx
            obtain ⟨rfl, rfl⟩ := hk'
            simp only [RepP] at hr'
            obtain ⟨A, c, hX, hle, hr'⟩ := hr'
            have hsz : ∀ x ∈ xs, x.cells.length = k := fun x hm => by
              obtain ⟨j, hj⟩ := List.mem_iff_getElem?.1 hm
              exact ((hs.blk _ _ hb').row_cells hj).1
            exact ⟨_, w, F', β, _, _, sl he hX hle ha hb h1 h2 hMx, hk, RepP.toRep _ _ _ _ (sub hr' hsz hle h1 h2), hs', hz.evo⟩
        · exact hk.elim
      · exact hk.elim
    · split at hk
      · rename_i e size he
        obtain ⟨b, hk, hb⟩ := bnd_ok hk hhi
        obtain ⟨a, hk, ha⟩ := bnd_ok hk hlo
        obtain ⟨h1, h2, hk⟩ := hk
        simp only [Rep, RepP] at hx
        obtain ⟨A, hX⟩ := hx
        refine vg_pure hs (sl he hX (Nat.le_refl _) ha hb h1 h2 hMx) hk ?_
        simp only [Rep, RepP]
        exact ⟨_, by rw [show b - a = 0 by omega, show 0 - a = 0 by omega]⟩
      · exact hk.elim
    · rename_i id off
      split at hk
      · rename_i cs hcs
        obtain ⟨ti, e, ei, fz, hti, hu, hei, h1s, rfl, hb', hnm, hpc⟩ := arrCs_some hcs
        obtain ⟨b, hk, hb⟩ := bnd_ok hk hhi
        obtain ⟨a, hk, ha⟩ := bnd_ok hk hlo
        obtain ⟨h1, h2, hk⟩ := hk
        obtain ⟨v', h', F', hk', hr', hs', hz⟩ := fz_sound (G := E.G) (w := w) (β := β) 2 h F (.ptr id 0) X (fun v h' => v = .pp cs 0 ∧ h' = setB h id (some (.box cs true))) (by
          simp only [fzK, hb']
          exact fzL_pureC cs h _ hpc ⟨rfl, rfl⟩) hs hx
        obtain ⟨rfl, rfl⟩ := hk'
        simp only [RepP] at hr'
        obtain ⟨bb, base, hX, hrc⟩ := hr'
        rw [Nat.add_zero] at hX
        subst hX
        have hsz : ∀ x ∈ cs, x.cells.length = 1 := fun x hm => by
          have := List.all_eq_true.1 hpc x hm
          cases x <;> first
            | rfl
            | exact absurd this (by simp [pureC])
        have hrep := sub (F' := F') (size := 1) (c := cs.length) (A := some ⟨bb, base, none⟩) (.inr ⟨bb, base, 1, Nat.one_pos, rfl, repRow_of_cs cs bb base hpc hrc⟩) hsz (Nat.le_refl _) h1 h2
        have hu' := hur hti
        rw [hu] at hu'
        have hbs := run_bounds (E := E) (isS := false) ha hb h1 h2 (Nat.le_refl _) w
        refine ⟨_, w, F', β, _, _, ?_, hk, RepP.toRep _ _ _ _ hrep, hs', hz.evo⟩
        subst hMx
        simp only [Instr.sliceAt, Sem.run_bind, hu', Result.andThen_ok, Instr.sureAddr, hbs, run_sizeOf' hei, h1s, Sem.run_pure]
        congr 2
        split <;> rfl
      · exact hk.elim
    · exact hk.elim
  · rename_i km
    rcases hmx with ⟨h0, _⟩ | ⟨p, V, hp, rfl, hr⟩
    · cases h0
    · cases hp
      simp only [Rep, RepP] at hr; subst hr
      split at hk
      · rename_i kh es hes
        obtain ⟨e, size⟩ := es
        obtain ⟨it, ie, hit, hu, hie, hsz⟩ := elemTy_some hes
        have hu' := hur hit
        rw [hu] at hu'
        rcases hhi with ⟨h0, _⟩ | ⟨p, V, hp, rfl, hr⟩
        · cases h0
        cases hp
        simp only [Rep, RepP] at hr; subst hr
        have hLo : Lo = none := by
          rcases hlo with ⟨_, h⟩ | ⟨p, V, hp, _⟩
          · exact h
          · cases hp
        subst hLo
        have main : ∀ (A : Option Addr) (n c : Nat), X = .slice A n c → VGoal E (Instr.sliceAt t X none (some (.int kh 0)) (some (.int km 0))) w F β h K := by
          rintro A n c rfl
          have hk' : K .nils h := by
            split at hk
            · exact hk
            · exact hk
            · exact hk
            · exact hk.elim
          refine vg_pure (V := .slice A 0 0) hs ?_ hk' (by simp [Rep, RepP])
          simp [Instr.sliceAt, hu', Instr.slice, Instr.sliceBounds, Instr.sliceBound, asIntOf, run_sizeOf' hie]
        split at hk
        · simp only [Rep, RepP] at hx; obtain ⟨A, c, hX, _⟩ := hx; exact main _ _ _ hX
        · simp only [Rep] at hx; obtain ⟨A, c, hX, _⟩ := hx; exact main _ _ _ hX
        · simp only [Rep, RepP] at hx; obtain ⟨A, hX⟩ := hx; exact main _ _ _ hX
        · exact hk.elim
      · exact hk.elim
  · exact hk.elim

theorem makeSlice_sound {t : TypeId} {l c : PV} {L C : Value} {nid : Nat} {K : PV → Hp → Prop} (hk : makeSliceK E t l c h nid K) (hs : SimH E.G w F β h) (hg : E.GI w) (hn : nid < h.length) (hfree : getB h nid = none) (hl : Rep w F β h l L) (hc : Rep w F β h c C) : VGoal E (Instr.makeSlice t L C) w F β h K := by
  unfold makeSliceK at hk
  split at hk
  · rename_i ka a kb b
    simp only [Rep, RepP] at hl hc; subst hl hc
    split at hk
    · rename_i e size he
      obtain ⟨it, ie, hit, hu, hie, hsz⟩ := elemTy_some he
      rw [hie] at hk
      simp only at hk
      cases hq : (Nat.ble 1 size && okE size (zeroE ie)) with
      | false => rw [hq] at hk; exact hk.elim
      | true =>
        rw [hq] at hk
        simp only [cond_true] at hk
        rw [Bool.and_eq_true] at hq
        have hpos := Nat.le_of_ble_eq_true hq.1
        obtain ⟨ha, hab, hbb, hb2, hk⟩ := hk
        obtain ⟨m, rfl⟩ := Int.eq_ofNat_of_zero_le ha
        obtain ⟨n, rfl⟩ := Int.eq_ofNat_of_zero_le (Int.le_trans ha hab)
        simp only [Int.toNat_natCast] at hk
        have hzc := (E.tyz hie).1
        have hzl : (zcells ie).length = size := by simp [zcells, hzc, hsz]
        obtain ⟨inf, hinf, hisz, hiby, hiz⟩ := ty_info hie
        have ho := hq.2
        have hzcells : (zeroE ie).cells = zcells ie := by
          simp only [okE, Bool.and_eq_true] at ho
          have hall := ho.2
          have hfa := ho.1.1
          unfold zeroE at hall hfa ⊢
          cases hag : isAggD ie.und with
          | true => rfl
          | false =>
            rw [hag] at hall hfa
            simp only [cond_false] at hall hfa ⊢
            match hzc' : zcells ie with
            | [] => rw [hzc'] at hfa; simp [faith] at hfa
            | [c] =>
              rw [hzc'] at hall
              simp only at hall ⊢
              cases hcc : c with
              | agg cs =>
                exfalso
                have : PV.agg cs ∈ zcells ie := by rw [hzc', hcc]; simp
                simp only [zcells, List.mem_map] at this
                obtain ⟨v, _, hv⟩ := this
                unfold ofConst at hv
                split at hv <;> cases hv
              | _ => rfl
            | c :: d :: r => rw [hzc'] at hfa; simp [faith] at hfa
        have hmk : ∃ arr, (Instr.makeSlice t (.int ka (m : Int)) (.int kb (n : Int))).run E.P w = .ok (.slice (some ⟨w.heap.size, 0, none⟩) m n) (w.alloc (.cells arr e)) ∧ arr.size = n * size ∧ ∀ i, i < n * size → arr[i]? = some (ie.zero.cells[i % size]!) := by
          have hur := run_underlying (ty_und hit) w
          rw [hu] at hur
          have hwm : IntKind.i64.wrap (m : Int) = m := IntWalk.i64_in _ (by omega)
          have hwn : IntKind.i64.wrap (n : Int) = n := IntWalk.i64_in _ (by omega)
          have hin : (typeInfo e).run E.P w = .ok inf w := by simp [typeInfo, hinf]
          have hbig : ∀ x : Nat, x ≤ n → ((decide ((x : Int) < 0) || decide (((inf.bytes : Nat) : Int) * (x : Int) > 2 ^ 48)) = false) := fun x hx => by
            have h1 : (inf.bytes : Int) * (x : Int) ≤ (n : Int) * (ie.bytes : Int) := by
              rw [hiby, Int.mul_comm]
              exact Int.mul_le_mul_of_nonneg_right (by omega) (by omega)
            have h2 : ¬ ((inf.bytes : Int) * (x : Int) > 2 ^ 48) := by
              have : (2 : Int) ^ 48 = 281474976710656 := by decide
              omega
            have h3 : ¬ ((x : Int) < 0) := by omega
            simp only [h2, h3, decide_false, Bool.or_false]
          have hcond : ((decide ((n : Int) < 0) || decide ((inf.bytes : Int) * (n : Int) > 2 ^ 48) || decide ((m : Int) < 0) || decide ((m : Int) > (n : Int))) = false) := by
            rw [hbig n (Nat.le_refl _)]
            simp; omega
          refine ⟨(Array.range (n * size)).map (fun i => ie.zero.cells[i % ie.zero.cells.size]!), ?_, by simp, fun i hi => by simp [hi, hzc, hsz]⟩
          simp only [Instr.makeSlice, Sem.run_bind, hur, Result.andThen_ok, asInt, asIntOf, Sem.run_pure, hin, hwm, hwn]
          simp only [hcond, Bool.false_eq_true, if_false, Int.toNat_natCast, run_sizeOf' hie, hsz, run_askRoom, Result.andThen_ok, Sem.run_bind]
          by_cases h0 : n * size = 0
          · have hr0 : Array.range 0 = #[] := by simp
            simp [h0, newRow, hr0]
          · simp only [h0, if_false, Sem.run_bind, run_zero' hie, Result.andThen_ok, Sem.run_pure]
            simp [newRow]
        obtain ⟨arr, hrun, hasz, hget⟩ := hmk
        have hmn : m ≤ n := by omega
        obtain ⟨w', β', hw', r1, r2, r3⟩ := alloc_row hs (E.gsz hg) hn hfree e (k := size) (pr := true) (xs := List.replicate m (zeroE ie)) (arr := arr) (c := n) hpos hasz (by simpa using hmn) (fun j x hx => by
          have hj : j < m := by
            have := (List.getElem?_eq_some_iff.1 hx).1
            simpa using this
          have hxe : x = zeroE ie := by
            rw [List.getElem?_replicate, if_pos hj] at hx
            injection hx with hx
            exact hx.symm
          subst hxe
          refine ⟨by rw [hzcells, hzl], fun i c hi => ?_⟩
          rw [hzcells] at hi
          have hik : i < size := by rw [← hzl]; exact (List.getElem?_eq_some_iff.1 hi).1
          simp only [zcells, List.getElem?_map] at hi
          obtain ⟨v, hv, rfl⟩ := Option.map_eq_some_iff.1 hi
          have hlt : j * size + i < n * size := lt_row (by omega) hik
          have hmod : (j * size + i) % size = i := by rw [Nat.add_comm, Nat.add_mul_mod_self_right, Nat.mod_eq_of_lt hik]
          have hv' : ie.zero.cells[i]! = v := by
            have h9 : ie.zero.cells[i]? = some v := by simpa using hv
            rw [getElem!_def, h9]
          refine ⟨v, by rw [hget _ hlt, hmod, hv'], (E.tyz hie).2 v (List.mem_of_getElem? hv), ?_⟩
          have hp : RepP w F (ofConst v) v := by
            unfold ofConst
            split <;> simp [RepP]
          simpa using hp)
        rw [List.length_replicate] at r1
        refine ⟨_, w', F, β', _, _, by rw [hw']; exact hrun, hk, ?_, r2, r3⟩
        rw [List.length_replicate]; exact r1
    · exact hk.elim
  · exact hk.elim
end
end Go.Px

set_option linter.unusedVariables false
set_option linter.unusedSimpArgs false
set_option linter.unnecessarySimpa false
namespace Go.Px
open Go

def keyKind : TypeDesc → PV → Bool
  | .int _, .int _ _ => true
  | .string, .str _ => true
  | _, _ => false

/-! ### Lists of keys -/
theorem keyEq_true {a b : PV} (h : keyEq a b = some true) : a = b := by
  cases a <;> cases b <;> simp only [keyEq] at h <;> (try cases h; done)
  case int.int k x k' y =>
    by_cases hk : k = k'
    · subst hk
      simp at h
      rw [h]
    · simp [hk] at h
  case str.str x y => simp at h; rw [h]
theorem midx_shift (key : PV) : ∀ (ks : List PV) (i j : Nat), midx key ks (i + j) = (midx key ks i).map fun r => r.map (· + j)
  | [], i, j => rfl
  | k :: ks, i, j => by
    simp only [midx]
    cases keyEq key k with
    | none => rfl
    | some b =>
      cases b with
      | true => rfl
      | false =>
        simp only
        rw [show i + j + 1 = i + 1 + j by omega]
        exact midx_shift key ks (i + 1) j
theorem midx_some {key : PV} : ∀ {ks : List PV} {i : Nat}, midx key ks 0 = some (some i) → ks[i]? = some key
  | k :: ks, i, h => by
    simp only [midx] at h
    cases hk : keyEq key k with
    | none => rw [hk] at h; cases h
    | some b =>
      rw [hk] at h
      cases b with
      | true => injection h with h; injection h with h; subst h; rw [keyEq_true hk]; rfl
      | false =>
        simp only at h
        rw [midx_shift key ks 0 1] at h
        obtain ⟨r, hr, h⟩ := Option.map_eq_some_iff.1 h
        cases r with
        | none => cases h
        | some i' =>
          simp only [Option.map_some, Option.some.injEq] at h
          subst h
          simpa using midx_some hr
theorem midx_append {key x : PV} : ∀ {ks : List PV} {r : Option Nat}, midx key (ks ++ [x]) 0 = some r → (∃ i, midx key ks 0 = some (some i) ∧ r = some i) ∨ (midx key ks 0 = some none ∧ ((keyEq key x = some true ∧ r = some ks.length) ∨ (keyEq key x = some false ∧ r = none)))
  | [], r, h => by
    simp only [List.nil_append, midx] at h
    right
    refine ⟨rfl, ?_⟩
    cases hk : keyEq key x with
    | none => rw [hk] at h; cases h
    | some b =>
      rw [hk] at h
      cases b with
      | true => injection h with h; exact .inl ⟨rfl, h.symm⟩
      | false => injection h with h; exact .inr ⟨rfl, h.symm⟩
  | k :: ks, r, h => by
    simp only [List.cons_append, midx] at h ⊢
    cases hk : keyEq key k with
    | none => rw [hk] at h; cases h
    | some b =>
      rw [hk] at h
      cases b with
      | true => injection h with h; exact .inl ⟨0, rfl, h.symm⟩
      | false =>
        simp only at h ⊢
        rw [midx_shift key _ 0 1] at h ⊢
        obtain ⟨r', hr', h⟩ := Option.map_eq_some_iff.1 h
        subst h
        rcases midx_append hr' with ⟨i, h1, rfl⟩ | ⟨h1, h2⟩
        · exact .inl ⟨i + 1, by rw [h1]; rfl, rfl⟩
        · refine .inr ⟨by rw [h1]; rfl, ?_⟩
          rcases h2 with ⟨h3, rfl⟩ | ⟨h3, rfl⟩
          · exact .inl ⟨h3, rfl⟩
          · exact .inr ⟨h3, rfl⟩
theorem midx_append_old {key x : PV} : ∀ {ks : List PV} {i : Nat}, midx key ks 0 = some (some i) → midx key (ks ++ [x]) 0 = some (some i)
  | k :: ks, i, h => by
    simp only [List.cons_append, midx] at h ⊢
    cases hk : keyEq key k with
    | none => rw [hk] at h; cases h
    | some b =>
      rw [hk] at h
      cases b with
      | true => exact h
      | false =>
        simp only at h ⊢
        rw [midx_shift key _ 0 1] at h ⊢
        obtain ⟨r', hr', h⟩ := Option.map_eq_some_iff.1 h
        cases r' with
        | none => cases h
        | some i' =>
          rw [midx_append_old hr']
          exact congrArg some h
theorem midx_append_new {key x : PV} : ∀ {ks : List PV}, midx key ks 0 = some none → midx key (ks ++ [x]) 0 = (match keyEq key x with
    | some true => some (some ks.length)
    | some false => some none
    | none => none)
  | [], _ => by
    simp only [List.nil_append, midx]
    cases keyEq key x with
    | none => rfl
    | some b => cases b <;> rfl
  | k :: ks, h => by
    simp only [List.cons_append, midx] at h ⊢
    cases hk : keyEq key k with
    | none => rw [hk] at h; cases h
    | some b =>
      rw [hk] at h
      cases b with
      | true => cases h
      | false =>
        simp only at h ⊢
        rw [midx_shift key _ 0 1] at h ⊢
        obtain ⟨r', hr', h⟩ := Option.map_eq_some_iff.1 h
        cases r' with
        | some i => cases h
        | none =>
          rw [midx_append_new hr']
          cases keyEq key x with
          | none => rfl
          | some b => cases b <;> rfl

theorem MapEq.refl {ks vs : List PV} (h : ks.length = vs.length) : MapEq ks vs ks vs := ⟨h, h, fun key r hr => ⟨r, hr, fun e => e, fun i hi => ⟨i, hi, rfl⟩⟩⟩
theorem MapEq.push {ks vs ks' vs' : List PV} (m : MapEq ks vs ks' vs') (key v : PV) (hn : midx key ks 0 = some none) : MapEq (ks ++ [key]) (vs ++ [v]) (ks' ++ [key]) (vs' ++ [v]) := by
  obtain ⟨h1, h2, h3⟩ := m
  refine ⟨by simp [h1], by simp [h2], fun k r hr => ?_⟩
  rcases midx_append hr with ⟨i, hi, rfl⟩ | ⟨hi, h⟩
  · obtain ⟨r', hr', _, h5⟩ := h3 k _ hi
    obtain ⟨i', rfl, h6⟩ := h5 i rfl
    refine ⟨some i', midx_append_old hr', fun e => (nomatch e), fun j hj => ?_⟩
    cases hj
    refine ⟨i', rfl, ?_⟩
    have l1 : i < vs.length := by rw [← h1]; exact (List.getElem?_eq_some_iff.1 (midx_some hi)).1
    have l2 : i' < vs'.length := by rw [← h2]; exact (List.getElem?_eq_some_iff.1 (midx_some hr')).1
    rw [List.getElem?_append_left l1, List.getElem?_append_left l2, h6]
  · obtain ⟨r', hr', h4, _⟩ := h3 k _ hi
    obtain rfl := h4 rfl
    have hm := midx_append_new (x := key) hr'
    rcases h with ⟨hk, rfl⟩ | ⟨hk, rfl⟩
    · rw [hk] at hm
      refine ⟨_, hm, fun e => (nomatch e), fun i hi => ?_⟩
      cases hi
      refine ⟨_, rfl, ?_⟩
      rw [h1, h2]
      simp
    · rw [hk] at hm
      exact ⟨_, hm, fun _ => rfl, fun i hi => (nomatch hi)⟩
theorem MapEq.set {ks vs ks' vs' : List PV} (m : MapEq ks vs ks' vs') {key v : PV} {i i' : Nat} (hi : midx key ks 0 = some (some i)) (hi' : midx key ks' 0 = some (some i')) : MapEq ks (vs.set i v) ks' (vs'.set i' v) := by
  obtain ⟨h1, h2, h3⟩ := m
  refine ⟨by simp [h1], by simp [h2], fun k r hr => ?_⟩
  obtain ⟨r', hr', h4, h5⟩ := h3 k r hr
  refine ⟨r', hr', h4, fun j hj => ?_⟩
  subst hj
  obtain ⟨j', rfl, h6⟩ := h5 j rfl
  refine ⟨j', rfl, ?_⟩
  have l1 : i < vs.length := by rw [← h1]; exact (List.getElem?_eq_some_iff.1 (midx_some hi)).1
  have l2 : i' < vs'.length := by rw [← h2]; exact (List.getElem?_eq_some_iff.1 (midx_some hi')).1
  by_cases e : j = i
  · subst e
    have hk : k = key := by
      have a := midx_some hr; rw [midx_some hi] at a; injection a with a; exact a.symm
    subst hk
    rw [hi'] at hr'
    injection hr' with hr'; injection hr' with hr'; subst hr'
    rw [List.getElem?_set_self l1, List.getElem?_set_self l2]
  · have e' : j' ≠ i' := fun e' => by
      subst e'
      have hk : k = key := by
        have a := midx_some hr'; rw [midx_some hi'] at a; injection a with a; exact a.symm
      subst hk
      rw [hi] at hr
      injection hr with hr; injection hr with hr; exact e hr.symm
    rw [List.getElem?_set_ne (Ne.symm e), List.getElem?_set_ne (Ne.symm e'), h6]

section
variable {Tb : Tab} {E : Env Tb} {w : World} {F : Foot} {β : Nat → Nat} {h : Hp}

theorem keyEq_now {kd : TypeDesc} {k k' : PV} {V V' : Value} {r : Bool} (hk : keyKind kd k = true) (he : keyEq k k' = some r) (hr : Rep w F β h k V) (hr' : Rep w F β h k' V') : Instr.sameNow kd V V' = some r := by
  cases k <;> cases k' <;> simp only [keyEq] at he <;> (try cases he; done)
  case int.int k a k' b =>
    simp only [Rep, RepP] at hr hr'
    subst hr hr'
    cases kd <;> simp [keyKind] at hk
    by_cases hkk : k = k'
    · simp [hkk] at he
      subst he
      simp [Instr.sameNow, hkk]
      rfl
    · simp [hkk] at he
  case str.str a b =>
    simp only [Rep, RepP] at hr hr'
    subst hr hr'
    cases kd <;> simp [keyKind] at hk
    injection he with he
    subst he
    simp only [Instr.sameNow, Option.some.injEq]
    have e : ((⟨⟨a⟩⟩ : ByteArray) == ⟨⟨b⟩⟩) = ((⟨a⟩ : Array UInt8) == ⟨b⟩) := rfl
    rw [e, Bool.eq_iff_iff]
    simp

theorem midx_now {kd : TypeDesc} {k : PV} {V : Value} (hk : keyKind kd k = true) (hr : Rep w F β h k V) : ∀ (ks : List PV) (es : List MapEntry) (i : Nat) (r : Option Nat), midx k ks i = some r → ReL w F β h ks (es.map (·.key)) →
    Instr.findNow kd V es i = some (r.map fun j => (j, ((es[j - i]?).map (·.val)).getD undef)) ∧ (∀ j, r = some j → i ≤ j ∧ j - i < es.length)
  | [], es, i, r, hm, hrl => by
    simp only [ReL, List.map_eq_nil_iff] at hrl
    subst hrl
    injection hm with hm
    subst hm
    exact ⟨rfl, fun j hj => by cases hj⟩
  | x :: xs, es, i, r, hm, hrl => by
    cases es with
    | nil => simp [ReL] at hrl
    | cons e es =>
      simp only [List.map_cons, ReL] at hrl
      obtain ⟨v, vs', h1, h2, h3⟩ := hrl
      injection h1 with h1 h4
      subst h1 h4
      simp only [midx] at hm
      simp only [Instr.findNow]
      split at hm
      · rename_i hq
        rw [keyEq_now hk hq hr h2]
        injection hm with hm
        subst hm
        exact ⟨by simp, fun j hj => by cases hj; simp⟩
      · rename_i hq
        rw [keyEq_now hk hq hr h2]
        obtain ⟨h5, h6⟩ := midx_now hk hr xs es (i + 1) r hm h3
        simp only
        rw [h5]
        refine ⟨?_, fun j hj => ?_⟩
        · congr 1
          cases r with
          | none => rfl
          | some j =>
            obtain ⟨h7, h8⟩ := h6 j rfl
            simp only [Option.map_some]
            rw [show j - i = (j - (i + 1)) + 1 by omega]
            simp
        · obtain ⟨h7, h8⟩ := h6 j hj
          simp; omega
      · cases hm

theorem run_check {kt : TypeId} {ik : TyI} (hi : E.ty kt = some ik) {k : PV} {V : Value} (hk : keyKind ik.und k = true) (hr : Rep w F β h k V) (b : Bool) (n : Nat) : (Instr.checkKey b (n + 1) kt V).run E.P w = .ok () w := by
  unfold Instr.checkKey
  simp only [Sem.run_bind, run_underlying (ty_und hi), Result.andThen_ok]
  cases k <;> cases hu : ik.und <;> simp [keyKind, hu] at hk
  all_goals
    simp only [Rep, RepP] at hr
    subst hr
    rfl

theorem run_find {kt : TypeId} {ik : TyI} (hi : E.ty kt = some ik) {k : PV} {V : Value} (hk : keyKind ik.und k = true) (hr : Rep w F β h k V) {ks : List PV} {es : List MapEntry} {r : Option Nat} (hm : midx k ks 0 = some r) (hrl : ReL w F β h ks (es.map (·.key))) :
    (Instr.findKey kt V es).run E.P w = .ok (r.map fun j => (j, ((es[j]?).map (·.val)).getD undef)) w := by
  unfold Instr.findKey
  simp only [Sem.run_bind, run_underlying (ty_und hi), Result.andThen_ok]
  rw [(midx_now hk hr ks es 0 r hm hrl).1]
  simp

def zVal (v : Value) : PV :=
  match v with
  | .agg arr => .agg (arr.toList.map ofConst)
  | v => ofConst v
theorem zVal_rep (v : Value) : Rep w F β h (zVal v) v := by
  unfold zVal
  split
  · simp only [Rep]; exact ⟨_, rfl, ReL_zero _⟩
  · exact ofConst_rep _

def lookupK {Tb : Tab} (E : Env Tb) (t : TypeId) (x key : PV) (ok : Bool) (h : Hp) (K : PV → Hp → Prop) : Prop :=
  match E.ty t with
  | some ti =>
    match ti.und with
    | .map kt et =>
      match E.ty kt, E.ty et with
      | some ik, some ie =>
        bif keyKind ik.und key then
          match x with
          | .mapo id =>
            match getB h id with
            | some (.box [.mapp ks vs] _) => ∃ r, midx key ks 0 = some r ∧ match r with
              | some i => ∃ v, vs[i]? = some v ∧ K (bif ok then .tup [v, .bool true] else v) h
              | none => K (bif ok then .tup [zVal ie.zero, .bool false] else zVal ie.zero) h
            | _ => False
          | _ => False
        else False
      | _, _ => False
    | _ => False
  | none => False

theorem lookup_sound {t : TypeId} {x key : PV} {V VI : Value} {ok : Bool} {K : PV → Hp → Prop} (hk : lookupK E t x key ok h K) (hs : SimH E.G w F β h) (hx : Rep w F β h x V) (hi : Rep w F β h key VI) : VGoal E (Instr.lookup t V VI ok) w F β h K := by
  unfold lookupK at hk
  split at hk
  · rename_i ti hti
    split at hk
    · rename_i kt et hu
      split at hk
      · rename_i ik ie hik hie
        cases hkk : keyKind ik.und key with
        | false => rw [hkk] at hk; exact hk.elim
        | true =>
          rw [hkk] at hk
          simp only [cond_true] at hk
          split at hk
          · rename_i id
            split at hk
            · rename_i ks vs fz hb
              obtain ⟨r, hm, hk⟩ := hk
              simp only [Rep] at hx
              obtain ⟨rfl, _⟩ := hx
              rcases hs.blk _ _ hb with ⟨hnm, _⟩ | ⟨x0, hc, ho, hF⟩
              · cases hnm
              · injection hc with hc _
                subst hc
                obtain ⟨ks', vs', es, c, hme, he, hr1, hr2⟩ := ho
                have hund : E.P.underlying t = some (.map kt et) := by rw [ty_und hti, hu]
                obtain ⟨r', hm', hnone, hsome⟩ := hme.2.2 _ _ hm
                have hfind := run_find (E := E) (w := w) hik hkk hi hm' hr1
                have hget : (getObj (β id)).run E.P w = .ok (.map es c) w := by simp [getObj, Sem.run, he]
                have hrun : ∀ U b, (match r' with | some i => (U, b) = (((es.toList[i]?).map (·.val)).getD undef, true) | none => (U, b) = (ie.zero, false)) → (Instr.lookup t (.map (some (β id))) VI ok).run E.P w = .ok (if ok then .tuple #[U, .bool b] else U) w := fun U b hUb => by
                  unfold Instr.lookup
                  simp only [Sem.run_bind, run_underlying hund, Result.andThen_ok, hget, Sem.run_pure, run_check hik hkk hi _ 9999, hfind]
                  cases r' with
                  | some i => simp only [Option.map_some] at hUb ⊢; injection hUb with h1 h2; subst h1 h2; simp
                  | none => simp only [Option.map_none] at hUb ⊢; injection hUb with h1 h2; subst h1 h2; simp [run_zero' hie]
                cases r with
                | some i =>
                  obtain ⟨v, hv, hk⟩ := hk
                  obtain ⟨i', rfl, hvi⟩ := hsome i rfl
                  rw [← hvi] at hv
                  obtain ⟨U, hU, hrep⟩ := ((ReL_iff _ _).1 hr2).2 i' v hv
                  have hU' : ((es.toList[i']?).map (·.val)).getD undef = U := by rw [← List.getElem?_map, hU]; rfl
                  refine vg_pure hs (hrun U true (show (U, true) = (((es.toList[i']?).map (·.val)).getD undef, true) by rw [hU'])) hk ?_
                  cases ok with
                  | true => simp only [cond_true, if_true, Rep]; exact ⟨_, rfl, by simp only [ReL]; exact ⟨_, _, rfl, hrep, _, _, rfl, by simp [Rep, RepP], rfl⟩⟩
                  | false => exact hrep
                | none =>
                  obtain rfl := hnone rfl
                  refine vg_pure hs (hrun ie.zero false rfl) hk ?_
                  cases ok with
                  | true => simp only [cond_true, if_true, Rep]; exact ⟨_, rfl, by simp only [ReL]; exact ⟨_, _, rfl, zVal_rep _, _, _, rfl, by simp [Rep, RepP], rfl⟩⟩
                  | false => exact zVal_rep _
            · exact hk.elim
          · exact hk.elim
      · exact hk.elim
    · exact hk.elim
  · exact hk.elim

def makeMapK {Tb : Tab} (E : Env Tb) (t : TypeId) (r : Option PV) (h : Hp) (nid : Nat) (K : PV → Hp → Prop) : Prop :=
  match r with
  | none => K (.mapo nid) (setB h nid (some (.box [.mapp [] []] false)))
  | some (.int _ _) =>
    match E.ty t with
    | some ti =>
      match ti.und with
      | .map _ _ => K (.mapo nid) (setB h nid (some (.box [.mapp [] []] false)))
      | _ => False
    | none => False
  | _ => False

def OptRep (w : World) (F : Foot) (β : Nat → Nat) (h : Hp) : Option PV → Option Value → Prop
  | none, none => True
  | some v, some V => Rep w F β h v V
  | _, _ => False

theorem makeMap_sound {t : TypeId} {r : Option PV} {R : Option Value} {nid : Nat} {K : PV → Hp → Prop} (hk : makeMapK E t r h nid K) (hs : SimH E.G w F β h) (hg : E.GI w) (hn : nid < h.length) (hfree : getB h nid = none)
    (hr : OptRep w F β h r R) : VGoal E (Instr.makeMap t R) w F β h K := by
  have fin : (Instr.makeMap t R).run E.P w = .ok (.map (some w.heap.size)) (w.alloc (.map #[] 0)) → K (.mapo nid) (setB h nid (some (.box [.mapp [] []] false))) → VGoal E (Instr.makeMap t R) w F β h K := fun hrun hk => by
    have hmain := alloc_evo hs (E.gsz hg) hn hfree (.map #[] 0) (.box [.mapp [] []] false) (fun hkeep hev =>
      .inr ⟨_, rfl, ⟨[], [], #[], 0, MapEq.refl rfl, by simp only [if_true]; exact alloc_at w _, by simp [ReL], by simp [ReL]⟩, fun i hi => by simp only [if_true] at hi; exact absurd (hs.fin _ _ hi) (Nat.lt_irrefl _)⟩)
    refine ⟨_, _, F, _, _, _, hrun, hk, ?_, hmain.1, hmain.2⟩
    simp only [Rep, if_true]
    exact ⟨trivial, _, _, getB_setB_self _ _ _ hn⟩
  unfold makeMapK at hk
  split at hk
  · cases R with
    | none => exact fin (by simp [Instr.makeMap]) hk
    | some V => exact hr.elim
  · split at hk
    · rename_i ti hti
      split at hk
      · rename_i kt et hu
        cases R with
        | none => exact hr.elim
        | some V =>
          simp only [OptRep, Rep, RepP] at hr
          subst hr
          exact fin (by simp [Instr.makeMap, run_underlying (show E.P.underlying t = some (.map kt et) by rw [ty_und hti, hu]), asInt, asIntOf]) hk
      · exact hk.elim
    · exact hk.elim
  · exact hk.elim

theorem keyEq_same {k k' : PV} {V V' : Value} (he : keyEq k k' = some true) (hr : Rep w F β h k V) (hr' : Rep w F β h k' V') : V' = V ∧ ∀ n, Instr.sameBits n V V = true := by
  cases k <;> cases k' <;> simp only [keyEq] at he <;> (try cases he; done)
  case int.int k a k' b =>
    simp only [Rep, RepP] at hr hr'
    subst hr hr'
    by_cases hkk : k = k'
    · simp [hkk] at he
      exact ⟨by rw [hkk, he], fun n => by cases n <;> simp [Instr.sameBits]⟩
    · simp [hkk] at he
  case str.str a b =>
    simp only [Rep, RepP] at hr hr'
    subst hr hr'
    simp at he
    have e : ((⟨⟨a⟩⟩ : ByteArray) == ⟨⟨a⟩⟩) = ((⟨a⟩ : Array UInt8) == ⟨a⟩) := rfl
    exact ⟨by rw [he], fun n => by cases n <;> simp [Instr.sameBits, e]⟩
theorem midx_key {k : PV} {V : Value} (hr : Rep w F β h k V) : ∀ (ks : List PV) (es : List MapEntry) (i j : Nat), midx k ks i = some (some j) → ReL w F β h ks (es.map (·.key)) → i ≤ j ∧ ∃ e, es[j - i]? = some e ∧ e.key = V ∧ ∀ n, Instr.sameBits n V V = true
  | [], es, i, j, hm, hrl => by injection hm with hm; cases hm
  | x :: xs, es, i, j, hm, hrl => by
    cases es with
    | nil => simp [ReL] at hrl
    | cons e es =>
      simp only [List.map_cons, ReL] at hrl
      obtain ⟨v, vs', h1, h2, h3⟩ := hrl
      injection h1 with h1 h4
      subst h1 h4
      simp only [midx] at hm
      split at hm
      · rename_i hq
        injection hm with hm
        injection hm with hm
        subst hm
        obtain ⟨q1, q2⟩ := keyEq_same hq hr h2
        exact ⟨Nat.le_refl _, e, by simp, q1, q2⟩
      · obtain ⟨q0, e', q1, q2⟩ := midx_key hr xs es (i + 1) j hm h3
        refine ⟨by omega, e', ?_, q2⟩
        rw [show j - i = (j - (i + 1)) + 1 by omega]
        simpa using q1
      · cases hm

/-- A single value, as an entry of a map holds it. -/
def mapUpdateK {Tb : Tab} (E : Env Tb) (t : TypeId) (x key v : PV) (h : Hp) (K : PV → Hp → Prop) : Prop :=
  match E.ty t with
  | some ti =>
    match ti.und with
    | .map kt _ =>
      match E.ty kt with
      | some ik =>
        bif keyKind ik.und key then
          match x with
          | .mapo id =>
            match getB h id with
            | some (.box [.mapp ks vs] fz) => ∃ r, midx key ks 0 = some r ∧ match r with
              | some i => K .undef (setB h id (some (.box [.mapp ks (vs.set i v)] fz)))
              | none => K .undef (setB h id (some (.box [.mapp (ks ++ [key]) (vs ++ [v])] fz)))
            | _ => False
          | _ => False
        else False
      | none => False
    | _ => False
  | none => False

theorem mapUpdate_sound {t : TypeId} {x key v : PV} {V VI U : Value} {K : PV → Hp → Prop} (hk : mapUpdateK E t x key v h K) (hs : SimH E.G w F β h) (hx : Rep w F β h x V) (hi : Rep w F β h key VI) (hv : Rep w F β h v U) : SGoal E (Instr.mapUpdate t V VI U) w F β h K := by
  unfold mapUpdateK at hk
  split at hk
  · rename_i ti hti
    split at hk
    · rename_i kt et hu
      split at hk
      · rename_i ik hik
        cases hkk : keyKind ik.und key with
        | false => rw [hkk] at hk; exact hk.elim
        | true =>
          rw [hkk] at hk
          simp only [cond_true] at hk
          split at hk
          · rename_i id
            split at hk
            · rename_i ks vs fz hb
              obtain ⟨r, hm, hk⟩ := hk
              simp only [Rep] at hx
              obtain ⟨rfl, _⟩ := hx
              rcases hs.blk _ _ hb with ⟨hnm, _⟩ | ⟨x0, hc, ho, hF⟩
              · cases hnm
              · injection hc with hc _
                subst hc
                obtain ⟨ks', vs', es, c, hme, he, hr1, hr2⟩ := ho
                have hund : E.P.underlying t = some (.map kt et) := by rw [ty_und hti, hu]
                obtain ⟨r', hm', hnone, hsome⟩ := hme.2.2 _ _ hm
                have hfind := run_find (E := E) (w := w) hik hkk hi hm' hr1
                have hget : (getObj (β id)).run E.P w = .ok (.map es c) w := MapKept.run_getObj_map he
                have fin : ∀ (es' : Array MapEntry) (c' : Nat) (ks1 vs1 ks2 vs2 : List PV), MapEq ks1 vs1 ks2 vs2 → (Instr.mapUpdate t (.map (some (β id))) VI U).run E.P w = .ok () { w with heap := w.heap.setIfInBounds (β id) (.map es' c') } →
                    ReL w F β h ks2 (es'.toList.map (·.key)) → ReL w F β h vs2 (es'.toList.map (·.val)) → K .undef (setB h id (some (.box [.mapp ks1 vs1] fz))) → SGoal E (Instr.mapUpdate t (.map (some (β id))) VI U) w F β h K := fun es' c' ks1 vs1 ks2 vs2 hmq hrun q1 q2 hk => by
                  obtain ⟨hs1, hs2⟩ := MapKept.heap_set (o' := .map es' c') he
                  have hmain := write_ok (w' := { w with heap := w.heap.setIfInBounds (β id) (.map es' c') }) hs hb (b' := .box [.mapp ks1 vs1] fz) (by simp)
                    hs2 rfl rfl rfl (.inl ⟨_, _, _, _, rfl, rfl⟩) (fun j hf => absurd hf (hF j)) (fun hkeep hev => .inr ⟨_, rfl, ⟨ks2, vs2, es', c', hmq, hs1, ReL.mono hkeep hev _ _ q1, ReL.mono hkeep hev _ _ q2⟩, hF⟩)
                  exact ⟨_, F, β, _, hrun, hk, hmain.1, hmain.2⟩
                cases r with
                | none =>
                  obtain rfl := hnone rfl
                  refine fin (es.push { key := VI, val := U, born := c }) (c + 1) _ _ (ks' ++ [key]) (vs' ++ [v]) (hme.push key v hm) ?_ ?_ ?_ hk
                  · unfold Instr.mapUpdate
                    simp only [Sem.run_bind, run_underlying hund, Result.andThen_ok, hget, run_check hik hkk hi _ 9999, hfind, Option.map_none, MapKept.run_setObj_map _ he]
                  · simp only [Array.toList_push, List.map_append]
                    exact ReL_append hr1 (by simp only [List.map_cons, List.map_nil, ReL]; exact ⟨_, _, rfl, hi, rfl⟩)
                  · simp only [Array.toList_push, List.map_append]
                    exact ReL_append hr2 (by simp only [List.map_cons, List.map_nil, ReL]; exact ⟨_, _, rfl, hv, rfl⟩)
                | some i0 =>
                  obtain ⟨i, rfl, hvi⟩ := hsome i0 rfl
                  obtain ⟨_, e, q1, q2, q3⟩ := midx_key hi ks' es.toList 0 i hm' hr1
                  simp only [Nat.sub_zero] at q1
                  have q1' : es[i]? = some e := by simpa using q1
                  have hlt : i < es.size := (Array.getElem?_eq_some_iff.1 q1').1
                  refine fin (es.modify i fun e => { e with key := VI, val := U }) c _ _ ks' (vs'.set i v) (hme.set hm hm') ?_ ?_ ?_ hk
                  · unfold Instr.mapUpdate
                    simp only [Sem.run_bind, run_underlying hund, Result.andThen_ok, hget, run_check hik hkk hi _ 9999, hfind, Option.map_some, q1', Option.getD_some, q2, Instr.keyThatStays, q3, if_true, Sem.run_pure, MapKept.run_setObj_map _ he]
                  · rw [ReL_iff] at hr1 ⊢
                    obtain ⟨p1, p2⟩ := hr1
                    refine ⟨by simpa using p1, fun j x hx => ?_⟩
                    obtain ⟨X, hX, hrep⟩ := p2 j x hx
                    refine ⟨X, ?_, hrep⟩
                    by_cases hij : i = j
                    · subst hij
                      simp only [List.getElem?_map, Array.getElem?_toList, q1', Option.map_some, Option.some.injEq] at hX
                      simp [Array.getElem?_modify, q1', ← hX, q2]
                    · simp only [List.getElem?_map, Array.getElem?_toList] at hX ⊢
                      simp [Array.getElem?_modify, hij, hX]
                  · rw [ReL_iff] at hr2 ⊢
                    obtain ⟨p1, p2⟩ := hr2
                    refine ⟨by simpa using p1, fun j x hx => ?_⟩
                    by_cases hij : i = j
                    · subst hij
                      have hl : i < vs'.length := by simp at p1; omega
                      rw [List.getElem?_set_self hl] at hx
                      injection hx with hx
                      subst hx
                      exact ⟨U, by simp [Array.getElem?_modify, q1'], hv⟩
                    · rw [List.getElem?_set_ne hij] at hx
                      obtain ⟨X, hX, hrep⟩ := p2 j x hx
                      refine ⟨X, ?_, hrep⟩
                      simp only [List.getElem?_map, Array.getElem?_toList] at hX ⊢
                      simp [Array.getElem?_modify, hij, hX]
            · exact hk.elim
          · exact hk.elim
      · exact hk.elim
    · exact hk.elim
  · exact hk.elim
end
end Go.Px

set_option linter.unusedVariables false
set_option linter.unusedSimpArgs false
set_option linter.unnecessarySimpa false
namespace Go.Px
open Go

/-- A call, told in full: what the own memory becomes too. -/
def AC {Tb : Tab} (E : Env Tb) (f : FuncId) (args : List PV) (h : Hp) (R : PV → Hp → Prop) : Prop :=
  ∀ (w : World) (F : Foot) (β : Nat → Nat) (vs : List Value), E.GI w → SimH E.G w F β h → ReL w F β h args vs →
    Calls E.P f vs.toArray w fun e w' => ∃ V v F' β' h', e = .returned V ∧ R v h' ∧ Rep w' F' β' h' v V ∧ SimH E.G w' F' β' h' ∧ Evo h.length w F β h w' F' β' h'
/-- Called with these pure values it hands back that one. -/
def AF {Tb : Tab} (E : Env Tb) (f : FuncId) (args : List PV) (r : PV) : Prop := AC E f args [] fun v h' => v = r ∧ h' = []
/-- What it hands back is a new row, that nobody else knows. -/
def AFr {Tb : Tab} (E : Env Tb) (f : FuncId) (args : List PV) (e : TypeId) (k : Nat) (xs : List PV) : Prop := AC E f args [] fun v h' => v = .own 0 xs.length ∧ h' = [some (.row e k true xs 0)]

/-- A function without a Go body: handed these pure values it hands back that one. -/
def NF {Tb : Tab} (E : Env Tb) (f : FuncId) (args : List PV) (r : PV) : Prop :=
  ∀ (w : World) (F : Foot) (vs : List Value), E.GI w → RepL w F args vs → ∃ V, (callFunc f vs.toArray).run E.P w = .ok (.value V) w ∧ RepP w F r V
/-- Pure values in, a pure value out. -/
def CF {Tb : Tab} (E : Env Tb) (f : FuncId) (args : List PV) (r : PV) : Prop := (E.fok f = true ∧ AF E f args r) ∨ (E.fok f = false ∧ NF E f args r)

def callK {Tb : Tab} (E : Env Tb) (f : FuncId) (args : List PV) (h : Hp) (nid : Nat) (K : PV → Hp → Prop) : Prop :=
  bif E.fok f then
    (fzLK (fzK 6) h args fun args' h' => ∃ r, AF E f args' r ∧ K r h') ∨
    (fzLK (fzK 6) h args fun args' h' => ∃ e k xs, AFr E f args' e k xs ∧ K (.own nid xs.length) (setB h' nid (some (.row e k true xs 0)))) ∨
    (∃ R, AC E f args h R ∧ ∀ v h', R v h' → K v h')
  else fzLK (fzK 6) h args fun args' h' => ∃ r, NF E f args' r ∧ K r h'

/-- A round of a loop over a function, told in full. -/
def RC {Tb : Tab} (E : Env Tb) (id : Nat) (args : List PV) (h : Hp) (R : PV → Hp → Prop) : Prop :=
  ∀ (w : World) (F : Foot) (β : Nat → Nat) (vs : List Value), E.GI w → SimH E.G w F β h → ReL w F β h args vs →
    ∃ r : Loop, w.heap[β id]? = some (.loop r) ∧ vs.length = r.params.size ∧
      RoundIn Fence.wide 0 E.P (β id) r.fn ((r.params.zip vs.toArray).foldl (fun tmps (t, a) => tmps.setIfInBounds t a) r.tmps) r.assign r.body w
        fun e w' => ∃ V v F' β' h', e = .returned V ∧ R v h' ∧ Rep w' F' β' h' v V ∧ SimH E.G w' F' β' h' ∧ Evo h.length w F β h w' F' β' h'

def yieldK {Tb : Tab} (E : Env Tb) (id : Nat) (args : List PV) (h : Hp) (K : PV → Hp → Prop) : Prop := ∃ R, RC E id args h R ∧ ∀ v h', R v h' → K v h'

def pickK (c a b : PV) (K : PV → Prop) : Prop :=
  match c with
  | .kb true => K a
  | .kb false => K b
  | .bool t => match unkb a, unkb b with
    | .bool x, .bool y => K (.bool (bif t then x else y))
    | _, _ => False
  | _ => False

def callOpK {Tb : Tab} (E : Env Tb) (c : Call) (arg : Operand → PV) (h : Hp) (nid : Nat) (K : PV → Hp → Prop) : Prop :=
  match c.callee with
  | .value fo =>
    match arg fo with
    | .fn (.func g) first cap => callK E g (first ++ c.args.toList.map (fun x => unkb (arg x)) ++ cap) h nid K
    | .yl id => yieldK E id (c.args.toList.map fun x => unkb (arg x)) h K
    | _ => False
  | .builtin .len =>
    match c.args.toList, c.argTypes.toList with
    | [x], [t] => lenK E t (arg x) fun v => K v h
    | _, _ => False
  | .builtin .append =>
    match c.args.toList, c.argTypes.toList with
    | [s, x], [t, t'] => bif Nat.beq t t' then appendK E t (arg s) (arg x) h nid K else False
    | _, _ => False
  | .builtin .max =>
    match c.args.toList with
    | [x, y] => match arg x, arg y with
      | .int k a, .int _ b => K (.int k (max a b)) h
      | _, _ => False
    | _ => False
  | .builtin .min =>
    match c.args.toList with
    | [x, y] => match arg x, arg y with
      | .int k a, .int _ b => K (.int k (min a b)) h
      | _, _ => False
    | _ => False
  | _ => False

/-- Operations that may make a block. -/
def allocs : Op → Bool
  | .alloc _ | .box _ _ | .buildSlice _ _ _ | .makeSlice _ _ _ | .makeMap _ _ | .range _ _ => true
  | .call c => match c.callee with
    | .value _ | .builtin .append => true
    | _ => false
  | _ => false

/-- A range over a string begins. -/
def rangeSK {Tb : Tab} (E : Env Tb) (t : TypeId) (x : PV) (h : Hp) (nid : Nat) (K : PV → Hp → Prop) : Prop :=
  match E.ty t with
  | some i => match i.und, x with
    | .string, .str l => K (.ptr nid 0) (setB h nid (some (.box [.itp l 0] false)))
    | _, _ => False
  | none => False
/-- Its next step. -/
def nextSK (isS : Bool) (x : PV) (h : Hp) (K : PV → Hp → Prop) : Prop :=
  match isS, x with
  | true, .ptr id 0 => match getB h id with
    | some (.box [.itp l pos] fz) =>
      bif Nat.blt pos l.length then K (.tup [.bool true, .int .i64 pos, .int .i32 (Utf8.decode ⟨⟨l⟩⟩ pos).1]) (setB h id (some (.box [.itp l (pos + (Utf8.decode ⟨⟨l⟩⟩ pos).2)] fz))) else K (.tup [.bool false]) h
    | _ => False
  | _, _ => False

def vcVal {Tb : Tab} (E : Env Tb) (o : Op) (arg : Operand → PV) (h : Hp) (nid : Nat) (K : PV → Hp → Prop) : Prop :=
  match o with
  | .move x | .assign x => K (arg x) h
  | .pick c a b => pickK (arg c) (arg a) (arg b) fun v => K v h
  | .alloc t =>
    match E.ty t with
    | some i => K (.ptr nid 0) (setB h nid (some (.box (zcells i) false)))
    | none => False
  | .box _ x => boxK (unkb (arg x)) h nid K
  | .build t parts => buildK E t (parts.toList.map fun p => (p.1, unkb (arg p.2))) fun v => K v h
  | .buildSlice t len parts => buildSliceK E t len (parts.toList.map fun p => (p.1, unkb (arg p.2))) h nid K
  | .load t a => loadK E t (arg a) h K
  | .store t a v => storeK E t (arg a) (unkb (arg v)) h K
  | .nilCheck x => nilCheckK (arg x) h fun v => K v h
  | .binOp op t x y _ => binK E op t x y (arg x) (arg y) fun v => K v h
  | .unOp op _ x => unK op (arg x) fun v => K v h
  | .convert s d x => convK E s d (arg x) fun v => K v h
  | .makeFunc fn first cap => K (.fn fn (first.toList.map fun x => unkb (arg x)) (cap.toList.map fun x => unkb (arg x))) h
  | .makeSlice t l c => makeSliceK E t (arg l) (arg c) h nid K
  | .slice t x lo hi mx => sliceK E t (arg x) (lo.map arg) (hi.map arg) (mx.map arg) h K
  | .fieldAddr s x f => faddrK E s (arg x) f h K
  | .field s x f => fieldK E s (arg x) f fun v => K v h
  | .indexAddr t x i => iaddrK E t (arg x) (arg i) h K
  | .index t x i => indexK E t (arg x) (arg i) fun v => K v h
  | .extract x i => extractK (arg x) i fun v => K v h
  | .call c => callOpK E c arg h nid K
  | .makeMap t r => makeMapK E t (r.map arg) h nid K
  | .lookup t x ix ok => lookupK E t (arg x) (unkb (arg ix)) ok h K
  | .mapUpdate t m k x => mapUpdateK E t (arg m) (unkb (arg k)) (unkb (arg x)) h K
  | .insert t m k x => mapUpdateK E t (arg m) (unkb (arg k)) (unkb (arg x)) h K
  | .range t x => rangeSK E t (arg x) h nid K
  | .next it isS => nextSK isS (arg it) h K
  | _ => False

section
variable {Tb : Tab} {E : Env Tb} {w : World} {F : Foot} {β : Nat → Nat} {h : Hp}

mutual
theorem Rep_nil : ∀ (v : PV) (V : Value), Rep w F β [] v V → RepP w F v V
  | .agg cs, V, g => by
    simp only [Rep] at g; simp only [RepP]
    obtain ⟨arr, h1, h2⟩ := g
    exact ⟨arr, h1, ReL_nil cs _ h2⟩
  | .tup cs, V, g => by
    simp only [Rep] at g; simp only [RepP]
    obtain ⟨arr, h1, h2⟩ := g
    exact ⟨arr, h1, ReL_nil cs _ h2⟩
  | .fn f fi ca, V, g => by
    simp only [Rep] at g; simp only [RepP]
    obtain ⟨fa, ga, h1, h2, h3⟩ := g
    exact ⟨fa, ga, h1, ReL_nil fi _ h2, ReL_nil ca _ h3⟩
  | .own id n, V, g => by simp [Rep, getB] at g
  | .ptr id off, V, g => by simp [Rep, getB] at g
  | .rp id n i off, V, g => by simp [Rep, getB] at g
  | .mapo id, V, g => by simp [Rep, getB] at g
  | .yl id, V, g => by simp [Rep, getB] at g
  | .undef, V, g | .int _ _, V, g | .bool _, V, g | .kb _, V, g | .str _, V, g | .nili, V, g | .nilf, V, g | .err, V, g | .sl _, V, g | .nils, V, g | .pp _ _, V, g | .fresh _ _, V, g | .gp _ _, V, g | .mapp _ _, V, g | .loopp _ _ _ _ _, V, g | .itp _ _, V, g => by
    simpa only [Rep] using g
theorem ReL_nil : ∀ (vs : List PV) (Vs : List Value), ReL w F β [] vs Vs → RepL w F vs Vs
  | [], _, g => by simpa [RepL, ReL] using g
  | x :: xs, Vs, g => by
    simp only [ReL] at g; simp only [RepL]
    obtain ⟨v, vs', h1, h2, h3⟩ := g
    exact ⟨v, vs', h1, Rep_nil x v h2, ReL_nil xs vs' h3⟩
end

theorem own_nil {β : Nat → Nat} {b : Nat} : ¬ Own β [] b := fun ⟨id, blk, h1, _⟩ => by simp [getB] at h1

theorem simH_nil {G : Nat} (hs : SimH G w F β h) (β' : Nat → Nat) : SimH G w F β' [] :=
  ⟨fun id b hb => by simp [getB] at hb, fun i j bi bj hi => by simp [getB] at hi, hs.fin, fun id b hb => by simp [getB] at hb, hs.glo⟩

/-- What was made beside the own memory leaves it as it was. -/
theorem beside {G : Nat} {w' : World} {F' : Foot} {β0 β' : Nat → Nat} {h' : Hp} (hs : SimH G w F β h) (hfin : ∀ b i, F' b i → b < w'.heap.size) (e : Evo 0 w F β0 [] w' F' β' h') : SimH G w' F' β h ∧ Evo h.length w F β h w' F' β h := by
  have hheap : ∀ b, b < w.heap.size → w'.heap[b]? = w.heap[b]? := fun b hb => e.keep b hb own_nil
  have hF : ∀ b i, b < w.heap.size → F' b i → F b i := fun b i hb hf => (e.org b i hf).elim (fun x => x) fun x => x.elim (fun x => absurd x own_nil) (fun x => by omega)
  have hev : HEv w β h w' β h := ⟨fun id cs fz hb => ⟨⟨cs, fz, hb⟩, rfl⟩, fun id el k pr xs fz hb => ⟨pr, xs, fz, hb, Nat.le_refl _, fun _ => ⟨rfl, fun arr ha => ⟨arr, by rw [hheap _ (hs.blk _ _ hb).lt]; exact ha, rfl⟩⟩⟩⟩
  refine ⟨⟨fun id b hb => ?_, hs.inj, hfin, hs.lo, fun b i hb => (e.cell b i (hs.glo b i hb)).1⟩, ?_⟩
  · have hr := hs.blk id b hb
    exact BlkRep.of e.cell hev rfl (hheap _ hr.lt) (fun i hf => hF _ _ hr.lt hf) hr
  · exact ⟨e.size, fun b hb _ => hheap b hb, e.tape, e.os, e.output, e.cell, fun b i hf => (e.org b i hf).imp_right fun x => x.imp (fun x => absurd x own_nil) id, fun _ h => .inl h, fun id cs fz _ hb => hev.box id cs fz hb, fun id el k pr xs fz _ hb => hev.row id el k pr xs fz hb⟩

/-- A new row that a call hands back. -/
theorem adopt {G : Nat} {w' : World} {F' : Foot} {β0 β' : Nat → Nat} {nid : Nat} {e : TypeId} {k : Nat} {xs : List PV} {V : Value} (hs : SimH G w F β h) (hn : nid < h.length) (hfree : getB h nid = none)
    (ev : Evo 0 w F β0 [] w' F' β' [some (.row e k true xs 0)]) (hs' : SimH G w' F' β' [some (.row e k true xs 0)]) (hr : Rep w' F' β' [some (.row e k true xs 0)] (.own 0 xs.length) V) :
    SimH G w' F' (fun i => if i = nid then β' 0 else β i) (setB h nid (some (.row e k true xs 0))) ∧ Evo h.length w F β h w' F' (fun i => if i = nid then β' 0 else β i) (setB h nid (some (.row e k true xs 0))) ∧
    Rep w' F' (fun i => if i = nid then β' 0 else β i) (setB h nid (some (.row e k true xs 0))) (.own nid xs.length) V := by
  obtain ⟨hs1, ev1⟩ := beside hs hs'.fin ev
  have hblk := hs'.blk 0 _ rfl
  have hnew : w.heap.size ≤ β' 0 := (ev.own (β' 0) ⟨0, _, rfl, rfl⟩).resolve_left own_nil
  have hβ : ∀ i, i ≠ nid → (if i = nid then β' 0 else β i) = β i := fun i hi => if_neg hi
  have hne : ∀ id b, getB h id = some b → id ≠ nid := fun id b hb e => by subst e; rw [hfree] at hb; cases hb
  have hev : HEv w' β h w' (fun i => if i = nid then β' 0 else β i) (setB h nid (some (.row e k true xs 0))) := by
    refine ⟨fun id cs fz hb => ?_, fun id el k pr xs fz hb => ?_⟩
    · have e := hne id _ hb
      exact ⟨⟨cs, fz, by rw [getB_setB_ne _ _ _ _ e]; exact hb⟩, hβ id e⟩
    · have e := hne id _ hb
      exact ⟨pr, xs, fz, by rw [getB_setB_ne _ _ _ _ e]; exact hb, Nat.le_refl _, fun _ => ⟨hβ id e, fun arr ha => ⟨arr, ha, rfl⟩⟩⟩
  have cases' : ∀ id b, getB (setB h nid (some (.row e k true xs 0))) id = some b → (id ≠ nid ∧ getB h id = some b) ∨ (id = nid ∧ b = .row e k true xs 0) := fun id b hb => by
    by_cases e : id = nid
    · subst e; rw [getB_setB_self _ _ _ hn] at hb; injection hb with hb; exact .inr ⟨rfl, hb.symm⟩
    · rw [getB_setB_ne _ _ _ _ e] at hb; exact .inl ⟨e, hb⟩
  refine ⟨⟨fun id b hb => ?_, fun i j bi bj hi hj he => ?_, hs1.fin, fun id b hb => ?_, hs1.glo⟩, ?_, ?_⟩
  · rcases cases' id b hb with ⟨h1, h2⟩ | ⟨h1, h2⟩
    · exact BlkRep.of (fun _ _ hf => ⟨hf, rfl⟩) hev (hβ id h1) rfl (fun _ hf => hf) (hs1.blk id b h2)
    · subst h1 h2
      obtain ⟨arr, harr, hk, hsz, hrow, hF, hfz⟩ := hblk
      refine ⟨arr, by simp only [if_true]; exact harr, hk, hsz, fun j x hx => ⟨(hrow j x hx).1, fun i c hi => ?_⟩, fun i hf => by simp only [if_true] at hf; exact hF i hf, hfz⟩
      obtain ⟨U, hU, ho, hp⟩ := (hrow j x hx).2 i c hi
      exact ⟨U, hU, ho, by simpa using hp⟩
  · rcases cases' i bi hi with ⟨h1, h2⟩ | ⟨h1, h2⟩ <;> rcases cases' j bj hj with ⟨h3, h4⟩ | ⟨h3, h4⟩
    · simp only [hβ i h1, hβ j h3] at he
      exact hs.inj i j bi bj h2 h4 he
    · simp only [hβ i h1, h3, if_true] at he
      have := (hs.blk i bi h2).lt
      omega
    · simp only [hβ j h3, h1, if_true] at he
      have := (hs.blk j bj h4).lt
      omega
    · omega
  · rcases cases' id b hb with ⟨h1, h2⟩ | ⟨h1, h2⟩
    · simp only [hβ id h1]; exact hs.lo id b h2
    · simp only [h1, if_true]; exact hs'.lo 0 _ rfl
  · refine ⟨ev1.size, ev1.keep, ev1.tape, ev1.os, ev1.output, ev1.cell, ev1.org, fun b ⟨id, blk, h1, h2⟩ => ?_, fun id cs fz hi hb => ?_, fun id el k' pr xs' fz hi hb => ?_⟩
    · rcases cases' id blk h1 with ⟨h3, h4⟩ | ⟨h3, h4⟩
      · simp only [hβ id h3] at h2
        exact .inl ⟨id, blk, h4, h2⟩
      · simp only [h3, if_true] at h2
        exact .inr (by omega)
    · exact hev.box id cs fz hb
    · have e := hne id _ hb
      obtain ⟨pr1, xs1, fz1, g1, g2, g3⟩ := ev1.row id el k' pr xs' fz hi hb
      rw [hb] at g1; cases g1
      refine ⟨pr, xs', fz, by rw [getB_setB_ne _ _ _ _ e]; exact hb, Nat.le_refl _, fun hl => ⟨hβ id e, (g3 hl).2⟩⟩
  · simp only [Rep] at hr ⊢
    obtain ⟨A, c, h1, h2, e1, k1, pr1, xs1, fz1, h3, h4, h5⟩ := hr
    simp only [getB, Option.some.injEq] at h3
    cases h3
    exact ⟨A, c, h1, h2, e, k, true, xs, 0, getB_setB_self _ _ _ hn, h4, fun hh => by simpa using h5 hh⟩

theorem run_enter {f : FuncId} (hf : E.fok f = true) (args : Array Value) (w : World) : (callFunc f args).run E.P w = .ok (.enter f args) w := by
  obtain ⟨fn, h1, h2, h3⟩ := E.fokok hf
  have h4 : fn.body.isNone = false := by cases hb : fn.body with | none => rw [hb] at h2; cases h2 | some c => rfl
  simp only [callFunc, Sem.run_bind, run_program, Result.andThen_ok, h1, h3, h4, Bool.false_eq_true, if_false, Sem.run_pure]

theorem rangeS_sound {t : TypeId} {x : PV} {X : Value} {nid : Nat} {K : PV → Hp → Prop} (hk : rangeSK E t x h nid K) (hs : SimH E.G w F β h) (hg : E.GI w) (hn : nid < h.length) (hfree : getB h nid = none) (hx : Rep w F β h x X) : VGoal E (Instr.range t X) w F β h K := by
  unfold rangeSK at hk
  split at hk
  · rename_i i hi
    split at hk
    · rename_i l hu
      simp only [Rep, RepP] at hx
      subst hx
      have hur := run_underlying (ty_und hi) w
      rw [hu] at hur
      have hmain := alloc_evo hs (E.gsz hg) hn hfree (.stringIter ⟨⟨l⟩⟩ 0) (.box [.itp l 0] false) (fun hkeep hev =>
        .inr ⟨_, rfl, by show (World.alloc w _).heap[_]? = _; simp only [if_true]; exact alloc_at w _, fun i hi => by simp only [if_true] at hi; exact absurd (hs.fin _ _ hi) (Nat.lt_irrefl _)⟩)
      refine ⟨.pointer (some ⟨w.heap.size, 0, none⟩), _, F, _, _, _, ?_, hk, ?_, hmain.1, hmain.2⟩
      · simp only [Instr.range, Sem.run_bind, hur, Result.andThen_ok, Sem.run_pure, run_newObj_alloc]
      · simp only [Rep, if_true]
        exact ⟨_, _, getB_setB_self _ _ _ hn, trivial⟩
    · exact hk.elim
  · exact hk.elim

theorem nextS_sound {isS : Bool} {x : PV} {X : Value} {t : TypeId} {K : PV → Hp → Prop} (hk : nextSK isS x h K) (hs : SimH E.G w F β h) (hx : Rep w F β h x X) : VGoal E (Instr.next X isS t) w F β h K := by
  unfold nextSK at hk
  split at hk
  · rename_i id
    split at hk
    · rename_i l pos fz hb
      simp only [Rep] at hx
      obtain ⟨_, _, _, rfl⟩ := hx
      rcases hs.blk _ _ hb with ⟨hnm, _⟩ | ⟨y, hy, ho, hF⟩
      · simp [notMap] at hnm
      · injection hy with hy _
        subst hy
        have hh : w.heap[β id]? = some (.stringIter ⟨⟨l⟩⟩ pos) := ho
        have hlt : β id < w.heap.size := (Array.getElem?_eq_some_iff.1 hh).1
        have hget : (getObj (β id)).run E.P w = .ok (.stringIter ⟨⟨l⟩⟩ pos) w := by simp [getObj, Sem.run, hh]
        have hset : ∀ o, (setObj (β id) o).run E.P w = .ok () (w.putObj (β id) o) := fun o => by simp [setObj, Sem.run, hh, World.putObj]
        have hsz : (⟨⟨l⟩⟩ : ByteArray).size = l.length := rfl
        cases hp : Nat.blt pos l.length with
        | true =>
          rw [hp] at hk
          simp only [cond_true] at hk
          have hp' : pos < l.length := Nat.le_of_ble_eq_true hp
          have hmain := write_ok (w' := w.putObj (β id) (.stringIter ⟨⟨l⟩⟩ (pos + (Utf8.decode ⟨⟨l⟩⟩ pos).2))) hs hb (b' := .box [.itp l (pos + (Utf8.decode ⟨⟨l⟩⟩ pos).2)] fz) (by simp)
            (fun k hk => World.putObj_heap_other hk) rfl rfl rfl (.inl ⟨_, _, _, _, rfl, rfl⟩) (fun j hf => absurd hf (hF j)) (fun hkeep hev => .inr ⟨_, rfl, World.putObj_heap_same hlt, hF⟩)
          refine ⟨.tuple #[.bool true, goInt pos, .int .i32 (Utf8.decode ⟨⟨l⟩⟩ pos).1], _, F, β, _, _, ?_, hk, ?_, hmain.1, hmain.2⟩
          · simp only [Instr.next, Sem.run_bind, hget, Result.andThen_ok, hsz, hp', if_true, hset, Sem.run_pure]
          · simp only [Rep]
            refine ⟨_, rfl, ?_⟩
            simp [ReL, Rep, RepP, goInt]
        | false =>
          rw [hp] at hk
          simp only [cond_false] at hk
          have hp' : ¬ pos < l.length := fun h => by
            have : Nat.blt pos l.length = true := Nat.ble_eq_true_of_le h
            rw [hp] at this; cases this
          refine vg_pure (V := .tuple #[.bool false]) hs ?_ hk ?_
          · simp only [Instr.next, Sem.run_bind, hget, Result.andThen_ok, hsz, hp', if_false, Sem.run_pure]
          · simp only [Rep]
            refine ⟨_, rfl, ?_⟩
            simp [ReL, Rep, RepP]
    · exact hk.elim
  · exact hk.elim
end
end Go.Px

set_option linter.unusedVariables false
set_option linter.unusedSimpArgs false
set_option linter.unnecessarySimpa false
namespace Go.Px
open Go
section
variable {Tb : Tab} {E : Env Tb} {w : World} {F : Foot} {β : Nat → Nat} {h : Hp}

theorem max_int (k : IntKind) (a b : Int) (k' : IntKind) : ((Builtin.max2 (.int k a) (.int k' b)).run E.P w) = .ok (.int k (max a b)) w := by
  simp only [Builtin.max2, Sem.run_pure]
  congr 2
  split <;> omega
theorem min_int (k : IntKind) (a b : Int) (k' : IntKind) : ((Builtin.min2 (.int k a) (.int k' b)).run E.P w) = .ok (.int k (min a b)) w := by
  simp only [Builtin.min2, Sem.run_pure]
  congr 2
  split <;> omega

def Next' {Tb : Tab} (E : Env Tb) (w : World) (F : Foot) (β : Nat → Nat) (h : Hp) (K : PV → Hp → Prop) (next : Value → World → Prop) : Prop :=
  ∀ (V : Value) (w' : World) (F' : Foot) (β' : Nat → Nat) (h' : Hp) (v : PV), K v h' → Rep w' F' β' h' v V → SimH E.G w' F' β' h' → Evo h.length w F β h w' F' β' h' → next V w'

theorem call_sound {g : FuncId} {args : List PV} {vs : List Value} {nid : Nat} {K : PV → Hp → Prop} {next : Value → World → Prop} {Qp : List PanicEntry → World → Prop} {Lo : Prop} (hf : E.fok g = true) (hk : callK E g args h nid K) (hs : SimH E.G w F β h) (hg : E.GI w) (hn : nid < h.length) (hfree : getB h nid = none)
    (hr : ReL w F β h args vs) (hnext : Next' E w F β h K next) :
    Calls E.P g vs.toArray w (fun | .returned v, w'' => next v w'' | .panicked c, w'' => Qp c w'' | .outgrown, _ => Lo) := by
  unfold callK at hk
  rw [hf] at hk
  simp only [cond_true] at hk
  · rcases hk with hk | hk | hk
    · obtain ⟨args', h', F', ⟨r, hAF, hK⟩, hrp, hs', hz⟩ := fzL_sound (fz_sound (G := E.G) (w := w) (β := β) 6) _ h F _ _ hk hs hr
      refine (hAF w F' β vs hg (simH_nil hs' β) (RepL.toReL _ _ _ _ hrp)).mono ?_
      rintro e w' ⟨V, v, F2, β2, h2, rfl, ⟨rfl, rfl⟩, hrv, hs2, ev⟩
      obtain ⟨hs3, ev3⟩ := beside hs' hs2.fin ev
      exact hnext V w' F2 β h' v hK (RepP.toRep _ _ _ _ (Rep_nil _ _ hrv)) hs3 (hz.evo.trans' ev3)
    · obtain ⟨args', h', F', ⟨e, k, xs, hAF, hK⟩, hrp, hs', hz⟩ := fzL_sound (fz_sound (G := E.G) (w := w) (β := β) 6) _ h F _ _ hk hs hr
      refine (hAF w F' β vs hg (simH_nil hs' β) (RepL.toReL _ _ _ _ hrp)).mono ?_
      rintro e' w' ⟨V, v, F2, β2, h2, rfl, ⟨rfl, rfl⟩, hrv, hs2, ev⟩
      have hn' : nid < h'.length := by rw [hz.len]; exact hn
      have hfree' : getB h' nid = none := by
        cases hq : getB h' nid with
        | none => rfl
        | some b => obtain ⟨b0, h0⟩ := hz.own nid b hq; rw [hfree] at h0; cases h0
      obtain ⟨a1, a2, a3⟩ := adopt hs' hn' hfree' ev hs2 hrv
      exact hnext V w' F2 _ _ _ hK a3 a1 (hz.evo.trans' a2)
    · obtain ⟨R, hAC, hK⟩ := hk
      refine (hAC w F β vs hg hs hr).mono ?_
      rintro e' w' ⟨V, v, F2, β2, h2, rfl, hR, hrv, hs2, ev⟩
      exact hnext V w' F2 β2 h2 v (hK v h2 hR) hrv hs2 ev

theorem run_v {s : Sem Value} {V : Value} {w' : World} (hr : s.run E.P w = .ok V w') : (do pure (Next.value (← s)) : Sem Next).run E.P w = .ok (.value V) w' := by
  simp [hr]

theorem parts_rel {ρ : Operand → Value} {arg : Operand → PV} (harg : ∀ x, Rep w F β h (arg x) (ρ x)) (parts : Array (Nat × Operand)) :
    (parts.toList.map fun p => (p.1, unkb (arg p.2))).length = (parts.map fun (i, x) => (i, ρ x)).size ∧
    ∀ (j i : Nat) (v : PV), (parts.toList.map fun p => (p.1, unkb (arg p.2)))[j]? = some (i, v) → ∃ V, (parts.map fun (i, x) => (i, ρ x))[j]? = some (i, V) ∧ Rep w F β h v V := by
  refine ⟨by simp, fun j i v hj => ?_⟩
  rw [List.getElem?_map] at hj
  obtain ⟨⟨i', x⟩, hx, he⟩ := Option.map_eq_some_iff.1 hj
  simp only [Prod.mk.injEq] at he
  obtain ⟨rfl, rfl⟩ := he
  simp only [Array.getElem?_toList] at hx
  exact ⟨ρ x, by simp [hx], unkb_rep (harg x)⟩

theorem args_rel {ρ : Operand → Value} {arg : Operand → PV} (harg : ∀ x, Rep w F β h (arg x) (ρ x)) (xs : List Operand) : ReL w F β h (xs.map fun x => unkb (arg x)) (xs.map ρ) := by
  induction xs with
  | nil => simp [ReL]
  | cons x xs ih => exact ⟨_, _, rfl, unkb_rep (harg x), ih⟩

theorem opt_rel {ρ : Operand → Value} {arg : Operand → PV} (harg : ∀ x, Rep w F β h (arg x) (ρ x)) (o : Option Operand) : (o.map arg = none ∧ o.map ρ = none) ∨ ∃ p V, o.map arg = some p ∧ o.map ρ = some V ∧ Rep w F β h p V := by
  cases o with
  | none => exact .inl ⟨rfl, rfl⟩
  | some x => exact .inr ⟨_, _, rfl, rfl, harg x⟩

set_option maxHeartbeats 1600000 in
theorem op_sound {o : Oper} {a : Act} {arg : Operand → PV} {nid : Nat} {K : PV → Hp → Prop} {next : Act → World → Prop} {Q : Exit → Act → World → Prop} {r : Option Nat} (hk : vcVal E o.op arg h nid K) (hs : SimH E.G w F β h) (hg : E.GI w) (hal : allocs o.op = true → nid < h.length ∧ getB h nid = none)
    (harg : ∀ x, Rep w F β h (arg x) (a.eval x)) (hnext : Next' E w F β h K fun V w' => next (a.put o.dst V) w') : o.wpIn (fw r) 0 E.P a w next Q := by
  have hd : ∀ c, o.op ≠ .defer c := fun c hc => by rw [hc] at hk; simp only [vcVal] at hk
  have fin : ∀ {s : Sem Value}, execOp a.eval o = (do pure (Next.value (← s))) → VGoal E s w F β h K → o.wpIn (fw r) 0 E.P a w next Q := by
    rintro s he ⟨V, w', F', β', h', v, hr, hK, hrep, hs', hev⟩
    refine wpIn_exec hd (by rw [he, run_v hr]) ?_
    exact hnext V w' F' β' h' v hK hrep hs' hev
  have pv : ∀ {x : Operand} {v : PV} {V : Value}, (execOp a.eval o).run E.P w = .ok (.value V) w → K v h → Rep w F β h v V → o.wpIn (fw r) 0 E.P a w next Q := by
    intro x v V he hK hrep
    refine wpIn_exec hd he ?_
    exact hnext V w F β h v hK hrep hs (Evo.refl _ _ _ _)
  obtain ⟨dst, op, type, pos, after, guard⟩ := o
  simp only at hk hnext
  cases op <;> simp only [vcVal] at hk <;> try exact hk.elim
  case move x => exact pv (x := x) (by simp [execOp]) hk (harg x)
  case assign x => exact pv (x := x) (by simp [execOp]) hk (harg x)
  case pick c x y =>
    have hc := harg c
    unfold pickK at hk
    split at hk
    · rename_i hq
      rw [hq] at hc
      simp only [Rep, RepP] at hc
      exact pv (x := x) (by simp [execOp, hc, asBool]) hk (harg x)
    · rename_i hq
      rw [hq] at hc
      simp only [Rep, RepP] at hc
      exact pv (x := x) (by simp [execOp, hc, asBool]) hk (harg y)
    · rename_i t hq
      rw [hq] at hc
      simp only [Rep, RepP] at hc
      split at hk
      · rename_i b1 b2 h1 h2
        have hx := unkb_rep (harg x); rw [h1] at hx
        have hy := unkb_rep (harg y); rw [h2] at hy
        simp only [Rep, RepP] at hx hy
        refine pv (x := x) (V := .bool (bif t then b1 else b2)) ?_ hk (by simp only [Rep, RepP])
        cases t <;> simp [execOp, hc, asBool, hx, hy]
      · exact hk.elim
    · exact hk.elim
  case alloc t =>
    split at hk
    · rename_i i hi
      exact fin (s := Instr.alloc t true (.tuple #[])) (by simp only [execOp]) (alloc_sound hi hk hs hg (hal rfl).1 (hal rfl).2)
    · exact hk.elim
  case box t x => exact fin (s := Instr.box t (a.eval x)) (by simp only [execOp]) (box_sound hk hs hg (hal rfl).1 (hal rfl).2 (unkb_rep (harg x)))
  case build t parts => exact fin (s := Instr.build t (parts.map fun (i, x) => (i, a.eval x))) (by simp only [execOp]) (build_sound hk hs (parts_rel harg parts))
  case buildSlice t len parts => exact fin (s := Instr.buildSlice t len (parts.map fun (i, x) => (i, a.eval x))) (by simp only [execOp]) (buildSlice_sound hk hs hg (hal rfl).1 (hal rfl).2 (parts_rel harg parts))
  case load t x => exact fin (s := Instr.loadAt t (a.eval x)) (by simp only [execOp]) (load_sound hk hs hg (harg x))
  case store t x y =>
    obtain ⟨w', F', β', h', hr, hK, hs', hev⟩ := store_sound hk hs (harg x) (unkb_rep (harg y))
    have he : (execOp a.eval ⟨dst, .store t x y, type, pos, after, guard⟩).run E.P w = .ok .skip w' := by simp [execOp, hr]
    refine wpIn_exec hd he ?_
    exact hnext undef w' F' β' h' .undef hK (by simp [Rep, RepP]) hs' hev
  case makeMap t r => exact fin (s := Instr.makeMap t (r.map a.eval)) (by simp only [execOp]) (makeMap_sound hk hs hg (hal rfl).1 (hal rfl).2 (by
    cases r with
    | none => trivial
    | some x => exact harg x))
  case lookup t x ix ok => exact fin (s := Instr.lookup t (a.eval x) (a.eval ix) ok) (by simp only [execOp]) (lookup_sound hk hs (harg x) (unkb_rep (harg ix)))
  case mapUpdate t m k x =>
    obtain ⟨w', F', β', h', hr, hK, hs', hev⟩ := mapUpdate_sound hk hs (harg m) (unkb_rep (harg k)) (unkb_rep (harg x))
    have he : (execOp a.eval ⟨dst, .mapUpdate t m k x, type, pos, after, guard⟩).run E.P w = .ok .skip w' := by simp [execOp, hr]
    refine wpIn_exec hd he ?_
    exact hnext undef w' F' β' h' .undef hK (by simp [Rep, RepP]) hs' hev
  case insert t m k x =>
    obtain ⟨w', F', β', h', hr, hK, hs', hev⟩ := mapUpdate_sound hk hs (harg m) (unkb_rep (harg k)) (unkb_rep (harg x))
    have he : (execOp a.eval ⟨dst, .insert t m k x, type, pos, after, guard⟩).run E.P w = .ok .skip w' := by simp [execOp, hr]
    refine wpIn_exec hd he ?_
    exact hnext undef w' F' β' h' .undef hK (by simp [Rep, RepP]) hs' hev
  case range t x => exact fin (s := Instr.range t (a.eval x)) (by simp only [execOp]) (rangeS_sound hk hs hg (hal rfl).1 (hal rfl).2 (harg x))
  case next it isS => exact fin (s := Instr.next (a.eval it) isS type) (by simp only [execOp]) (nextS_sound hk hs (harg it))
  case nilCheck x =>
    obtain ⟨hK, hX⟩ := nilCheck_sound hk (harg x)
    refine pv (x := x) (V := a.eval x) ?_ hK (harg x)
    rcases hX with ⟨ad, hX⟩ | ⟨f, fa, ga, hX⟩ <;> simp [execOp, hX]
  case binOp op t x y yt => exact fin (s := do eqGuard op t x y (a.eval x) (a.eval y); binOp op t (a.eval x) (a.eval y)) (by simp only [execOp]) (bin_sound hk hs (harg x) (harg y) (fun v hv => by rw [hv]; rfl))
  case unOp op t x => exact fin (s := Op.unary op (a.eval x)) (by simp only [execOp]) (un_sound hk hs (harg x))
  case convert s d x => exact fin (s := convert s d (a.eval x)) (by simp only [execOp]) (conv_sound hk hs (harg x))
  case makeFunc fn first cap =>
    refine pv (x := .global 0) (V := .func fn (first.map a.eval) (cap.map a.eval)) (by simp [execOp, Instr.makeFunc]) hk ?_
    simp only [Rep]
    exact ⟨_, _, rfl, by simpa using args_rel harg first.toList, by simpa using args_rel harg cap.toList⟩
  case makeSlice t l c => exact fin (s := Instr.makeSlice t (a.eval l) (a.eval c)) (by simp only [execOp]) (makeSlice_sound hk hs hg (hal rfl).1 (hal rfl).2 (harg l) (harg c))
  case slice t x lo hi mx => exact fin (s := Instr.sliceAt t (a.eval x) (lo.map a.eval) (hi.map a.eval) (mx.map a.eval)) (by simp only [execOp]) (slice_sound hk hs (harg x) (opt_rel harg lo) (opt_rel harg hi) (opt_rel harg mx))
  case fieldAddr s x f => exact fin (s := Instr.fieldAt s (a.eval x) f) (by simp only [execOp]) (faddr_sound hk hs (harg x))
  case field s x f => exact fin (s := Instr.field s (a.eval x) f) (by simp only [execOp]) (field_sound hk hs (harg x))
  case indexAddr t x i => exact fin (s := Instr.indexAt t (a.eval x) (a.eval i)) (by simp only [execOp]) (iaddr_sound hk hs (harg x) (harg i))
  case index t x i => exact fin (s := Instr.index t (a.eval x) (a.eval i)) (by simp only [execOp]) (index_sound hk hs (harg x) (harg i))
  case extract x i => exact fin (s := Instr.extract (a.eval x) i) (by simp only [execOp]) (extract_sound hk hs (harg x))
  case call c =>
    obtain ⟨callee, cargs, cts⟩ := c
    unfold callOpK at hk
    simp only at hk
    split at hk
    · rename_i fo
      split at hk
      · rename_i g first cap hfo
        have hf := harg fo
        rw [hfo] at hf
        simp only [Rep] at hf
        obtain ⟨fa, ga, hF, hfa, hga⟩ := hf
        have hargs : ReL w F β h (first ++ cargs.toList.map (fun x => unkb (arg x)) ++ cap) (fa.toList ++ cargs.toList.map a.eval ++ ga.toList) := ReL_append (ReL_append hfa (args_rel harg _)) hga
        cases h1 : E.fok g with
        | false =>
          unfold callK at hk
          rw [h1] at hk
          simp only [cond_false] at hk
          obtain ⟨args', h', F', ⟨r', hNF, hK⟩, hrp, hs', hz⟩ := fzL_sound (fz_sound (G := E.G) (w := w) (β := β) 6) _ h F _ _ hk hs hargs
          obtain ⟨V, hV, hrV⟩ := hNF w F' _ hg hrp
          have he : (execOp a.eval ⟨dst, .call ⟨.value fo, cargs, cts⟩, type, pos, after, guard⟩).run E.P w = .ok (.value V) w := by
            simp only [execOp, resolve, Sem.run_bind, Deferred.ofValue, hF, Sem.run_pure, Result.andThen_ok, invoke]
            rw [← hV]
            congr 2
            apply Array.ext'
            simp
          refine wpIn_exec hd he ?_
          exact hnext V w F' β h' r' hK (RepP.toRep _ _ _ _ hrV) hs' hz.evo
        | true =>
        have h2 := call_sound (Qp := fun c w'' => Q (.panic c) a w'') (Lo := LetsOut Q) h1 hk hs hg (hal rfl).1 (hal rfl).2 hargs hnext
        have he : (execOp a.eval ⟨dst, .call ⟨.value fo, cargs, cts⟩, type, pos, after, guard⟩).run E.P w = .ok (.enter g (fa.toList ++ cargs.toList.map a.eval ++ ga.toList).toArray) w := by
          simp only [execOp, resolve, Sem.run_bind, Deferred.ofValue, hF, Sem.run_pure, Result.andThen_ok, invoke, run_enter h1]
          congr 2
          apply Array.ext'
          simp
        refine wpIn_exec hd he ?_
        exact ⟨fun h => (by rw [fw_depth] at h; cases h), callsIn_fw.2 h2⟩
      · rename_i id hfo
        have hf := harg fo
        rw [hfo] at hf
        simp only [Rep] at hf
        obtain ⟨hF, _⟩ := hf
        obtain ⟨R, hRC, hK⟩ := hk
        obtain ⟨rl, hl1, hl2, hl3⟩ := hRC w F β (cargs.toList.map a.eval) hg hs (args_rel harg _)
        have he : (execOp a.eval ⟨dst, .call ⟨.value fo, cargs, cts⟩, type, pos, after, guard⟩).run E.P w = .ok (.round (β id) rl.fn ((rl.params.zip (cargs.toList.map a.eval).toArray).foldl (fun tmps (t, a) => tmps.setIfInBounds t a) rl.tmps) rl.assign rl.body) w := by
          have hget : (Instr.getLoop (β id)).run E.P w = .ok rl w := by simp [Instr.getLoop, getObj, Sem.run, hl1]
          have hsz : cargs.size = rl.params.size := by simpa using hl2
          have hmap : (cargs.toList.map a.eval).toArray = cargs.map a.eval := by apply Array.ext'; simp
          simp [execOp, resolve, Deferred.ofValue, hF, invoke, Instr.yield, hget, hsz, hmap]
        refine wpIn_exec hd he ?_
        refine ⟨fun h => (by rw [fw_depth] at h; cases h), roundIn_fw (RoundIn.mono hl3 ?_)⟩
        rintro e w' ⟨V, v, F', β', h', rfl, hR, hrep, hs', hev⟩
        exact hnext V w' F' β' h' v (hK v h' hR) hrep hs' hev
      · exact hk.elim
    · split at hk
      · rename_i x t hx ht
        have e1 : cargs = #[x] := by apply Array.ext'; simpa using hx
        have e2 : cts = #[t] := by apply Array.ext'; simpa using ht
        subst e1 e2
        exact fin (s := Builtin.len_ #[t] type #[a.eval x]) (by simp [execOp, resolve, invoke, builtin]) (len_sound hk hs (harg x))
      · exact hk.elim
    · split at hk
      · rename_i s x t t' hx ht
        have e1 : cargs = #[s, x] := by apply Array.ext'; simpa using hx
        have e2 : cts = #[t, t'] := by apply Array.ext'; simpa using ht
        subst e1 e2
        cases htt : Nat.beq t t' with
        | false => rw [htt] at hk; exact hk.elim
        | true =>
          rw [htt] at hk
          simp only [cond_true] at hk
          obtain rfl := Nat.eq_of_beq_eq_true htt
          exact fin (s := Builtin.append_ #[t, t] type #[a.eval s, a.eval x]) (by simp [execOp, resolve, invoke, builtin]) (append_sound hk hs hg (hal rfl).1 (hal rfl).2 (harg s) (harg x))
      · exact hk.elim
    · split at hk
      · rename_i x y hx
        have e1 : cargs = #[x, y] := by apply Array.ext'; simpa using hx
        subst e1
        split at hk
        · rename_i k b k' b' hx1 hy1
          have hx2 := harg x; rw [hx1] at hx2
          have hy2 := harg y; rw [hy1] at hy2
          simp only [Rep, RepP] at hx2 hy2
          refine fin (s := Builtin.max_ cts type #[a.eval x, a.eval y]) (by simp [execOp, resolve, invoke, builtin]) (vg_pure (V := .int k (max b b')) hs ?_ hk (by simp only [Rep, RepP]))
          simp only [Builtin.max_, hx2, hy2, List.foldlM_cons, List.foldlM_nil, Sem.run_bind, max_int, Result.andThen_ok, Sem.run_pure]
        · exact hk.elim
      · exact hk.elim
    · split at hk
      · rename_i x y hx
        have e1 : cargs = #[x, y] := by apply Array.ext'; simpa using hx
        subst e1
        split at hk
        · rename_i k b k' b' hx1 hy1
          have hx2 := harg x; rw [hx1] at hx2
          have hy2 := harg y; rw [hy1] at hy2
          simp only [Rep, RepP] at hx2 hy2
          refine fin (s := Builtin.min_ cts type #[a.eval x, a.eval y]) (by simp [execOp, resolve, invoke, builtin]) (vg_pure (V := .int k (min b b')) hs ?_ hk (by simp only [Rep, RepP]))
          simp only [Builtin.min_, hx2, hy2, List.foldlM_cons, List.foldlM_nil, Sem.run_bind, min_int, Result.andThen_ok, Sem.run_pure]
        · exact hk.elim
      · exact hk.elim
    · exact hk.elim
end
end Go.Px
