/- Shows what a function leaves, from the conditions of its code; no condition. -/
import Derived.Test.YtecojilckmiobaaGreatDoorPxC
import Derived.Laws.StructEq
import Derived.ChangeKeysEq
set_option linter.unusedVariables false
set_option linter.unusedSimpArgs false
set_option linter.unnecessarySimpa false
namespace Go.Px
open Go

section
variable {Tb : Tab} {E : Env Tb} {N B : Nat}

theorem vcVal_congr {arg arg' : Operand → PV} {op : Op} {hp : Hp} {nid : Nat} {K : PV → Hp → Prop} (h : ∀ x ∈ op.operands, arg x = arg' x) : vcVal E op arg hp nid K = vcVal E op arg' hp nid K := by
  have pairs : ∀ ps : Array (Nat × Operand), (∀ x ∈ ps.map (·.2), arg x = arg' x) → (ps.toList.map fun p => (p.1, unkb (arg p.2))) = (ps.toList.map fun p => (p.1, unkb (arg' p.2))) := fun ps hp =>
    List.map_congr_left fun p hm => by rw [hp p.2 (Array.mem_map.2 ⟨p, by simpa using hm, rfl⟩)]
  have lst : ∀ xs : Array Operand, (∀ x ∈ xs, arg x = arg' x) → (xs.toList.map fun x => unkb (arg x)) = xs.toList.map fun x => unkb (arg' x) := fun xs hx =>
    List.map_congr_left fun x hm => by rw [hx x (by simpa using hm)]
  cases op <;> simp only [Op.operands] at h <;> simp only [vcVal]
  case build t ps => rw [pairs ps fun x hx => h x (by simpa using hx)]
  case buildSlice t n ps => rw [pairs ps fun x hx => h x (by simpa using hx)]
  case makeFunc fn first captured => rw [lst first fun x hx => h x (by simp [hx]), lst captured fun x hx => h x (by simp [hx])]
  case makeMap t r => cases r <;> simp_all
  case slice t x lo hi mx => cases lo <;> cases hi <;> cases mx <;> simp_all
  case call c =>
    unfold callOpK
    have ha : ∀ x ∈ c.args.toList, arg x = arg' x := fun x hx => h x (by simp [Call.operands]; exact .inr (by simpa using hx))
    cases hc : c.callee with
    | value fo =>
      simp only
      rw [lst c.args fun x hx => ha x (by simpa using hx), h fo (by simp [Call.operands, hc])]
    | invoke r m => rfl
    | builtin b =>
      cases b <;> simp only
      all_goals
        split <;> first
          | rfl
          | (rename_i h1; rw [h1] at ha; simp_all)
          | (rename_i h1 h2; rw [h1] at ha; simp_all)
  all_goals (first | rfl | (simp_all; done))

def S1 {Tb : Tab} (E : Env Tb) (n0 : Nat) (gs : Option Nat → Bool) (i : Nat) (st : AS) (o : AOp) (x : DInfo) (v : PV) (wr : List (Nat × Option Blk)) : Prop :=
  x.dst = o.dst ∧ x.looks = looksOf o ∧ (∀ id, id ∈ x.wids → id ∈ x.touch) ∧ (∀ p, p ∈ wr → p.1 ∈ x.wids) ∧ (∀ id k u, x.ins = some (id, k, u) → Tr.AbsZ k (getB st.h id)) ∧
  guardD st o.guard ((allocs o.op = true → getB st.h (n0 + i) = none ∧ (n0 + i) ∈ x.touch) ∧ ∃ v0, (∀ (w : World) (F : Foot) (β : Nat → Nat) (h : Hp) (V : Value), Rep w F β h v0 V → Rep w F β h v V) ∧
    ∀ h2, Agree x.touch st.h h2 → (∀ id k u, x.ins = some (id, k, u) → absent k (getB h2 id) = true ∧ ∀ ks vs fz, getB h2 id = some (.box [.mapp ks vs] fz) → ks.length = vs.length) →
      ∃ h3, HMap h3 (insH x.ins (app wr h2)) ∧ ∀ K2 : PV → Hp → Prop, K2 v0 h3 → vcVal E o.op (opd st.tm) h2 (n0 + i) K2) (v = .tup [] ∧ wr = [] ∧ x.ins = none)

inductive Line {Tb : Tab} (E : Env Tb) (n0 : Nat) (gs : Option Nat → Bool) : Nat → AS → List AOp → List (DInfo × PV × List (Nat × Option Blk)) → AS → Prop
  | nil {i : Nat} {st : AS} : Line E n0 gs i st [] [] st
  | cons {i : Nat} {st st' : AS} {o : AOp} {r : List AOp} {x : DInfo} {v : PV} {wr : List (Nat × Option Blk)} {tr : List (DInfo × PV × List (Nat × Option Blk))} :
      S1 E n0 gs i st o x v wr → Line E n0 gs (i + 1) ⟨setD o.dst v st.tm, insH x.ins (app wr st.h)⟩ r tr st' → Line E n0 gs i st (o :: r) ((x, v, wr) :: tr) st'

theorem guardD_mono {st : AS} {g : Option (Nat × Bool)} {y n : Prop} (h : guardD st g y n) : ∃ b : Bool, (∀ y' n' : Prop, (b = true → y') → (b = false → n') → guardD st g y' n') ∧ (b = true → y) ∧ (b = false → n) := by
  unfold guardD at h ⊢
  cases g with
  | none => exact ⟨true, fun y' n' h1 _ => h1 rfl, fun _ => h, fun e => (nomatch e)⟩
  | some gw =>
    obtain ⟨g, want⟩ := gw
    simp only at h ⊢
    split at h
    · rename_i b hb
      cases hc : (cond want b (not b)) with
      | true => rw [hc] at h; exact ⟨true, fun y' n' h1 _ => by simp only [cond_true]; exact h1 rfl, fun _ => h, fun e => (nomatch e)⟩
      | false => rw [hc] at h; exact ⟨false, fun y' n' _ h1 => by simp only [cond_false]; exact h1 rfl, fun e => (nomatch e), fun _ => h⟩
    · exact ⟨false, fun y' n' _ h1 => h1 rfl, fun e => (nomatch e), fun _ => h⟩
    · exact h.elim

theorem line_of_vc {n0 : Nat} {gs : Option Nat → Bool} {K : AS → List DInfo → Prop} : ∀ (l : List AOp) (i : Nat) (st : AS) (acc : List DInfo), vcLine E gs n0 l i st acc K →
    ∃ tr st', Line E n0 gs i st l tr st' ∧ K st' (acc ++ tr.map (·.1))
  | [], i, st, acc, hk => ⟨[], st, .nil, by simpa [vcLine] using hk⟩
  | o :: r, i, st, acc, hk => by
    simp only [vcLine] at hk
    obtain ⟨b, hb, hy, hn⟩ := guardD_mono hk
    cases b with
    | false =>
      obtain ⟨tr, st', h1, h2⟩ := line_of_vc r (i + 1) _ _ (hn rfl)
      refine ⟨(⟨o.dst, looksOf o, [], [], none⟩, .tup [], []) :: tr, st', .cons ⟨rfl, rfl, fun id h => h, nin, fun _ _ _ e => (nomatch e), hb _ _ (fun e => (nomatch e)) (fun _ => ⟨rfl, rfl, rfl⟩)⟩ h1, by simpa using h2⟩
    | true =>
      have hk := hy rfl
      cases hins : insOf o.op (opd st.tm) with
      | some q =>
        obtain ⟨id, key, val⟩ := q
        rw [hins] at hk
        simp only at hk
        cases hc : (insTy E o.op key && absent key (getB st.h id)) with
        | false => rw [hc] at hk; exact hk.elim
        | true =>
          rw [hc] at hk
          simp only [cond_true] at hk
          simp only [Bool.and_eq_true] at hc
          obtain ⟨tr, st', h4, h5⟩ := line_of_vc r (i + 1) _ _ hk
          refine ⟨(⟨o.dst, looksOf o, [n0 + i], [], some (id, key, val)⟩, .undef, []) :: tr, st', .cons ⟨rfl, rfl, fun _ h => (nomatch h), nin, fun id' k' u' e => by cases e; exact Tr.AbsZ.of hc.2, hb _ _ (fun _ => ⟨fun ha => ?_, .undef, fun w F β h V hr => hr, fun h2 ag hab => ?_⟩) (fun e => (nomatch e))⟩ h4, by simpa using h5⟩
          · exfalso
            cases ho : o.op <;> rw [ho] at hins ha <;> simp [insOf, allocs] at hins ha
          · obtain ⟨ha, hl⟩ := hab id key val rfl
            obtain ⟨ks, vs, fz, hg, hne⟩ := Tr.absent_spec.1 ha
            have hlen := hl ks vs fz hg
            have hlt := getB_lt _ _ _ hg
            refine ⟨setB h2 id (some (.box [.mapp (ks ++ [key]) (vs ++ [val])] fz)), fun id' => ?_, fun K2 hk2 => ?_⟩
            · by_cases e : id' = id
              · subst e
                right
                refine ⟨ks ++ [key], vs ++ [val], _, _, fz, getB_setB_self _ _ _ hlt, ?_, MapEq.ins hlen hne⟩
                show getB (insH (some (id', key, val)) h2) id' = _
                rw [getB_insH_self, hg]
                rfl
              · left
                show getB (insH (some (id, key, val)) h2) id' = _
                rw [getB_insH_ne (fun k v h => e (by injection h with h; injection h with h _; exact h.symm)), getB_setB_ne _ _ _ _ e]
            · have hm : midx key ks 0 = some none := by
                simp only [absent, hg] at ha
                split at ha
                · rename_i h; exact h
                · cases ha
              cases ho : o.op <;> rw [ho] at hins <;> simp only [insOf] at hins <;> (try cases hins; done)
              case insert t m k x =>
                have hc1 := hc.1
                rw [ho] at hc1
                simp only [insTy] at hc1
                split at hins
                · rename_i idm hmap
                  injection hins with hins
                  injection hins with e1 e2
                  injection e2 with e2 e3
                  subst e1 e2 e3
                  simp only [vcVal, mapUpdateK, hmap]
                  split at hc1
                  · rename_i ti hti
                    simp only [hti]
                    split at hc1
                    · rename_i kt et hu
                      simp only [hu]
                      split at hc1
                      · rename_i ik hik
                        simp only [hik, hc1, cond_true, hg]
                        exact ⟨none, hm, hk2⟩
                      · cases hc1
                    · cases hc1
                  · cases hc1
                · cases hins
      | none =>
      rw [hins] at hk
      simp only at hk
      have hfree : (allocs o.op = true → getB st.h (n0 + i) = none) ∧ vcValDX E o.op (opd st.tm) st.h (n0 + i) fun v h' => splitB (gs o.dst) v fun v =>
        vcLine E gs n0 r (i + 1) ⟨setD o.dst v st.tm, h'⟩ (acc ++ [⟨o.dst, looksOf o, touch o.op (opd st.tm) (n0 + i), wids o.op (opd st.tm) (n0 + i), none⟩]) K := by
        unfold freeK at hk
        cases ha : allocs o.op with
        | false => rw [ha] at hk; exact ⟨fun e => (nomatch e), hk⟩
        | true =>
          rw [ha] at hk
          simp only [cond_true] at hk
          split at hk
          · rename_i hg; exact ⟨fun _ => hg, hk⟩
          · exact hk.elim
      obtain ⟨hfr, hk⟩ := hfree
      have hk := valD_x hk
      obtain ⟨v0, wr, h1, h2, h3⟩ := loc_val (T := touch o.op (opd st.tm) (n0 + i)) (W := wids o.op (opd st.tm) (n0 + i)) (fun _ h => h) (fun _ h => h) hk
      have hsp : ∃ v, (∀ (w : World) (F : Foot) (β : Nat → Nat) (h : Hp) (V : Value), Rep w F β h v0 V → Rep w F β h v V) ∧ vcLine E gs n0 r (i + 1) ⟨setD o.dst v st.tm, app wr st.h⟩ (acc ++ [⟨o.dst, looksOf o, touch o.op (opd st.tm) (n0 + i), wids o.op (opd st.tm) (n0 + i), none⟩]) K := by
        unfold splitB at h2
        split at h2
        · rename_i b hgs
          cases b with
          | true => exact ⟨.kb true, fun w F β h V hr => by simpa [Rep, RepP] using hr, h2.1 rfl⟩
          | false => exact ⟨.kb false, fun w F β h V hr => by simpa [Rep, RepP] using hr, h2.2 rfl⟩
        · exact ⟨_, fun w F β h V hr => hr, h2⟩
      obtain ⟨v, hv, h2⟩ := hsp
      obtain ⟨tr, st', h4, h5⟩ := line_of_vc r (i + 1) _ _ h2
      have hwt : ∀ id, id ∈ wids o.op (opd st.tm) (n0 + i) → id ∈ touch o.op (opd st.tm) (n0 + i) := by
        intro id hid
        cases ho : o.op <;> rw [ho] at hid <;> simp only [wids, touch, reads, List.mem_cons, List.mem_flatMap, List.not_mem_nil, or_false] at hid ⊢ <;> first
          | exact hid.elim
          | exact .inl hid
          | exact .inr ⟨_, rfl, hid⟩
          | exact hid
      exact ⟨(⟨o.dst, looksOf o, touch o.op (opd st.tm) (n0 + i), wids o.op (opd st.tm) (n0 + i), none⟩, v, wr) :: tr, st', .cons ⟨rfl, rfl, hwt, h1, fun _ _ _ e => (nomatch e), hb _ _ (fun _ => ⟨fun ha => ⟨hfr ha, by simp [touch]⟩, v0, hv, fun h2 ag _ => ⟨app wr h2, HMap.refl _, fun K2 hk2 => h3 h2 ag K2 hk2⟩⟩) (fun e => (nomatch e))⟩ h4, by simpa using h5⟩

/-- The trace as functions of the number. -/
def trOf (st0 : AS) (tr : List (DInfo × PV × List (Nat × Option Blk))) : Tr where
  dst i := match tr[i]? with
    | some x => x.1.dst
    | none => none
  looks i := match tr[i]? with
    | some x => x.1.looks
    | none => []
  touch i := match tr[i]? with
    | some x => x.1.touch
    | none => []
  wids i := match tr[i]? with
    | some x => x.1.wids
    | none => []
  v i := match tr[i]? with
    | some x => x.2.1
    | none => .undef
  wr i := match tr[i]? with
    | some x => x.2.2
    | none => []
  ins i := match tr[i]? with
    | some x => x.1.ins
    | none => none
  st0 := st0

theorem line_length {n0 : Nat} {gs : Option Nat → Bool} {i : Nat} {st st' : AS} {l : List AOp} {tr : List (DInfo × PV × List (Nat × Option Blk))} (h : Line E n0 gs i st l tr st') : tr.length = l.length := by
  induction h with
  | nil => rfl
  | cons _ _ ih => simp [ih]

theorem line_at {n0 : Nat} {gs : Option Nat → Bool} {st0 : AS} {tr0 : List (DInfo × PV × List (Nat × Option Blk))} {i : Nat} {st st' : AS} {l : List AOp} {tr : List (DInfo × PV × List (Nat × Option Blk))} (h : Line E n0 gs i st l tr st') :
    (∀ p, tr0[i + p]? = tr[p]?) → st = (trOf st0 tr0).replay (fun _ => true) i →
    (∀ (p : Nat) (o : AOp), l[p]? = some o → ∃ x v wr, tr[p]? = some (x, v, wr) ∧ S1 E n0 gs (i + p) ((trOf st0 tr0).replay (fun _ => true) (i + p)) o x v wr) ∧ st' = (trOf st0 tr0).replay (fun _ => true) (i + l.length) := by
  induction h with
  | nil => intro _ hs; exact ⟨fun p o ho => by simp at ho, by simpa using hs⟩
  | @cons i st st' o r x v wr tr h1 h2 ih =>
    intro htr hs
    have h0 : tr0[i]? = some (x, v, wr) := by simpa using htr 0
    have hd : x.dst = o.dst := h1.1
    have hs1 : (⟨setD o.dst v st.tm, insH x.ins (app wr st.h)⟩ : AS) = (trOf st0 tr0).replay (fun _ => true) (i + 1) := by
      simp only [Tr.replay, cond_true, Tr.eff, trOf, h0]
      rw [hs, hd]
      rfl
    obtain ⟨ha, hb⟩ := ih (fun p => by have := htr (p + 1); simpa [Nat.add_assoc, Nat.add_comm 1 p] using this) hs1
    refine ⟨fun p o' ho => ?_, ?_⟩
    · cases p with
      | zero =>
        simp at ho; subst ho
        exact ⟨x, v, wr, rfl, by rw [Nat.add_zero, ← hs]; exact h1⟩
      | succ p =>
        have := ha p o' (by simpa using ho)
        rw [show i + (p + 1) = i + 1 + p by omega]
        simpa using this
    · rw [hb]; simp [Nat.add_assoc, Nat.add_comm 1]

theorem eraseOps_at {ops : Array Oper} : ∀ (l : List Oper) (al : List AOp), eraseOps N ops l = some al → al.length = l.length ∧ ∀ (p : Nat) (o : Oper), l[p]? = some o → ∃ g, al[p]? = some ⟨o.dst, o.op, g⟩ ∧ (∀ d, o.dst = some d → d < N) ∧ GOk N ops o.guard g
  | [], al, h => by
    unfold eraseOps at h; injection h with h; subst h
    exact ⟨rfl, fun p o ho => by simp at ho⟩
  | o :: r, al, h => by
    obtain ⟨g, r', rfl, hr, hd, hg⟩ := eraseOps_cons h
    obtain ⟨hl, hp⟩ := eraseOps_at r r' hr
    refine ⟨by simp [hl], fun p o' ho => ?_⟩
    cases p with
    | zero => simp at ho; subst ho; exact ⟨g, rfl, hd, hg⟩
    | succ p => simpa using hp p o' (by simpa using ho)

theorem getB_nones : ∀ (h : Hp) (n id : Nat), getB (h ++ nones n) id = getB h id
  | [], 0, id => rfl
  | [], n + 1, id => by
    cases id with
    | zero => rfl
    | succ id => exact getB_nones [] n id
  | x :: h, n, id => by
    cases id with
    | zero => rfl
    | succ id => exact getB_nones h n id
theorem length_nones : ∀ n, (nones n).length = n
  | 0 => rfl
  | n + 1 => by simp [nones, length_nones n]

/-- What an operation does, by its trace. -/
theorem does_of {r : Option Nat} {ops : Array Oper} {Q : Exit → Act → World → Prop} {n0 j : Nat} {gs : Option Nat → Bool} {R : Tr} {st : AS} {o : Oper} {g : Option (Nat × Bool)} {x : DInfo} {v : PV} {wr : List (Nat × Option Blk)}
    (ho : ops[j]? = some o) (hd : ∀ d, o.dst = some d → d < N) (hg : GOk N ops o.guard g) (h1 : S1 E n0 gs j st ⟨o.dst, o.op, g⟩ x v wr) (hlen : n0 + j < st.h.length)
    (hR : R.dst j = x.dst ∧ R.looks j = x.looks ∧ R.touch j = x.touch ∧ R.v j = v ∧ R.wr j = wr ∧ R.ins j = x.ins) : Does E r N B ops Q R j st := by
  obtain ⟨r1, r2, r3, r4, r5, r6⟩ := hR
  obtain ⟨hdst, hlooks, hwt, hww, _, hgd⟩ := h1
  intro st2 hl ha hlen2 hab F β a w K s hK
  have heff : R.eff j st2 = ⟨setD o.dst v st2.tm, insH x.ins (app wr st2.h)⟩ := by simp only [Tr.eff, r1, r4, r5, r6, hdst]
  rw [r6] at hab
  rw [r2, hlooks] at hl
  rw [r3] at ha
  rw [heff] at hK
  unfold wpOpIn
  simp only [ho]
  have hskip : Region.wanted o (yielded ops a.tmps) = false → v = .tup [] ∧ wr = [] ∧ x.ins = none → (if Region.wanted o (yielded ops a.tmps) then o.wpIn (fw r) 0 E.P a w K Q else (∀ f, o.about E.P w a.eval = some f → (fw r).fn f) ∧ K (a.put o.dst undef) w) := by
    rintro hw ⟨rfl, rfl, hxn⟩
    rw [if_neg (by rw [hw]; simp)]
    obtain ⟨tm2, hp2⟩ := st2
    rw [hxn] at hK
    exact ⟨fun f _ => fw_fn r f, hK _ _ F β (s.skipped hd) (Evo.refl _ _ _ _)⟩
  have hrun : Region.wanted o (yielded ops a.tmps) = true → ((allocs o.op = true → getB st.h (n0 + j) = none ∧ (n0 + j) ∈ x.touch) ∧ ∃ v0, (∀ (w : World) (F : Foot) (β : Nat → Nat) (h : Hp) (V : Value), Rep w F β h v0 V → Rep w F β h v V) ∧
    ∀ h2, Agree x.touch st.h h2 → (∀ id k u, x.ins = some (id, k, u) → absent k (getB h2 id) = true ∧ ∀ ks vs fz, getB h2 id = some (.box [.mapp ks vs] fz) → ks.length = vs.length) →
      ∃ h3, HMap h3 (insH x.ins (app wr h2)) ∧ ∀ K2 : PV → Hp → Prop, K2 v0 h3 → vcVal E o.op (opd st.tm) h2 (n0 + j) K2) → (if Region.wanted o (yielded ops a.tmps) then o.wpIn (fw r) 0 E.P a w K Q else (∀ f, o.about E.P w a.eval = some f → (fw r).fn f) ∧ K (a.put o.dst undef) w) := by
    rintro hw ⟨hal, v0, hv, h3⟩
    rw [if_pos hw]
    have hlens : ∀ id ks vs fz, getB st2.h id = some (.box [.mapp ks vs] fz) → ks.length = vs.length := fun id ks vs fz hg => by
      rcases s.sh.blk id _ hg with ⟨hnm, _⟩ | ⟨y, hy, ho, _⟩
      · simp [notMap] at hnm
      · injection hy with hy _
        subst hy
        obtain ⟨_, _, _, _, hme, _⟩ := ho
        exact hme.1
    obtain ⟨hq, hm3, h3⟩ := h3 st2.h ha (fun id k u e => ⟨(hab id k u e).absent (hlens id), hlens id⟩)
    have hvc := h3 (fun v' h' => v' = v0 ∧ h' = hq) ⟨rfl, rfl⟩
    have hcg : vcVal E o.op (opd st.tm) st2.h (n0 + j) (fun v' h' => v' = v0 ∧ h' = hq) = vcVal E o.op (opd st2.tm) st2.h (n0 + j) (fun v' h' => v' = v0 ∧ h' = hq) := vcVal_congr fun y hy => by
      cases y with
      | tmp t =>
        refine (hl t ?_).symm
        simp only [looksOf, List.mem_append]
        refine .inr ?_
        simp only [opTmps, List.mem_filterMap]
        exact ⟨.tmp t, by simpa using hy, rfl⟩
      | _ => rfl
    rw [hcg] at hvc
    refine op_sound hvc s.sh s.gi (fun h => ⟨by rw [hlen2]; exact hlen, by rw [ha _ (hal h).2]; exact (hal h).1⟩) (opd_rep s) ?_
    rintro V w' F' β' h' v' ⟨rfl, rfl⟩ hrep hs' hev
    have hev4 := hm3.evo hev
    have s1 : Sim E N B F' β' ⟨st2.tm, insH x.ins (app wr st2.h)⟩ a w' := s.step hev4 (hm3.simH hs') (gi_evo s.gi s.sh hev)
    exact hK _ _ F' β' (s1.put hd (hv _ _ _ _ _ (Rep.mono (fun _ _ h => ⟨h, rfl⟩) hm3.hev _ _ hrep))) hev4
  unfold guardD at hgd
  cases hog : o.guard with
  | none =>
    cases g with
    | none => exact hrun (by simp [Region.wanted, hog]) hgd
    | some g => rw [hog] at hg; exact hg.elim
  | some jb =>
    obtain ⟨jj, b⟩ := jb
    cases g with
    | none => rw [hog] at hg; exact hg.elim
    | some tb =>
      obtain ⟨t, b'⟩ := tb
      rw [hog] at hg
      obtain ⟨rfl, ht, htN⟩ := hg
      have hsz : t < a.tmps.size := by rw [s.sz]; exact htN
      have hget : get st2.tm t = get st.tm t := hl t (by simp [looksOf])
      simp only at hgd
      split at hgd
      · rename_i c hc
        have hv := kb_rep s (hget.trans hc)
        have hw := wanted_of hog ht hsz hv
        cases hcb : (cond b c (not c)) with
        | true => rw [hcb] at hgd; exact hrun (by rw [hw]; cases b <;> cases c <;> simp_all) hgd
        | false => rw [hcb] at hgd; exact hskip (by rw [hw]; cases b <;> cases c <;> simp_all) hgd
      · rename_i hc
        have hv : Rep w F β st2.h (.tup []) (a.tmps.getD t undef) := by rw [← hc, ← hget]; exact s.tm t
        exact hskip (wanted_no hog ht hsz (by unfold Rep at hv; obtain ⟨arr, h1, h2⟩ := hv; unfold ReL at h2; rw [h1, Array.toList_eq_nil_iff.1 h2]; rfl)) hgd
      · exact hgd.elim

theorem okAgainst_spec {an : Nat} {x : DInfo} : ∀ (l : List DInfo) (i : Nat), okAgainst an x i l = true → ∀ (p : Nat) (y : DInfo), l[p]? = some y → an.testBit (i + p) = true ∨ conf y x = false
  | [], i, _, p, y, hy => by simp at hy
  | z :: r, i, h, p, y, hy => by
    simp only [okAgainst, Bool.and_eq_true, Bool.or_eq_true, Bool.not_eq_true'] at h
    cases p with
    | zero => simp at hy; subst hy; exact h.1
    | succ p =>
      have := okAgainst_spec r (i + 1) h.2 p y (by simpa using hy)
      rwa [show i + 1 + p = i + (p + 1) by omega] at this

theorem okPairs_spec : ∀ (ancs : List Nat) (pre l : List DInfo), okPairs ancs pre l = true → ∀ (k : Nat) (x : DInfo), l[k]? = some x → ∀ (i : Nat) (y : DInfo), (pre ++ l)[i]? = some y → i < pre.length + k → (ancs.getD k 0).testBit i = true ∨ conf y x = false
  | ancs, pre, [], _, k, x, hx, i, y, hy, hi => by simp at hx
  | [], pre, z :: r, h, k, x, hx, i, y, hy, hi => by simp [okPairs] at h
  | an :: ans, pre, z :: r, h, k, x, hx, i, y, hy, hi => by
    simp only [okPairs, Bool.and_eq_true] at h
    cases k with
    | zero =>
      simp at hx; subst hx
      have hlt : i < pre.length := by omega
      rw [List.getElem?_append_left hlt] at hy
      have := okAgainst_spec pre 0 h.1 i y hy
      simpa using this
    | succ k =>
      have := okPairs_spec ans (pre ++ [z]) r h.2 k x (by simpa using hx) i y (by simpa using hy) (by simp; omega)
      simpa using this

theorem edgesOK_spec : ∀ (l : List (List Nat)) (j : Nat), edgesOK j l = true → ∀ (p : Nat) (es : List Nat), l[p]? = some es → ∀ e ∈ es, e < j + p
  | [], j, _, p, es, hp, e, he => by simp at hp
  | x :: r, j, h, p, es, hp, e, he => by
    simp only [edgesOK, Bool.and_eq_true, List.all_eq_true] at h
    cases p with
    | zero => simp at hp; subst hp; exact Nat.le_of_ble_eq_true (h.1 e he)
    | succ p =>
      have := edgesOK_spec r (j + 1) h.2 p es (by simpa using hp) e he
      omega

theorem ancs_spec {es : List (List Nat)} {S : Nat → Bool} (hcl : ∀ (k : Nat) (ek : List Nat), es[k]? = some ek → S k = true → ∀ e ∈ ek, S e = true) : ∀ (rest : List (List Nat)) (acc : List Nat), (∀ p, es[acc.length + p]? = rest[p]?) →
    (∀ (j : Nat) (a : Nat), acc[j]? = some a → (∀ e ∈ es.getD j [], S e = true) → ∀ i, a.testBit i = true → S i = true) → ∀ (j : Nat) (a : Nat), (ancsOf acc rest)[j]? = some a → (∀ e ∈ es.getD j [], S e = true) → ∀ i, a.testBit i = true → S i = true
  | [], acc, _, hacc, j, a, ha, he => by
    simp only [ancsOf] at ha
    exact hacc j a ha he
  | x :: r, acc, hes, hacc, j, a, ha, he => by
    simp only [ancsOf] at ha
    refine ancs_spec hcl r _ (fun p => ?_) (fun j' a' ha' he' => ?_) j a ha he
    · have := hes (p + 1)
      simpa [Nat.add_assoc, Nat.add_comm 1 p] using this
    · rcases Nat.lt_or_ge j' acc.length with hlt | hge
      · rw [List.getElem?_append_left hlt] at ha'
        exact hacc j' a' ha' he'
      · rw [List.getElem?_append_right hge] at ha'
        have hj : j' = acc.length := by
          have := (List.getElem?_eq_some_iff.1 ha').1
          simp at this; omega
        subst hj
        simp at ha'
        subst ha'
        have hx : es[acc.length]? = some x := by simpa using hes 0
        rw [List.getD_eq_getElem?_getD, hx] at he'
        simp only [Option.getD_some] at he'
        intro i hi
        rcases bit_fold x 0 hi with hi | ⟨e, hee, rfl | hie⟩
        · simp at hi
        · exact he' i hee
        · rw [List.getD_eq_getElem?_getD] at hie
          cases hae : acc[e]? with
          | none => rw [hae] at hie; simp at hie
          | some ae =>
            rw [hae] at hie
            refine hacc e ae hae (fun e' he'' => ?_) i (by simpa using hie)
            rw [List.getD_eq_getElem?_getD] at he''
            cases hee' : es[e]? with
            | none => rw [hee'] at he''; simp at he''
            | some ee => rw [hee'] at he''; exact hcl e ee hee' (he' e hee) e' (by simpa using he'')

theorem apart_of {st0 : AS} {tr : List (DInfo × PV × List (Nat × Option Blk))} {i k : Nat} {x y : DInfo × PV × List (Nat × Option Blk)} (hx : tr[k]? = some x) (hy : tr[i]? = some y) (hc : conf y.1 x.1 = false) : (trOf st0 tr).Apart i k := by
  simp only [conf, Bool.or_eq_false_iff] at hc
  obtain ⟨⟨⟨⟨h1, h2⟩, h3⟩, h4⟩, h5, h6⟩ := hc
  have hci : ∀ {x y : DInfo} {id : Nat} {k v : PV}, confI x y = false → x.ins = some (id, k, v) → id ∉ y.touch ∧ ∀ k' v', y.ins = some (id, k', v') → insApart k k' = true := fun {x y id k v} hc hi => by
    simp only [confI, hi, Bool.or_eq_false_iff] at hc
    refine ⟨fun hm => by have := hc.1; simp at this; exact this hm, fun k' v' hy => ?_⟩
    have := hc.2
    simp only [hy, Nat.beq_refl, Bool.true_and, Bool.not_eq_false'] at this
    exact this
  simp only [Tr.Apart, Tr.Wr, trOf, hx, hy]
  refine ⟨fun t ht => ?_, fun t ht => ?_, fun id hid ht => ?_, fun id hid ht => ?_, fun id k v k' v' hi hj => ?_⟩
  · rw [ht] at h1
    simp only [Bool.or_eq_false_iff] at h1
    exact ⟨fun hm => by have := h1.1; simp at this; exact this hm, fun e => by have := h1.2; rw [e] at this; simp at this⟩
  · rw [ht] at h2
    simp only at h2
    exact fun hm => by simp at h2; exact h2 hm
  · rcases hid with hid | ⟨k, v, hi⟩
    · have := List.any_eq_false.1 h3 id hid
      simp at this; exact this ht
    · exact (hci h5 hi).1 ht
  · rcases hid with hid | ⟨k, v, hi⟩
    · have := List.any_eq_false.1 h4 id hid
      simp at this; exact this ht
    · exact (hci h6 hi).1 ht
  · exact (hci h5 hi).2 k' v' hj

theorem Sim.draws {F : Foot} {β : Nat → Nat} {st : AS} {a : Act} {w : World} (s : Sim E N B F β st a w) (n : Nat) (d : Nat) : Sim E N B F β st a { w with drawn := d } ∧ Evo n w F β st.h { w with drawn := d } F β st.h := by
  have hev : HEv w β st.h { w with drawn := d } β st.h := ⟨fun id cs fz hb => ⟨⟨cs, fz, hb⟩, rfl⟩, fun id e k pr xs fz hb => ⟨pr, xs, fz, hb, Nat.le_refl _, fun _ => ⟨rfl, fun arr ha => ⟨arr, ha, rfl⟩⟩⟩⟩
  have hk : Keeps w F { w with drawn := d } F := fun _ _ hf => ⟨hf, rfl⟩
  refine ⟨⟨E.gi s.gi (Nat.le_refl _) (fun _ _ => rfl) rfl rfl, ⟨fun id b hb => BlkRep.of hk hev rfl rfl (fun _ h => h) (s.sh.blk id b hb), s.sh.inj, s.sh.fin, s.sh.lo, s.sh.glo⟩, fun t => Rep.mono hk hev _ _ (s.tm t), s.sz, s.df⟩, ?_⟩
  exact ⟨Nat.le_refl _, fun _ _ _ => rfl, rfl, rfl, rfl, hk, fun _ _ hf => .inl hf, fun _ ho => .inl ho, fun id cs fz _ hb => hev.box id cs fz hb, fun id e k pr xs fz _ hb => hev.row id e k pr xs fz hb⟩

theorem draw_sound {r : Option Nat} {n id : Nat} {ops : Array Oper} {al : List AOp} {st : AS} {K : AS → Prop} {Q : Exit → Act → World → Prop} {F : Foot} {β : Nat → Nat} {a : Act} {w : World} (hk : vcDraw E al (ancsOf [] (ops.toList.map edgesOf)) st K)
    (he : eraseOps N ops ops.toList = some al) (hed : edgesOK 0 (ops.toList.map edgesOf) = true) (s : Sim E N B F β st a w) (hQ : ∀ a' w', Lands E N B n K F β st.h w a' w' → Q .normal a' w') : (Code.region id ops true).wpIn (fw r) 0 E.P Q a w := by
  unfold vcDraw at hk
  replace hk := hk.out
  obtain ⟨tr, st', hline, hpairs, hK⟩ := line_of_vc _ _ _ _ hk
  replace hpairs := hpairs.out
  simp only [List.nil_append] at hpairs
  refine wpIn_region_any E.mixed ?_
  obtain ⟨s1, e1⟩ := s.draws n (w.drawn + 1)
  generalize hst0 : (⟨st.tm, st.h ++ nones al.length⟩ : AS) = st0 at hline
  have hst0tm : st0.tm = st.tm := by rw [← hst0]
  have hst0h : st0.h = st.h ++ nones al.length := by rw [← hst0]
  obtain ⟨hlen, hops⟩ := eraseOps_at _ _ he
  have htl := line_length hline
  obtain ⟨hat, hst'⟩ := line_at (tr0 := tr) (st0 := st0) hline (fun p => by rw [Nat.zero_add]) rfl
  have hsz : al.length = ops.size := by rw [hlen]; simp
  rw [Nat.zero_add, hsz] at hst'
  have hes : ∀ k, (ops.toList.map edgesOf)[k]? = (ops[k]?).map edgesOf := fun k => by rw [List.getElem?_map, Array.getElem?_toList]
  have hmem : ∀ (o : Oper) (e : Nat), e ∈ edgesOf o ↔ ∃ g ∈ o.after, Region.binds .any g = true ∧ g.on = e := fun o e => by
    simp only [edgesOf, List.mem_map, List.mem_filter, Array.mem_toList_iff]
    exact ⟨fun ⟨g, ⟨h1, h2⟩, h3⟩ => ⟨g, h1, h2, h3⟩, fun ⟨g, h1, h2, h3⟩ => ⟨g, ⟨h1, h2⟩, h3⟩⟩
  have s2 : Sim E N B F β st0 a { w with drawn := w.drawn + 1 } := s1.same (fun t => by rw [hst0tm]) (fun id => by rw [hst0h, getB_nones])
  have e2 : Evo n w F β st0.h { w with drawn := w.drawn + 1 } F β st0.h := (e1.sameL (h := st0.h) (fun id => by rw [hst0h, getB_nones]) (Nat.le_refl _)).sameR (fun id => by rw [hst0h, getB_nones])
  have hS1 : ∀ j, j < ops.size → ∃ x v wr, tr[j]? = some (x, v, wr) ∧ ∃ o g, ops[j]? = some o ∧ (∀ d, o.dst = some d → d < N) ∧ GOk N ops o.guard g ∧ S1 E st.h.length (isG al) j ((trOf st0 tr).replay (fun _ => true) j) ⟨o.dst, o.op, g⟩ x v wr := fun j hj => by
    have ho : ops.toList[j]? = some ops[j] := by simp [hj]
    obtain ⟨g, hal, hd, hg⟩ := hops j _ ho
    obtain ⟨x, v, wr, h1, h2⟩ := hat j _ hal
    rw [Nat.zero_add] at h2
    exact ⟨x, v, wr, h1, ops[j], g, by simp [hj], hd, hg, h2⟩
  have hnone : ∀ i, ¬ i < ops.size → tr[i]? = none := fun i hi => List.getElem?_eq_none (by rw [htl, hsz]; omega)
  refine reorder (N := N) (B := B) (r := r) (R := trOf st0 tr) (Bf := fun i k => ((ancsOf [] (ops.toList.map edgesOf)).getD k 0).testBit i = true) (n := n) (w0 := w) (F0 := F) (β0 := β) ?_ ?_ ?_ ?_ ?_ ?_ ?_ ?_ ops.size _ (fun _ => false) F β a _ (by simp) (fun i hi => by simp [hi]) (fun k ok h => (nomatch h)) ?_ ?_ ?_
  · intro i p hp
    by_cases hi : i < ops.size
    · obtain ⟨x, v, wr, h1, o, g, _, _, _, hs⟩ := hS1 i hi
      simp only [trOf, h1] at hp ⊢
      exact hs.2.2.2.1 p hp
    · simp [trOf, hnone i hi] at hp
  · intro i id hid
    by_cases hi : i < ops.size
    · obtain ⟨x, v, wr, h1, o, g, _, _, _, hs⟩ := hS1 i hi
      simp only [trOf, h1] at hid ⊢
      exact hs.2.2.1 id hid
    · simp [trOf, hnone i hi] at hid
  · intro i k hik hk'
    obtain ⟨x, v, wr, h1, _⟩ := hS1 k hk'
    obtain ⟨y, v', wr', h2, _⟩ := hS1 i (by omega)
    rcases okPairs_spec _ _ _ hpairs k x (by simp [h1]) i y (by simp [h2]) (by simpa using hik) with h | h
    · exact .inl h
    · exact .inr (apart_of h1 h2 h)
  · intro j o ho e hee hb
    have := edgesOK_spec _ _ hed j (edgesOf o) (by rw [hes, ho]; rfl) e.on ((hmem o e.on).2 ⟨e, hee, hb, rfl⟩)
    omega
  · intro j o ho S hcl hpre i hi
    have ha : ∃ a, (ancsOf [] (ops.toList.map edgesOf))[j]? = some a ∧ a.testBit i = true := by
      rw [List.getD_eq_getElem?_getD] at hi
      cases hq : (ancsOf [] (ops.toList.map edgesOf))[j]? with
      | none => rw [hq] at hi; simp at hi
      | some a => rw [hq] at hi; exact ⟨a, rfl, by simpa using hi⟩
    obtain ⟨an, h1, h2⟩ := ha
    refine ancs_spec (es := ops.toList.map edgesOf) (S := S) (fun k ek hek hSk e hee => ?_) _ [] (fun p => by simp) (fun j a h => by simp at h) j an h1 (fun e hee => ?_) i h2
    · rw [hes] at hek
      obtain ⟨ok, hok, rfl⟩ := Option.map_eq_some_iff.1 hek
      obtain ⟨g, g1, g2, rfl⟩ := (hmem ok e).1 hee
      exact hcl k ok hSk hok g g1 g2
    · rw [List.getD_eq_getElem?_getD, hes, ho] at hee
      obtain ⟨g, g1, g2, rfl⟩ := (hmem o e).1 (by simpa using hee)
      exact hpre g g1 g2
  · intro j id k u hj hi
    obtain ⟨x, v, wr, h1, o, g, _, _, _, hs⟩ := hS1 j hj
    simp only [trOf, h1] at hi
    exact hs.2.2.2.2.1 id k u hi
  · intro j hj
    obtain ⟨x, v, wr, h1, o, g, ho, hd, hg, hs⟩ := hS1 j hj
    refine does_of ho hd hg hs ?_ (by simp only [trOf, h1, and_self])
    rw [Tr.length_replay]
    show _ < st0.h.length
    rw [hst0h]; simp [length_nones]; omega
  · intro a' w' F' β' s' e'
    rw [← hst'] at s' e'
    refine hQ a' w' ⟨_, F', β', hK, ?_, ?_⟩
    · obtain ⟨tm', h'⟩ := st'
      exact s'.trimmed
    · exact (e'.sameL (h := st.h) (fun id => by show getB st0.h id = _; rw [hst0h, getB_nones]) (Nat.le_refl _)).sameR (fun id => (getB_trim _ _).symm)
  · have : ∀ k, Tr.cnt (fun _ => false) k = k := fun k => by
      induction k with
      | zero => rfl
      | succ k ih => simp only [Tr.cnt, ih, cond_false]; omega
    rw [this]; exact Nat.le_refl _
  · have : ∀ k, (trOf st0 tr).replay (fun _ => false) k = st0 := fun k => by
      induction k with
      | zero => rfl
      | succ k ih => simp only [Tr.replay, cond_false, ih]
    rw [this]; exact s2
  · have : ∀ k, (trOf st0 tr).replay (fun _ => false) k = st0 := fun k => by
      induction k with
      | zero => rfl
      | succ k ih => simp only [Tr.replay, cond_false, ih]
    rw [this]; exact e2
end
end Go.Px

set_option linter.unusedVariables false
set_option linter.unusedSimpArgs false
set_option linter.unnecessarySimpa false
namespace Go.Px
open Go

/-- A block that isn't the call's own is laid. -/
theorem alloc_other {G n : Nat} {w : World} {F : Foot} {β : Nat → Nat} {h : Hp} (hs : SimH G w F β h) (o : Obj) : SimH G (w.alloc o) F β h ∧ Evo n w F β h (w.alloc o) F β h := by
  have hheap : ∀ b, b < w.heap.size → (w.alloc o).heap[b]? = w.heap[b]? := fun b hb => by
    show (w.heap.push o)[b]? = _
    simp [Array.getElem?_push, Nat.ne_of_lt hb]
  have hkeep : Keeps w F (w.alloc o) F := fun b i hf => ⟨hf, cell?_of_heap (hheap b (hs.fin b i hf))⟩
  have hev : HEv w β h (w.alloc o) β h := ⟨fun id cs fz hb => ⟨⟨cs, fz, hb⟩, rfl⟩, fun id e k pr xs fz hb => ⟨pr, xs, fz, hb, Nat.le_refl _, fun _ => ⟨rfl, fun arr ha => ⟨arr, by rw [hheap _ (hs.blk _ _ hb).lt]; exact ha, rfl⟩⟩⟩⟩
  refine ⟨⟨fun id b hb => BlkRep.of hkeep hev rfl (hheap _ (hs.blk _ _ hb).lt) (fun _ h => h) (hs.blk id b hb), hs.inj, fun b i hf => by have := hs.fin b i hf; show b < (w.heap.push o).size; simp; omega, hs.lo, hs.glo⟩, ?_⟩
  exact ⟨by show _ ≤ (w.heap.push o).size; simp, fun b hb _ => hheap b hb, rfl, rfl, rfl, hkeep, fun _ _ hf => .inl hf, fun _ ho => .inl ho, fun id cs fz _ hb => hev.box id cs fz hb, fun id e k pr xs fz _ hb => hev.row id e k pr xs fz hb⟩

theorem setB_append_new : ∀ (h : Hp) (x y : Option Blk), setB (h ++ [x]) h.length y = h ++ [y]
  | [], _, _ => rfl
  | _ :: h, x, y => by simp only [List.cons_append, List.length_cons, setB, setB_append_new h x y]
theorem getB_append_none (h : Hp) (id : Nat) : getB (h ++ [none]) id = getB h id := by
  cases hq : getB h id with
  | some b => rw [getB_append_lt _ _ _ (getB_lt _ _ _ hq)]; exact hq
  | none =>
    cases hq2 : getB (h ++ [none]) id with
    | none => rfl
    | some b =>
      rcases getB_append_cases h none id b hq2 with ⟨_, h2⟩ | ⟨_, h2⟩
      · rw [hq] at h2; cases h2
      · cases h2

theorem get_keys (tm : List (Nat × PV)) (t : Nat) : get ((keysOf tm).zip (valsOf tm)) t = get tm t := by
  induction tm with
  | nil => rfl
  | cons p r ih =>
    obtain ⟨m, v⟩ := p
    simp only [keysOf, valsOf, List.zip_cons_cons, get, ih]

/-- A loop's record is written. -/
theorem putLoop {G : Nat} {w : World} {F : Foot} {β : Nat → Nat} {h : Hp} (hs : SimH G w F β h) {id : Nat} {s : LoopState} {pend : Option Code} {ks : List Nat} {vs : List PV} {li : LI} {fz : Bool} (hb : getB h id = some (.box [.loopp s pend ks vs li] fz)) :
    ∃ r : Loop, w.heap[β id]? = some (.loop r) ∧ r.state = s ∧ r.pending = pend ∧ r.tmps.size = li.n ∧ (∀ t, Rep w F β h (get (ks.zip vs) t) (r.tmps.getD t undef)) ∧ r.params.toList = li.ps ∧ erase li.K li.n r.assign = li.assign ∧ erase li.K li.n r.body = li.body ∧
      ∀ s' pend' ks' vs', (∀ t, get (ks'.zip vs') t = get (ks.zip vs) t ∨ get (ks'.zip vs') t = .undef) →
        SimH G (w.putObj (β id) (.loop { r with state := s', pending := pend' })) F β (setB h id (some (.box [.loopp s' pend' ks' vs' li] fz))) ∧
        Evo h.length w F β h (w.putObj (β id) (.loop { r with state := s', pending := pend' })) F β (setB h id (some (.box [.loopp s' pend' ks' vs' li] fz))) := by
  rcases hs.blk _ _ hb with ⟨hnm, _⟩ | ⟨x, hx, ho, hF⟩
  · simp [notMap] at hnm
  · injection hx with hx _
    subst hx
    obtain ⟨r, h1, h2, h3, h4, h5, h6, h7, h8⟩ := ho
    refine ⟨r, h1, h2, h3, h4, h5, h6, h7, h8, fun s' pend' ks' vs' hk => ?_⟩
    have hlt : β id < w.heap.size := (Array.getElem?_eq_some_iff.1 h1).1
    refine write_ok hs hb (by simp) (fun k hk => World.putObj_heap_other hk) rfl rfl rfl (.inl ⟨_, _, _, _, rfl, rfl⟩) (fun i hf => absurd hf (hF i)) (fun hkeep hev => .inr ⟨_, rfl, ?_, hF⟩)
    exact ⟨_, World.putObj_heap_same hlt, rfl, rfl, h4, fun t => by
      rcases hk t with h | h
      · rw [h]; exact Rep.mono hkeep hev _ _ (h5 t)
      · rw [h]; simp [Rep, RepP], h6, h7, h8⟩

section
variable {Tb : Tab} {E : Env Tb} {N B n : Nat}

theorem range_sound {K : Option (List (List Nat))} {f : Operand} {ps : Array Tmp} {assign body : Code} {st : AS} {Q : Exit → AS → Prop} {F : Foot} {β : Nat → Nat} {a : Act} {w : World}
    (hk : rangeK E N K f ps.toList (erase K N assign) (erase K N body) st Q) (s : Sim E N B F β st a w) :
    (Code.rangeFunc f ps assign body).wpIn (fw none) 0 E.P (Post E N B n Q F β st.h w) a w := by
  unfold rangeK at hk
  have hfr := opd_rep s f
  split at hk
  · rename_i g first cap hf
    rw [hf] at hfr
    cases hfok : E.fok g with
    | false => rw [hfok] at hk; exact hk.elim
    | true =>
      rw [hfok] at hk
      simp only [cond_true] at hk
      obtain ⟨R, hAC, hover⟩ := hk
      refine wpIn_rangeFunc fun fn _ => ?_
      -- the two blocks
      obtain ⟨s0, e0⟩ := alloc_other (n := st.h.length) s.sh (.deferred (some []))
      have g0 : E.GI (w.alloc (.deferred (some []))) := gi_evo s.gi s.sh e0
      obtain ⟨sw, hwe⟩ := s0.wide
      let lp : Loop := { state := .ready, pending := none, fn := fn, tmps := a.tmps, params := ps, assign := assign, body := body, defers := w.heap.size }
      have hnew := alloc_evo sw (E.gsz g0) (nid := st.h.length) (by simp) (getB_append_new _ _) (.loop lp) (.box [.loopp .ready none (keysOf st.tm) (valsOf st.tm) ⟨N, K, ps.toList, erase K N assign, erase K N body⟩] false) (fun hkeep hev => by
        refine .inr ⟨_, rfl, ⟨lp, ?_, rfl, rfl, s.sz, fun t => ?_, rfl, rfl, rfl⟩, fun i hi => ?_⟩
        · simp only [if_true]; exact World.alloc_heap_new _ _
        · rw [get_keys]
          exact Rep.mono hkeep hev _ _ (Rep.mono (fun _ _ h => ⟨h, rfl⟩) hwe _ _ (Rep.mono e0.cell e0.hev _ _ (s.tm t)))
        · simp only [if_true] at hi; exact absurd (sw.fin _ _ hi) (Nat.lt_irrefl _))
      rw [setB_append_new] at hnew
      obtain ⟨s1, e1⟩ := hnew
      have e1' := e1.sameL (h := st.h) (getB_append_none st.h) (m' := st.h.length) (by simp)
      have g1 := gi_evo g0 sw e1
      have e01 := Evo.trans e0 e1'
      simp only [Rep] at hfr
      obtain ⟨fa, ga, hF, hfa, hga⟩ := hfr
      have hsz0 : (w.alloc (.deferred (some []))).heap.size = w.heap.size + 1 := by show (w.heap.push _).size = _; simp
      have hrun : ∀ W : World, ∃ d, (resolve a.eval (rangeCall f (w.heap.size + 1)) 0).run E.P W = .ok d W ∧ (invoke d.target d.args).run E.P W = .ok (.enter g (fa.toList ++ [Value.func (.yield (w.heap.size + 1)) #[] #[]] ++ ga.toList).toArray) W := fun W => by
        refine ⟨?d, ?h1, ?h2⟩
        case h1 =>
          simp only [rangeCall, resolve, Deferred.ofValue, hF, Sem.run_bind, Sem.run_pure, Result.andThen_ok]
          rfl
        case h2 =>
          simp only [invoke, run_enter hfok]
          congr 2
          apply Array.ext'
          simp [Act.eval]
      obtain ⟨d, hd1, hd2⟩ := hrun ((w.alloc (.deferred (some []))).alloc (.loop lp))
      refine ⟨w.heap.size + 1, [markOf w.heap.size], _, d, _, g, (fa.toList ++ [Value.func (.yield (w.heap.size + 1)) #[] #[]] ++ ga.toList).toArray, _, ?_, hd1, fun f' _ => trivial, hd2, fun h => (by cases h), callsIn_wide.2 ?_⟩
      · rw [show (fw none).round = none from rfl, run_enterLoop_outer]; rfl
      · have hargs : ReL ((w.alloc (.deferred (some []))).alloc (.loop lp)) F (fun i => if i = st.h.length then (w.alloc (.deferred (some []))).heap.size else β i) (st.h ++ [some (.box [.loopp .ready none (keysOf st.tm) (valsOf st.tm) ⟨N, K, ps.toList, erase K N assign, erase K N body⟩] false)]) (first ++ [.yl st.h.length] ++ cap) (fa.toList ++ [Value.func (.yield (w.heap.size + 1)) #[] #[]] ++ ga.toList) := by
          refine ReL_append (ReL_append (ReL.mono e01.cell e01.hev _ _ hfa) ?_) (ReL.mono e01.cell e01.hev _ _ hga)
          simp only [ReL, Rep]
          refine ⟨_, _, rfl, ⟨?_, _, _, getB_append_new _ _⟩, rfl⟩
          simp only [if_true, hsz0]
        refine (hAC _ F _ _ g1 s1 hargs).mono ?_
        rintro e w3 ⟨V, v, F3, β3, h3, rfl, hR, hrep, s3, e3⟩
        have hov := hover v h3 hR
        unfold overK at hov
        split at hov
        · rename_i ls pend ks vs li fz hb3
          obtain ⟨r, hr1, hr2, hr3, hr4, hr5, hr6, hr7, hr8, hput⟩ := putLoop s3 hb3
          have hβ : β3 st.h.length = w.heap.size + 1 := by
            rw [(e3.box st.h.length _ _ (by simp) (getB_append_new _ _)).2]
            simp only [if_true, hsz0]
          rw [hβ] at hr1 hput
          have hnb : ls ≠ .busy := fun h => by subst h; exact hov
          have hov' : jumpK pend fun e => Q e ⟨st.tm, setB h3 st.h.length (some (.box [.loopp .exhausted pend [] [] li] fz))⟩ := by
            cases hl : notBusy ls with
            | true => rw [hl] at hov; exact hov
            | false => rw [hl] at hov; exact hov.elim
          obtain ⟨s4, e4⟩ := hput .exhausted pend [] [] (fun t => .inr rfl)
          have e14 := Evo.trans (Evo.trans e01 (e3.mono (m := st.h.length) (by simp))) (e4.any st.h.length)
          have m4 : Marks B _ (markOf w.heap.size :: a.defers) := ((Marks.evo (B := B) (w := w.alloc (.deferred (some []))) (ds := markOf w.heap.size :: a.defers) (by
            obtain ⟨q0, Ds, q1, q2, q3⟩ := s.df
            refine ⟨by omega, w.heap.size :: Ds, by rw [q1]; rfl, List.nodup_cons.2 ⟨fun hm => ?_, q2⟩, fun D hD => ?_⟩
            · have := (Array.getElem?_eq_some_iff.1 (q3 _ hm).2).1; omega
            · rcases List.mem_cons.1 hD with rfl | hD
              · exact ⟨q0, World.alloc_heap_new _ _⟩
              · have := (Array.getElem?_eq_some_iff.1 (q3 _ hD).2).1
                exact ⟨(q3 D hD).1, by
                  show (w.heap.push _)[D]? = _
                  rw [Array.getElem?_push, if_neg (by omega)]; exact (q3 D hD).2⟩) s0 e1').evo s1 e3).evo s3 e4
          have s5 : Sim E N B F3 β3 ⟨st.tm, setB h3 st.h.length (some (.box [.loopp .exhausted pend [] [] li] fz))⟩ { a with defers := [markOf w.heap.size] ++ a.defers } (w3.putObj (w.heap.size + 1) (.loop { r with state := .exhausted, pending := pend })) :=
            ⟨gi_evo s.gi s.sh e14, s4, fun t => Rep.mono e14.cell e14.hev _ _ (s.tm t), s.sz, m4⟩
          have hrec : ({ r with state := .exhausted, pending := pend } : Loop) = { r with state := .exhausted } := by rw [← hr3]
          rw [hrec] at s5 e14
          refine ⟨pend, w3.putObj (w.heap.size + 1) (.loop { r with state := .exhausted }), ?_, ?_⟩
          · rw [← hr3]; exact run_endLoop hr1 (by rw [hr2]; exact hnb)
          · have post : ∀ e, Q e ⟨st.tm, setB h3 st.h.length (some (.box [.loopp .exhausted pend [] [] li] fz))⟩ → Post E N B n Q F β st.h w e { a with defers := [markOf w.heap.size] ++ a.defers } _ := fun e hq => ⟨_, F3, β3, hq, s5, e14.any n⟩
            unfold jumpK at hov'
            cases pend with
            | none => exact post _ hov'
            | some c =>
              cases c <;> simp only at hov' <;> try exact hov'.elim
              case exit k => exact wpIn_exit (post _ hov')
              case ret => exact wpIn_ret (post _ hov')
        · exact hov.elim
  · exact hk.elim
end
end Go.Px

set_option linter.unusedVariables false
set_option linter.unusedSimpArgs false
set_option linter.unnecessarySimpa false
namespace Go.Px
open Go

section
variable {Tb : Tab} {E : Env Tb} {N B : Nat}
theorem Post.of {n : Nat} {Q : Exit → AS → Prop} {F : Foot} {β : Nat → Nat} {st : AS} {e : Exit} {a : Act} {w : World} (h : Q e st) (s : Sim E N B F β st a w) : Post E N B n Q F β st.h w e a w :=
  ⟨st, F, β, h, s, Evo.refl _ _ _ _⟩
theorem Post.trans {n : Nat} {Q : Exit → AS → Prop} {F F1 : Foot} {β β1 : Nat → Nat} {h h1 : Hp} {e : Exit} {w w1 : World} {a' : Act} {w' : World} (ev : Evo n w F β h w1 F1 β1 h1) (l : Post E N B n Q F1 β1 h1 w1 e a' w') : Post E N B n Q F β h w e a' w' := by
  obtain ⟨st', F', β', h1, h2, h3⟩ := l
  exact ⟨st', F', β', h1, h2, Evo.trans ev h3⟩

theorem region_sound {n : Nat} {r : Option Nat} {id : Nat} {ops : Array Oper} {draw : Bool} {st : AS} {Q : Exit → AS → Prop} {F : Foot} {β : Nat → Nat} {a : Act} {w : World} (hk : vc E N n (eraseR N ops draw) st Q) (s : Sim E N B F β st a w) :
    (Code.region id ops draw).wpIn (fw r) 0 E.P (Post E N B n Q F β st.h w) a w := by
  generalize he : eraseR N ops draw = ac at hk
  unfold eraseR at he
  split at he
  · rename_i l hl
    cases draw with
    | true =>
      simp only [cond_true] at he
      cases hc : (edgesOK 0 (ops.toList.map edgesOf) && Region.noSelect ops) with
      | false => rw [hc] at he; simp only [cond_false] at he; subst he; exact hk.elim
      | true =>
        rw [hc] at he
        simp only [cond_true] at he
        simp only [Bool.and_eq_true] at hc
        subst he
        exact draw_sound (n := n) hk hl hc.1 s (fun a' w' ⟨st', F', β', h1, h2, h3⟩ => ⟨st', F', β', h1, h2, h3⟩)
    | false =>
      simp only [cond_false] at he
      subst he
      exact wpIn_region_list (vcOps_sound (n := n) ops.toList l st F β a w hk hl s (fun a' w' ⟨st', F', β', h1, h2, h3⟩ => ⟨st', F', β', h1, h2, h3⟩))
  · subst he; exact hk.elim

theorem vc_sound {n : Nat} (K : Option (List (List Nat))) : ∀ (c : Code) (ac : ACode) (r : Option Nat) (hr : r = none ∨ noRF ac = true) (B : Nat) (st : AS) (Q : Exit → AS → Prop) (F : Foot) (β : Nat → Nat) (a : Act) (w : World),
    vc E N n ac st Q → erase K N c = ac → Sim E N B F β st a w → c.wpIn (fw r) 0 E.P (Post E N B n Q F β st.h w) a w := by
  intro c
  induction c with
  | skip =>
    rintro _ r hr B st Q F β a w hk rfl s
    exact wpIn_skip (Post.of hk s)
  | region id ops draw =>
    rintro _ r hr B st Q F β a w hk rfl s
    have kept : ∀ ks, vc E N n (.keep ks (eraseR N ops draw)) st Q → (Code.region id ops draw).wpIn (fw r) 0 E.P (Post E N B n Q F β st.h w) a w := fun ks hk => by
      refine wpIn_mono (region_sound (Q := fun e st' => Q e ⟨sel ks st'.tm, st'.h⟩) hk s) ?_
      rintro e a1 w1 ⟨⟨tm1, h1⟩, F1, β1, hq, s1, e1⟩
      exact ⟨_, F1, β1, hq, s1.keep ks, e1⟩
    unfold erase kp at hk
    split at hk
    · split at hk
      · exact kept _ hk
      · exact region_sound hk s
    · exact region_sound hk s
  | seq x y ihx ihy =>
    rintro _ r hr B st Q F β a w hk rfl s
    simp only [erase, vc] at hk
    refine wpIn_seq (wpIn_mono (ihx _ r (hr.imp id fun h => (Bool.and_eq_true_iff.1 h).1) B st _ F β a w hk rfl s) ?_)
    rintro e a1 w1 ⟨st1, F1, β1, h1, s1, e1⟩
    cases e with
    | normal => exact wpIn_mono (ihy _ r (hr.imp id fun h => (Bool.and_eq_true_iff.1 h).2) B st1 Q F1 β1 a1 w1 h1 rfl s1) (fun e a2 w2 h2 => Post.trans e1 h2)
    | _ => exact ⟨st1, F1, β1, h1, s1, e1⟩
  | cond x y z ihy ihz =>
    cases x with
    | tmp t =>
      rintro _ r hr B st Q F β a w hk rfl s
      simp only [erase, vc] at hk
      have hev : a.eval (.tmp t) = a.tmps.getD t undef := rfl
      split at hk
      · rename_i hc
        exact wpIn_cond_true (hev.trans (kb_rep s hc)) (ihy _ r (hr.imp id fun h => (Bool.and_eq_true_iff.1 h).1) B st Q F β a w hk rfl s)
      · rename_i hc
        exact wpIn_cond_false (hev.trans (kb_rep s hc)) (ihz _ r (hr.imp id fun h => (Bool.and_eq_true_iff.1 h).2) B st Q F β a w hk rfl s)
      · rename_i b hc
        have hset : ∀ d, b = d → Sim E N B F β ⟨setD (some t) (.kb d) st.tm, st.h⟩ a w := fun d hd => Sim.set (v' := .kb d) s hc (fun V hV => by subst hd; simpa [Rep, RepP] using hV)
        exact wpIn_cond_split (hev.trans (bool_rep s hc)) (fun h => ihy _ r (hr.imp id fun h => (Bool.and_eq_true_iff.1 h).1) B ⟨setD (some t) (.kb true) st.tm, st.h⟩ Q F β a w (hk.1 h) rfl (hset _ h)) (fun h => ihz _ r (hr.imp id fun h => (Bool.and_eq_true_iff.1 h).2) B ⟨setD (some t) (.kb false) st.tm, st.h⟩ Q F β a w (hk.2 h) rfl (hset _ h))
      · exact hk.elim
    | const v =>
      cases v <;> (try (rintro _ r hr B st Q F β a w hk rfl s; exact hk.elim; done))
      case bool b =>
        cases b with
        | true =>
          rintro _ r hr B st Q F β a w hk rfl s
          exact wpIn_cond_true (c := .const (.bool true)) rfl (ihy _ r hr B st Q F β a w hk rfl s)
        | false =>
          rintro _ r hr B st Q F β a w hk rfl s
          exact wpIn_cond_false (c := .const (.bool false)) rfl (ihz _ r hr B st Q F β a w hk rfl s)
    | _ =>
      rintro _ r hr B st Q F β a w hk rfl s
      exact hk.elim
  | block id c ih =>
    rintro _ r hr B st Q F β a w hk rfl s
    simp only [erase, vc] at hk
    refine wpIn_block (wpIn_mono (ih (erase K N c) r hr B st _ F β a w hk rfl s) ?_)
    rintro e a1 w1 ⟨st1, F1, β1, h1, s1, e1⟩
    cases e with
    | exit id' =>
      simp only [Exit.inBlock]
      simp only at h1
      cases hb : Nat.beq id' id with
      | true =>
        rw [hb] at h1
        rw [if_pos (Nat.eq_of_beq_eq_true hb)]
        exact ⟨st1, F1, β1, h1, s1, e1⟩
      | false =>
        rw [hb] at h1
        rw [if_neg (fun h => by rw [h, Nat.beq_refl] at hb; cases hb)]
        exact ⟨st1, F1, β1, h1, s1, e1⟩
    | _ => exact ⟨st1, F1, β1, h1, s1, e1⟩
  | loop c ih =>
    rintro _ r hr B st Q F β a w hk rfl s
    exact LoopAt.wp (LoopVC.out hk K c rfl r hr B F β a w s)
  | scope c ih =>
    rintro _ r hr B st Q F β a w hk rfl s
    simp only [erase, vc] at hk
    refine wpIn_scope (wpIn_mono (ih (erase K N c) r hr B st _ F β a w hk rfl s) ?_)
    rintro e a1 w1 ⟨st1, F1, β1, h1, s1, e1⟩
    cases e <;> first | exact h1.elim | exact ⟨st1, F1, β1, h1, s1, e1⟩
  | label l =>
    rintro _ r hr B st Q F β a w hk rfl s
    exact wpIn_label (Post.of hk s)
  | rangeFunc f ps assign body =>
    rintro _ r hr B st Q F β a w hk rfl s
    rcases hr with rfl | hr
    · exact range_sound hk s
    · cases hr
  | exit id =>
    rintro _ r hr B st Q F β a w hk rfl s
    exact wpIn_exit (Post.of hk s)
  | ret =>
    rintro _ r hr B st Q F β a w hk rfl s
    exact wpIn_ret (Post.of hk s)
  | _ =>
    rintro _ r hr B st Q F β a w hk rfl s
    exact hk.elim
end
end Go.Px

set_option linter.unusedVariables false
set_option linter.unusedSimpArgs false
set_option linter.unnecessarySimpa false
namespace Go.Px
open Go

def number : Nat → List PV → List (Nat × PV)
  | _, [] => []
  | i, v :: r => (i, v) :: number (i + 1) r

def resVals {Tb : Tab} (E : Env Tb) : List ResultVar → AS → (List PV → Prop) → Prop
  | [], _, K => K []
  | .tmp t :: r, st, K => resVals E r st fun vs => K (unkb (get st.tm t) :: vs)
  | .cell a t :: r, st, K => loadK E t (get st.tm a) st.h fun v _ => resVals E r st fun vs => K (v :: vs)

def retK {Tb : Tab} (E : Env Tb) (rs : List ResultVar) (st : AS) (K : PV → Prop) : Prop :=
  resVals E rs st fun vs => match vs with
    | [v] => K v
    | vs => K (.tup vs)

/-- Behind the body. -/
def endK {Tb : Tab} (E : Env Tb) (rs : List ResultVar) (R : PV → Hp → Prop) (e : Exit) (st : AS) : Prop :=
  match e with
  | .normal => retK E rs st fun v => R v st.h
  | .ret => retK E rs st fun v => R v st.h
  | _ => False

section
variable {Tb : Tab} {E : Env Tb}

theorem get_number : ∀ (vs : List PV) (i t : Nat), get (number i vs) (i + t) = vs.getD t .undef
  | [], i, t => by simp [number, get]
  | v :: r, i, t => by
    cases t with
    | zero => simp [number, get]
    | succ t =>
      have := get_number r (i + 1) t
      have hne : Nat.beq i (i + (t + 1)) = false := by
        cases hb : Nat.beq i (i + (t + 1)) with
        | false => rfl
        | true => have := Nat.eq_of_beq_eq_true hb; omega
      simp only [number, get, hne, cond_false]
      rw [show i + (t + 1) = i + 1 + t by omega, this]
      simp

def resM (a : Act) : ResultVar → Sem Value
  | .tmp t => pure (a.tmps.getD t undef)
  | .cell x t => (do loadVar t (← asAddr (a.tmps.getD x undef)))

theorem resVals_sound {F : Foot} {β : Nat → Nat} {N B : Nat} {a : Act} {w : World} : ∀ (rs : List ResultVar) (st : AS) (K : List PV → Prop), resVals E rs st K → Sim E N B F β st a w →
    ∃ vs Vs, (rs.mapM (resM a)).run E.P w = .ok Vs w ∧ K vs ∧ ReL w F β st.h vs Vs
  | [], st, K, hk, s => ⟨[], [], by simp, hk, by simp [ReL]⟩
  | .tmp t :: r, st, K, hk, s => by
    obtain ⟨vs, Vs, h1, h2, h3⟩ := resVals_sound r st _ hk s
    refine ⟨_, a.tmps.getD t undef :: Vs, ?_, h2, ?_⟩
    · simp only [List.mapM_cons, resM, Sem.run_bind, Sem.run_pure, Result.andThen_ok, h1]
    · simp only [ReL]
      exact ⟨_, _, rfl, unkb_rep (s.tm t), h3⟩
  | .cell x t :: r, st, K, hk, s => by
    simp only [resVals] at hk
    obtain ⟨V, v, h1, h2, h3⟩ := load_run hk s.sh s.gi (s.tm x)
    obtain ⟨vs, Vs, h4, h5, h6⟩ := resVals_sound r st _ h2 s
    refine ⟨_, V :: Vs, ?_, h5, ?_⟩
    · rw [List.mapM_cons, Sem.run_bind, show resM a (.cell x t) = (do loadVar t (← asAddr (a.tmps.getD x undef))) from rfl, load_as h1]
      simp only [Sem.run_bind, Sem.run_pure, Result.andThen_ok, h4]
    · simp only [ReL]
      exact ⟨_, _, rfl, h3, h6⟩

theorem ret_sound {F : Foot} {β : Nat → Nat} {N B : Nat} {a : Act} {w : World} {fn : Func} {st : AS} {K : PV → Prop} (hk : retK E fn.results.toList st K) (s : Sim E N B F β st a w) :
    ∃ v V, (results fn a.tmps).run E.P w = .ok V w ∧ K v ∧ Rep w F β st.h v V := by
  obtain ⟨vs, Vs, h1, h2, h3⟩ := resVals_sound _ _ _ hk s
  have hl : vs.length = Vs.length := ((ReL_iff _ _).1 h3).1
  have hr : (results fn a.tmps).run E.P w = .ok (if h : Vs.toArray.size = 1 then Vs.toArray[0] else .tuple Vs.toArray) w := by
    have hm : (fn.results.mapM (resM a)).run E.P w = .ok Vs.toArray w := by
      rw [Array.mapM_eq_mapM_toList, Sem.run_map, h1]
      rfl
    unfold results
    rw [Sem.run_bind]
    have he : ∀ g : ResultVar → Sem Value, g = resM a → (fn.results.mapM g).run E.P w = .ok Vs.toArray w := fun g hg => by rw [hg]; exact hm
    rw [he _ (by funext r; cases r <;> rfl)]
    rfl
  match vs, Vs, hl, h2, h3, hr with
  | [v], [V], _, h2, h3, hr =>
    simp only [ReL] at h3
    obtain ⟨V', _, h4, h5, _⟩ := h3
    injection h4 with h4 _
    subst h4
    exact ⟨v, V, hr, h2, h5⟩
  | [], [], _, h2, h3, hr => exact ⟨.tup [], _, hr, h2, by simp only [Rep]; exact ⟨#[], rfl, by simp [ReL]⟩⟩
  | x :: y :: r, X :: Y :: R, _, h2, h3, hr => exact ⟨.tup (x :: y :: r), _, hr, h2, by simp only [Rep]; exact ⟨(X :: Y :: R).toArray, by simp, h3⟩⟩

/-- A mark is come to: its block is shut. -/
theorem Sim.shut {F : Foot} {β : Nat → Nat} {N B D : Nat} {tmps : Array Value} {ds : List Deferred} {st : AS} {w : World} (hG : E.G ≤ B) (s : Sim E N B F β st ⟨tmps, markOf D :: ds⟩ w) :
    w.heap[D]? = some (.deferred (some [])) ∧ Sim E N B F β st ⟨tmps, ds⟩ (w.putObj D (.deferred none)) ∧
    ∀ {n : Nat} {w0 : World} {F0 : Foot} {β0 : Nat → Nat} {h0 : Hp}, w0.heap.size ≤ B → Evo n w0 F0 β0 h0 w F β st.h → Evo n w0 F0 β0 h0 (w.putObj D (.deferred none)) F β st.h := by
  obtain ⟨q0, Ds, q1, q2, q3⟩ := s.df
  cases Ds with
  | nil => cases q1
  | cons D' Ds =>
    simp only [List.map_cons, List.cons.injEq] at q1
    obtain ⟨q1, q4⟩ := q1
    have hDD : D = D' := by simpa [markOf] using q1
    subst hDD
    obtain ⟨hBD, hD⟩ := q3 D (List.mem_cons_self ..)
    have hlt : D < w.heap.size := (Array.getElem?_eq_some_iff.1 hD).1
    have hoth : ∀ b, b ≠ D → (w.putObj D (.deferred none)).heap[b]? = w.heap[b]? := fun b hb => World.putObj_heap_other hb
    have hcell : ∀ b i, (w.putObj D (.deferred none)).cell? ⟨b, i, none⟩ = w.cell? ⟨b, i, none⟩ := fun b i => by
      by_cases e : b = D
      · subst e
        simp [World.cell?, hD, World.putObj_heap_same hlt]
      · exact cell?_of_heap (hoth b e)
    have hkeep : Keeps w F (w.putObj D (.deferred none)) F := fun b i hf => ⟨hf, hcell b i⟩
    have hown : ∀ id blk, getB st.h id = some blk → β id ≠ D := fun id blk hb e => by
      obtain ⟨o, ho, hne⟩ := (s.sh.blk id blk hb).obj
      rw [e, hD] at ho
      injection ho with ho
      exact hne _ ho.symm
    have hev : HEv w β st.h (w.putObj D (.deferred none)) β st.h := ⟨fun id cs fz hb => ⟨⟨cs, fz, hb⟩, rfl⟩, fun id e k pr xs fz hb => ⟨pr, xs, fz, hb, Nat.le_refl _, fun _ => ⟨rfl, fun arr ha => ⟨arr, by rw [hoth _ (hown _ _ hb)]; exact ha, rfl⟩⟩⟩⟩
    refine ⟨hD, ⟨E.gi s.gi (by simp) (fun b hb => hoth b (by omega)) rfl rfl, ⟨fun id b hb => BlkRep.of hkeep hev rfl (hoth _ (hown _ _ hb)) (fun _ h => h) (s.sh.blk id b hb), s.sh.inj, fun b i hf => by rw [World.putObj_size]; exact s.sh.fin b i hf, s.sh.lo, s.sh.glo⟩,
      fun t => Rep.mono hkeep hev _ _ (s.tm t), s.sz, ?_⟩, fun {n w0 F0 β0 h0} hB e => ?_⟩
    · refine ⟨by rw [World.putObj_size]; exact q0, Ds, q4, (List.nodup_cons.1 q2).2, fun X hX => ⟨(q3 X (List.mem_cons_of_mem _ hX)).1, ?_⟩⟩
      rw [hoth X (fun e => (List.nodup_cons.1 q2).1 (e ▸ hX))]
      exact (q3 X (List.mem_cons_of_mem _ hX)).2
    · exact ⟨by rw [World.putObj_size]; exact e.size, fun b hb ho => by rw [hoth b (by omega)]; exact e.keep b hb ho, e.tape, e.os, e.output, fun b i hf => ⟨(e.cell b i hf).1, (hcell b i).trans (e.cell b i hf).2⟩, e.org, e.own, e.box,
        fun id el k pr xs fz hi hb => by
          obtain ⟨pr', xs', fz', g1, g2, g3⟩ := e.row id el k pr xs fz hi hb
          refine ⟨pr', xs', fz', g1, g2, fun hl => ⟨(g3 hl).1, fun arr ha => ?_⟩⟩
          obtain ⟨arr', k1, k2⟩ := (g3 hl).2 arr ha
          refine ⟨arr', ?_, k2⟩
          rw [hoth _ (fun e => by rw [e, hD] at k1; cases k1)]; exact k1⟩

theorem leaves_of {F : Foot} {β : Nat → Nat} {N B n : Nat} {fn : Func} {st : AS} {K : PV → Prop} {tmps : Array Value} {w0 : World} {F0 : Foot} {β0 : Nat → Nat} {h0 : Hp} {R : Ending → World → Prop} (hG : E.G ≤ B) (hB : w0.heap.size ≤ B) (hk : retK E fn.results.toList st K)
    (hR : ∀ V v w, K v → Rep w F β st.h v V → SimH E.G w F β st.h → Evo n w0 F0 β0 h0 w F β st.h → R (.returned V) w) : ∀ (Ds : List Nat) (w : World), Sim E N B F β st ⟨tmps, Ds.map markOf⟩ w → Evo n w0 F0 β0 h0 w F β st.h → LeavesInM Fence.wide 0 E.P fn tmps R (Ds.map markOf) .returning w
  | [], w, s, e => by
    obtain ⟨v, V, h1, h2, h3⟩ := ret_sound hk s
    exact ⟨V, h1, hR V v w h2 h3 s.sh e⟩
  | D :: Ds, w, s, e => by
    obtain ⟨h1, h2, h3⟩ := s.shut hG
    exact ⟨fun h => (by cases h), .inl ⟨D, _, rfl, run_takeDeferred h1, leaves_of hG hB hk hR Ds _ h2 (h3 hB e)⟩⟩

theorem AC_of_vc {f : FuncId} {fn : Func} {c : Code} {ac : ACode} {N : Nat} {rs : List ResultVar} {args : List PV} {h : Hp} {R : PV → Hp → Prop} (hf : E.P.funcs[f]? = some fn) (hb : fn.body = some c) (hN : fn.ntmps = N) (hrs : fn.results.toList = rs) {K : Option (List (List Nat))} (he : erase K N c = ac) (hlen : Nat.ble args.length N = true)
    (hk : vc E N h.length ac ⟨number 0 args, h⟩ (endK E rs R)) : AC E f args h R := by
  subst hN hrs
  intro w F β vs hg hs hr
  have hlv : args.length = vs.length := ((ReL_iff _ _).1 hr).1
  have hlen := Nat.le_of_ble_eq_true hlen
  refine callsIn_wide.1 (callsIn_of_wp_marks (n := 0) hf hb trivial ?_)
  have s : Sim E fn.ntmps w.heap.size F β ⟨number 0 args, h⟩ { tmps := vs.toArray ++ Array.replicate (fn.ntmps - vs.toArray.size) undef, defers := [] } w := by
    refine ⟨hg, hs, fun t => ?_, by simp; omega, Marks.nil (Nat.le_refl _)⟩
    have hget := get_number args 0 t
    rw [Nat.zero_add] at hget
    rw [hget]
    cases hx : args[t]? with
    | none => rw [List.getD_eq_getElem?_getD, hx]; simp [Rep, RepP]
    | some x =>
      obtain ⟨V, hV, hrep⟩ := ((ReL_iff _ _).1 hr).2 t x hx
      have hlt : t < vs.length := (List.getElem?_eq_some_iff.1 hV).1
      rw [List.getD_eq_getElem?_getD, hx, Array.getD_eq_getD_getElem?, Array.getElem?_append_left (by simpa using hlt)]
      simpa [hV] using hrep
  refine wpIn_mono (vc_sound K c ac none (.inl rfl) _ _ _ F β _ w hk he s) ?_
  rintro e a' w' ⟨st', F', β', h1, s1, e1⟩
  have fin : retK E fn.results.toList st' (fun v => R v st'.h) → LeavesInM Fence.wide 0 E.P fn a'.tmps (fun e w' => ∃ V v F' β' h', e = .returned V ∧ R v h' ∧ Rep w' F' β' h' v V ∧ SimH E.G w' F' β' h' ∧ Evo h.length w F β h w' F' β' h') a'.defers .returning w' := fun hk => by
    obtain ⟨_, Ds, q1, _⟩ := s1.df
    rw [q1]
    refine leaves_of (N := fn.ntmps) (E.gsz hg) (Nat.le_refl _) hk (fun V v w2 hK hrep hs he => ⟨V, v, F', β', st'.h, rfl, hK, hrep, hs, he⟩) Ds w' ?_ e1
    obtain ⟨tm', df'⟩ := a'
    simp only at q1
    rw [← q1]; exact s1
  cases e with
  | normal => exact fin h1
  | ret => exact fin h1
  | _ => exact h1.elim

/-! ### A round of a loop over a function -/
def setAll : List Nat → List PV → List (Nat × PV) → List (Nat × PV)
  | p :: ps, v :: vs, tm => setAll ps vs ((p, v) :: tm)
  | _, _, tm => tm
def jumpOf : Exit → Option (Option Code)
  | .normal => some none
  | .ret => some (some .ret)
  | .exit k => some (some (.exit k))
  | _ => none
def endJ (j : Option Code) : LoopState :=
  match j with
  | none => .ready
  | some _ => .done
def isN (j : Option Code) : Bool :=
  match j with
  | none => true
  | some _ => false
/-- A round's end. -/
def endR (id : Nat) (R : PV → Hp → Prop) (e : Exit) (st : AS) : Prop :=
  match jumpOf e with
  | some j => match getB st.h id with
    | some (.box [.loopp _ _ ks vs li] fz) => R (.bool (isN j)) (setB st.h id (some (.box [.loopp (endJ j) j ks vs li] fz)))
    | _ => False
  | none => False
/-- Between the assignments to a loop's left sides and its body. -/
def begR {Tb : Tab} (E : Env Tb) (id : Nat) (li : LI) (n : Nat) (R : PV → Hp → Prop) (e : Exit) (st : AS) : Prop :=
  match e with
  | .normal => match getB st.h id with
    | some (.box [.loopp .ready p ks vs li'] fz) => vc E li.n n li.body ⟨st.tm, setB st.h id (some (.box [.loopp .busy p ks vs li'] fz))⟩ (endR id R)
    | _ => False
  | _ => False

theorem setAll_sim {N B : Nat} {F : Foot} {β : Nat → Nat} {h : Hp} {w : World} {df : List Deferred} : ∀ (ps : List Nat) (vs : List PV) (Vs : List Value) (tm : List (Nat × PV)) (tmps : Array Value), (∀ p ∈ ps, p < N) → ReL w F β h vs Vs → Sim E N B F β ⟨tm, h⟩ ⟨tmps, df⟩ w →
    Sim E N B F β ⟨setAll ps vs tm, h⟩ ⟨(ps.zip Vs).foldl (fun tmps (t, a) => tmps.setIfInBounds t a) tmps, df⟩ w
  | [], vs, Vs, tm, tmps, _, _, s => by simpa [setAll] using s
  | p :: ps, [], Vs, tm, tmps, _, hr, s => by
    simp only [ReL] at hr
    subst hr
    simpa [setAll] using s
  | p :: ps, v :: vs, Vs, tm, tmps, hp, hr, s => by
    simp only [ReL] at hr
    obtain ⟨V, Vs', rfl, h1, h2⟩ := hr
    simp only [setAll, List.zip_cons_cons, List.foldl_cons]
    exact setAll_sim ps vs Vs' _ _ (fun q hq => hp q (List.mem_cons_of_mem _ hq)) h2 (Sim.put (d := some p) s (fun t ht => by cases ht; exact hp p (List.mem_cons_self ..)) h1)

theorem RC_of_vc {id : Nat} {args : List PV} {h : Hp} {R : PV → Hp → Prop} {pend : Option Code} {ks : List Nat} {vs : List PV} {li : LI} {fz : Bool} (hb : getB h id = some (.box [.loopp .ready pend ks vs li] fz))
    (hn : Nat.beq args.length li.ps.length = true) (hps : li.ps.all (fun p => Nat.blt p li.n) = true) (h1 : noRF li.assign = true) (h2 : noRF li.body = true)
    (hk : vc E li.n h.length li.assign ⟨setAll li.ps args (ks.zip vs), h⟩ (begR E id li h.length R)) : RC E id args h R := by
  intro w F β Vs hg hs hr
  obtain ⟨r, hr1, hr2, hr3, hr4, hr5, hr6, hr7, hr8, _⟩ := putLoop hs hb
  have hlen : args.length = Vs.length := ((ReL_iff _ _).1 hr).1
  have hid := getB_lt _ _ _ hb
  refine ⟨r, hr1, ?_, roundIn_of_wpIn trivial ?_⟩
  · have := Nat.eq_of_beq_eq_true hn
    rw [← hr6] at this
    simp at this
    omega
  have s0 : Sim E li.n w.heap.size F β ⟨ks.zip vs, h⟩ ⟨r.tmps, []⟩ w := ⟨hg, hs, hr5, hr4, Marks.nil (Nat.le_refl _)⟩
  have hfold : (r.params.zip Vs.toArray).foldl (fun tmps (t, a) => tmps.setIfInBounds t a) r.tmps = (li.ps.zip Vs).foldl (fun tmps (t, a) => tmps.setIfInBounds t a) r.tmps := by
    rw [← hr6, ← Array.foldl_toList, Array.toList_zip]
  have s1 := setAll_sim li.ps args Vs _ _ (fun p hp => Nat.le_of_ble_eq_true (List.all_eq_true.1 hps p hp)) hr s0
  rw [hfold]
  refine wpIn_mono (vc_sound li.K r.assign li.assign (some (β id)) (.inr h1) _ _ _ F β _ w hk hr7 s1) ?_
  rintro e a1 w1 ⟨st1, F1, β1, hq1, s2, e1⟩
  cases e <;> try exact hq1.elim
  unfold begR at hq1
  simp only at hq1
  split at hq1
  · rename_i p ks1 vs1 li1 fz1 hb1
    obtain ⟨r1, k1, k2, k3, _, _, _, _, _, hput⟩ := putLoop s2.sh hb1
    have hβ1 : β1 id = β id := (e1.box id _ _ hid hb).2
    obtain ⟨s3, e3⟩ := hput .busy p ks1 vs1 (fun t => .inl rfl)
    have hrec : ({ r1 with state := .busy, pending := p } : Loop) = { r1 with state := .busy } := by rw [← k3]
    rw [hrec, hβ1] at s3 e3
    rw [hβ1] at k1
    refine ⟨_, run_beginRound k1 k2, ?_⟩
    have s4 := s2.step e3 s3 (gi_evo s2.gi s2.sh e3)
    refine wpIn_mono (vc_sound li.K r.body li.body (some (β id)) (.inr h2) _ _ _ F1 β1 _ _ hq1 hr8 s4) ?_
    rintro e a2 w3 ⟨st2, F2, β2, hq2, s5, e5⟩
    have fin : ∀ j, jumpOf e = some j → ∃ v w', (Instr.endRound (β id) j).run E.P w3 = .ok v w' ∧ ∃ V v' F' β' h', Ending.returned v = .returned V ∧ R v' h' ∧ Rep w' F' β' h' v' V ∧ SimH E.G w' F' β' h' ∧ Evo h.length w F β h w' F' β' h' := fun j hj => by
      unfold endR at hq2
      rw [hj] at hq2
      simp only at hq2
      split at hq2
      · rename_i ls2 p2 ks2 vs2 li2 fz2 hb2
        obtain ⟨r2, m1, m2, m3, _, _, _, _, _, hput2⟩ := putLoop s5.sh hb2
        obtain ⟨s6, e6⟩ := hput2 (endJ j) j ks2 vs2 (fun t => .inl rfl)
        have hev := Evo.trans e1 ((e3.any h.length).trans e5)
        have hβ2 : β2 id = β id := (hev.box id _ _ hid hb).2
        rw [hβ2] at m1 s6 e6
        have hj2 : isN j = j.isNone ∧ endJ j = if j.isNone then .ready else .done := by cases j <;> exact ⟨rfl, rfl⟩
        refine ⟨_, _, run_endRound j m1, _, .bool (isN j), F2, β2, _, rfl, hq2, by simp only [Rep, RepP, hj2.1], ?_, ?_⟩
        · rw [← hj2.2]; exact s6
        · rw [← hj2.2]; exact hev.trans (e6.any h.length)
      · exact hq2.elim
    cases e with
    | normal => exact fin none rfl
    | ret => exact fin (some .ret) rfl
    | exit k => exact fin (some (.exit k)) rfl
    | _ => exact hq2.elim
  · exact hq1.elim

theorem Calls.mono' {P : Program} {f : FuncId} {args : Array Value} {w : World} {R R' : Ending → World → Prop} (h : Calls P f args w R) (hr : ∀ e w', R e w' → R' e w') : Calls P f args w R' := fun cs => by
  obtain ⟨e, w', fr, h1, h2⟩ := h cs
  exact ⟨e, w', fr, hr _ _ h1, h2⟩

theorem AC.mono {f : FuncId} {args : List PV} {h : Hp} {R R' : PV → Hp → Prop} (ac : AC E f args h R) (hr : ∀ v h', R v h' → R' v h') : AC E f args h R' := fun w F β vs hg hs hx =>
  Calls.mono' (ac w F β vs hg hs hx) fun e w' ⟨V, v, F', β', h', h1, h2, h3⟩ => ⟨V, v, F', β', h', h1, hr _ _ h2, h3⟩

theorem getB_nil (id : Nat) : getB ([] : Hp) id = none := rfl
theorem SimH.drop {w : World} {F : Foot} {β : Nat → Nat} {h : Hp} (β' : Nat → Nat) (hs : SimH E.G w F β h) : SimH E.G w F β' [] :=
  ⟨fun id b hb => (by rw [getB_nil] at hb; cases hb), fun i j bi bj hi _ => (by rw [getB_nil] at hi; cases hi), hs.fin, fun id b hb => (by rw [getB_nil] at hb; cases hb), hs.glo⟩
theorem Evo.drop {w w' : World} {F F' : Foot} {β β' : Nat → Nat} {h' : Hp} (β'' : Nat → Nat) (e : Evo 0 w F β [] w' F' β' h') : Evo 0 w F β [] w' F' β'' [] :=
  ⟨e.size, e.keep, e.tape, e.os, e.output, e.cell, e.org, fun b ⟨id, blk, h1, _⟩ => (by rw [getB_nil] at h1; cases h1), fun id cs fz hi => absurd hi (Nat.not_lt_zero _), fun id el k pr xs fz hi => absurd hi (Nat.not_lt_zero _)⟩

theorem AF_of_AC {f : FuncId} {args : List PV} {r : PV} (ac : AC E f args [] fun v h' => fzK 6 h' v fun v' _ => v' = r) : AF E f args r := fun w F β vs hg hs hx =>
  Calls.mono' (ac w F β vs hg hs hx) fun e w' ⟨V, v, F', β', h', h1, h2, h3, h4, h5⟩ => by
    obtain ⟨v', h'', F'', rfl, hp, hs2, hz⟩ := fz_sound 6 h' F' v V _ h2 h4 h3
    have hev : Evo 0 w F β [] w' F'' β' h'' := Evo.trans h5 (hz.evo.any 0)
    exact ⟨V, v', F'', β, [], h1, ⟨rfl, rfl⟩, RepP.toRep _ _ _ _ hp, hs2.drop β, hev.drop β⟩

/-! ### What stands for the same and says less -/
mutual
def Le : PV → PV → Prop
  | .nils, u => PV.nils = u ∨ u = .sl []
  | .agg cs, u => match u with
    | .agg ds => LeL cs ds
    | _ => False
  | .tup cs, u => match u with
    | .tup ds => LeL cs ds
    | _ => False
  | .undef, u => PV.undef = u
  | .int a b, u => PV.int a b = u
  | .bool a, u => PV.bool a = u
  | .kb a, u => PV.kb a = u
  | .str a, u => PV.str a = u
  | .nili, u => PV.nili = u
  | .nilf, u => PV.nilf = u
  | .err, u => PV.err = u
  | .sl a, u => PV.sl a = u
  | .pp a b, u => PV.pp a b = u
  | .fn a b c, u => PV.fn a b c = u
  | .gp a b, u => PV.gp a b = u
  | .own a b, u => PV.own a b = u
  | .ptr a b, u => PV.ptr a b = u
  | .rp a b c d, u => PV.rp a b c d = u
  | .fresh a b, u => PV.fresh a b = u
  | .mapo a, u => PV.mapo a = u
  | .mapp a b, u => PV.mapp a b = u
  | .yl a, u => PV.yl a = u
  | .itp a b, u => PV.itp a b = u
  | .loopp a b c d e, u => PV.loopp a b c d e = u
def LeL : List PV → List PV → Prop
  | [], ys => ys = []
  | x :: xs, ys => match ys with
    | y :: ys' => Le x y ∧ LeL xs ys'
    | [] => False
end
mutual
theorem Le.rep {w : World} {F : Foot} : ∀ (v u : PV) (V : Value), Le v u → RepP w F v V → RepP w F u V
  | .nils, u, V, h, hr => by
    rcases (show PV.nils = u ∨ u = .sl [] from h) with h | h
    · subst h; exact hr
    · subst h
      obtain ⟨A, hA⟩ := hr
      exact ⟨A, 0, hA, Nat.le_refl _, .inl rfl⟩
  | .agg cs, u, V, h, hr => by
    cases u <;> first
      | exact (show False from h).elim
      | (obtain ⟨arr, h1, h2⟩ := hr
         exact ⟨arr, h1, LeL.rep cs _ _ h h2⟩)
  | .tup cs, u, V, h, hr => by
    cases u <;> first
      | exact (show False from h).elim
      | (obtain ⟨arr, h1, h2⟩ := hr
         exact ⟨arr, h1, LeL.rep cs _ _ h h2⟩)
  | .undef, u, V, h, hr => (show PV.undef = u from h) ▸ hr
  | .int a b, u, V, h, hr => (show PV.int a b = u from h) ▸ hr
  | .bool a, u, V, h, hr => (show PV.bool a = u from h) ▸ hr
  | .kb a, u, V, h, hr => (show PV.kb a = u from h) ▸ hr
  | .str a, u, V, h, hr => (show PV.str a = u from h) ▸ hr
  | .nili, u, V, h, hr => (show PV.nili = u from h) ▸ hr
  | .nilf, u, V, h, hr => (show PV.nilf = u from h) ▸ hr
  | .err, u, V, h, hr => (show PV.err = u from h) ▸ hr
  | .sl a, u, V, h, hr => (show PV.sl a = u from h) ▸ hr
  | .pp a b, u, V, h, hr => (show PV.pp a b = u from h) ▸ hr
  | .fn a b c, u, V, h, hr => (show PV.fn a b c = u from h) ▸ hr
  | .gp a b, u, V, h, hr => (show PV.gp a b = u from h) ▸ hr
  | .own a b, u, V, h, hr => (show PV.own a b = u from h) ▸ hr
  | .ptr a b, u, V, h, hr => (show PV.ptr a b = u from h) ▸ hr
  | .rp a b c d, u, V, h, hr => (show PV.rp a b c d = u from h) ▸ hr
  | .fresh a b, u, V, h, hr => (show PV.fresh a b = u from h) ▸ hr
  | .mapo a, u, V, h, hr => (show PV.mapo a = u from h) ▸ hr
  | .mapp a b, u, V, h, hr => (show PV.mapp a b = u from h) ▸ hr
  | .yl a, u, V, h, hr => (show PV.yl a = u from h) ▸ hr
  | .itp a b, u, V, h, hr => (show PV.itp a b = u from h) ▸ hr
  | .loopp a b c d e, u, V, h, hr => (show PV.loopp a b c d e = u from h) ▸ hr
theorem LeL.rep {w : World} {F : Foot} : ∀ (vs us : List PV) (Vs : List Value), LeL vs us → RepL w F vs Vs → RepL w F us Vs
  | [], us, Vs, h, hr => (show us = [] from h) ▸ hr
  | x :: xs, [], Vs, h, hr => (show False from h).elim
  | x :: xs, y :: ys, Vs, h, hr => by
    obtain ⟨v, vs', rfl, h1, h2⟩ := hr
    exact ⟨v, vs', rfl, Le.rep x y v h.1 h1, LeL.rep xs ys vs' h.2 h2⟩
end

theorem AF_of_ACw {f : FuncId} {args : List PV} {r : PV} (ac : AC E f args [] fun v h' => fzK 6 h' v fun v' _ => Le v' r) : AF E f args r := fun w F β vs hg hs hx =>
  Calls.mono' (ac w F β vs hg hs hx) fun e w' ⟨V, v, F', β', h', h1, h2, h3, h4, h5⟩ => by
    obtain ⟨v', h'', F'', hle, hp, hs2, hz⟩ := fz_sound 6 h' F' v V _ h2 h4 h3
    have hev : Evo 0 w F β [] w' F'' β' h'' := Evo.trans h5 (hz.evo.any 0)
    exact ⟨V, r, F'', β, [], h1, ⟨rfl, rfl⟩, RepP.toRep _ _ _ _ (Le.rep _ _ _ hle hp), hs2.drop β, hev.drop β⟩

theorem AFr_of_AC {f : FuncId} {args : List PV} {e : TypeId} {k : Nat} {xs : List PV} (ac : AC E f args [] fun v h' => ∃ id, v = .own id xs.length ∧ getB h' id = some (.row e k true xs 0)) : AFr E f args e k xs := fun w F β vs hg hs hx =>
  Calls.mono' (ac w F β vs hg hs hx) fun en w' ⟨V, v, F', β', h', h1, h2, h3, h4, h5⟩ => by
    obtain ⟨id, rfl, hb⟩ := h2
    have hev : HEv w' β' h' w' (fun _ => β' id) h' → True := fun _ => trivial
    have hblk := h4.blk id _ hb
    have hg0 : ∀ (i : Nat) (b : Blk), getB [some (Blk.row e k true xs 0)] i = some b → i = 0 ∧ b = .row e k true xs 0 := fun i b hi => by
      cases i with
      | zero => simp only [getB] at hi; injection hi with hi; exact ⟨rfl, hi.symm⟩
      | succ i => simp [getB] at hi
    refine ⟨V, .own 0 xs.length, F', fun _ => β' id, [some (.row e k true xs 0)], h1, ⟨rfl, rfl⟩, ?_, ⟨fun i b hi => ?_, fun i j bi bj hi hj _ => ?_, h4.fin, fun i b hi => ?_, h4.glo⟩, ?_⟩
    · simp only [Rep] at h3 ⊢
      obtain ⟨A, c, hV, hc, el, k', pr', xs', fz', hb', hle, hr⟩ := h3
      rw [hb] at hb'; cases hb'
      exact ⟨A, c, hV, hc, _, _, _, _, _, rfl, hle, hr⟩
    · obtain ⟨rfl, rfl⟩ := hg0 i b hi
      obtain ⟨arr, q1, q2, q3, q4, q5⟩ := hblk
      exact ⟨arr, q1, q2, q3, q4, q5⟩
    · rw [(hg0 i bi hi).1, (hg0 j bj hj).1]
    · exact h4.lo id _ hb
    · refine ⟨h5.size, h5.keep, h5.tape, h5.os, h5.output, h5.cell, h5.org, fun b ⟨i, blk, hi, hi2⟩ => ?_, fun id cs fz hi => absurd hi (Nat.not_lt_zero _), fun id el k pr xs fz hi => absurd hi (Nat.not_lt_zero _)⟩
      exact h5.own b ⟨id, _, hb, hi2⟩
end
end Go.Px

set_option linter.unusedVariables false
set_option linter.unusedSimpArgs false
set_option linter.unnecessarySimpa false
namespace Go.Px
open Go

def tyOf (P : Program) (t : TypeId) : Option TyI :=
  match P.underlying t with
  | some u =>
    match P.info? t with
    | some inf =>
      match inf.zero with
      | some z => bif Nat.beq z.cells.size inf.size && z.cells.toList.all (fun v => v.oneCell') then some ⟨u, inf.size, inf.bytes, z⟩ else none
      | none => none
    | none => none
  | none => none

def fokOf (P : Program) (f : FuncId) : Bool :=
  match P.funcs[f]? with
  | some fn => fn.body.isSome && !(fn.name == "runtime.NumGoroutine")
  | none => false

theorem tyOf_spec {P : Program} {t : TypeId} {i : TyI} (h : tyOf P t = some i) :
    (P.underlying t = some i.und ∧ ∃ inf, P.info? t = some inf ∧ inf.size = i.size ∧ inf.bytes = i.bytes ∧ inf.zero = some i.zero) ∧ i.zero.cells.size = i.size ∧ ∀ v ∈ i.zero.cells.toList, v.oneCell' = true := by
  unfold tyOf at h
  split at h
  · rename_i u hu
    split at h
    · rename_i inf hinf
      split at h
      · rename_i z hz
        cases hc : (Nat.beq z.cells.size inf.size && z.cells.toList.all (fun v => v.oneCell')) with
        | false => rw [hc] at h; cases h
        | true =>
          rw [hc] at h
          simp only [cond_true, Option.some.injEq] at h
          subst h
          simp only [Bool.and_eq_true, List.all_eq_true] at hc
          exact ⟨⟨hu, inf, hinf, rfl, rfl, hz⟩, Nat.eq_of_beq_eq_true hc.1, hc.2⟩
      · cases h
    · cases h
  · cases h

theorem fokOf_spec {P : Program} {f : FuncId} (h : fokOf P f = true) : ∃ fn, P.funcs[f]? = some fn ∧ fn.body.isSome = true ∧ (fn.name == "runtime.NumGoroutine") = false := by
  unfold fokOf at h
  split at h
  · rename_i fn hf
    simp only [Bool.and_eq_true, Bool.not_eq_true'] at h
    exact ⟨fn, hf, h.1, h.2⟩
  · cases h

/-- Tables over a program, and what stands of its variables. -/
def mkEnv (P : Program) (mixed : P.follows .mixedOrders = true) (G : Nat) (X : (Nat → Option Obj) → Prop) (Tb : Tab) (hty : ∀ t i, (Tb ()).ty t = some i → tyOf P t = some i) (hfok : ∀ f, (Tb ()).fok f = true → fokOf P f = true)
    (eqok : ∀ {t ks}, (Tb ()).eqt t ks = true → ∃ i, (Tb ()).ty t = some i ∧ P.eqGuardType P.depth t = false ∧ ∀ (xs ys : Array Value) (w : World) (b : Bool), xs.size = i.size → xs.toList.map kV = ks → eqVals xs.toList ys.toList = some b → (Op.equal t (.agg xs) (.agg ys)).run P w = .ok b w) : Env Tb where
  P := P
  mixed := mixed
  G := G
  GI := fun w => G ≤ w.heap.size ∧ (∀ g cs, (Tb ()).glob g = some cs → RepCs w (fun b _ => b < G) cs g 0) ∧ X (fun b => bif Nat.blt b G then w.heap[b]? else none)
  gi := fun {w w'} ⟨h1, h2, h3⟩ hs hh _ _ => ⟨Nat.le_trans h1 hs, fun g cs hg => RepCs.mono (F := fun b _ => b < G) (fun b i hb => ⟨hb, cell?_of_heap (hh b hb)⟩) cs g 0 (h2 g cs hg), by
    have he : (fun b => bif Nat.blt b G then w'.heap[b]? else none) = (fun b => bif Nat.blt b G then w.heap[b]? else none) := funext fun b => by
      cases hb : Nat.blt b G with
      | true => simp only [cond_true]; exact hh b (Nat.le_of_ble_eq_true hb)
      | false => rfl
    rw [he]; exact h3⟩
  gsz := fun h => h.1
  tyok := fun h => (tyOf_spec (hty _ _ h)).1
  tyz := fun h => (tyOf_spec (hty _ _ h)).2
  fokok := fun h => fokOf_spec (hfok _ h)
  eqok := eqok
  globok := fun h hg => h.2.1 _ _ hg
end Go.Px

set_option linter.unusedVariables false
set_option linter.unusedSimpArgs false
set_option linter.unnecessarySimpa false
namespace Go.Px
open Go

/-! ### What a call leaves behind and nobody knows is forgotten -/
mutual
def idsLt (n : Nat) : PV → Bool
  | .own id _ => Nat.blt id n
  | .ptr id _ => Nat.blt id n
  | .rp id _ _ _ => Nat.blt id n
  | .mapo id => Nat.blt id n
  | .yl id => Nat.blt id n
  | .agg cs => idsLts n cs
  | .tup cs => idsLts n cs
  | .fn _ a b => bif idsLts n a then idsLts n b else false
  | _ => true
def idsLts (n : Nat) : List PV → Bool
  | [] => true
  | x :: r => bif idsLt n x then idsLts n r else false
end
def blkLt (n : Nat) : Option Blk → Bool
  | none => true
  | some (.box cs _) => bif notMap cs then idsLts n cs else false
  | some (.row _ _ pr xs _) => bif pr then true else idsLts n xs
def allLt (n : Nat) : Nat → Hp → Bool
  | 0, _ => true
  | _ + 1, [] => true
  | k + 1, b :: h => bif blkLt n b then allLt n k h else false
def gcOk (n : Nat) (v : PV) (h : Hp) : Bool := bif idsLt n v then allLt n n h else false

theorem idsLts_all {n : Nat} : ∀ {l : List PV}, idsLts n l = true → ∀ x ∈ l, idsLt n x = true
  | x :: r, h, y, hy => by
    simp only [idsLts] at h
    cases hx : idsLt n x with
    | false => rw [hx] at h; cases h
    | true =>
      rw [hx] at h
      rcases List.mem_cons.1 hy with rfl | hy
      · exact hx
      · exact idsLts_all h y hy
theorem getB_take : ∀ (h : Hp) (n id : Nat), id < n → getB (h.take n) id = getB h id
  | [], n, id, _ => by simp [getB]
  | b :: h, n + 1, 0, _ => rfl
  | b :: h, n + 1, id + 1, hi => by simp only [List.take_succ_cons, getB]; exact getB_take h n id (by omega)
theorem getB_take_ge : ∀ (h : Hp) (n id : Nat), n ≤ id → getB (h.take n) id = none
  | [], n, id, _ => by simp [getB]
  | b :: h, 0, id, _ => by simp [getB]
  | b :: h, n + 1, 0, hi => absurd hi (by omega)
  | b :: h, n + 1, id + 1, hi => by simp only [List.take_succ_cons, getB]; exact getB_take_ge h n id (by omega)
theorem getB_take_some {h : Hp} {n id : Nat} {b : Blk} (hb : getB (h.take n) id = some b) : id < n ∧ getB h id = some b := by
  rcases Nat.lt_or_ge id n with hlt | hge
  · exact ⟨hlt, by rwa [getB_take h n id hlt] at hb⟩
  · rw [getB_take_ge h n id hge] at hb; cases hb
theorem allLt_at {n : Nat} : ∀ {k : Nat} {h : Hp} {id : Nat} {b : Blk}, allLt n k h = true → id < k → getB h id = some b → blkLt n (some b) = true
  | k + 1, x :: h, 0, b, ha, _, hb => by
    simp only [getB] at hb
    subst hb
    simp only [allLt] at ha
    cases hx : blkLt n (some b) with
    | false => rw [hx] at ha; cases ha
    | true => rfl
  | k + 1, x :: h, id + 1, b, ha, hi, hb => by
    simp only [allLt] at ha
    cases hx : blkLt n x with
    | false => rw [hx] at ha; cases ha
    | true => rw [hx] at ha; exact allLt_at ha (by omega) hb

theorem Nat.lt_of_blt {a b : Nat} (h : Nat.blt a b = true) : a < b := Nat.le_of_ble_eq_true h
section
variable {w : World} {F : Foot} {β : Nat → Nat} {h : Hp} {n : Nat}
mutual
theorem Rep.cut : ∀ (v : PV) (V : Value), idsLt n v = true → Rep w F β h v V → Rep w F β (h.take n) v V
  | .agg cs, V, hi, g => by
    simp only [Rep] at g ⊢
    obtain ⟨arr, h1, h2⟩ := g
    exact ⟨arr, h1, ReL.cut cs _ (by simpa only [idsLt] using hi) h2⟩
  | .tup cs, V, hi, g => by
    simp only [Rep] at g ⊢
    obtain ⟨arr, h1, h2⟩ := g
    exact ⟨arr, h1, ReL.cut cs _ (by simpa only [idsLt] using hi) h2⟩
  | .fn f fi ca, V, hi, g => by
    simp only [Rep] at g ⊢
    simp only [idsLt] at hi
    obtain ⟨fa, ga, h1, h2, h3⟩ := g
    cases hx : idsLts n fi with
    | false => rw [hx] at hi; cases hi
    | true => rw [hx] at hi; exact ⟨fa, ga, h1, ReL.cut fi _ hx h2, ReL.cut ca _ hi h3⟩
  | .own id m, V, hi, g => by
    simp only [Rep] at g ⊢
    rw [getB_take _ _ _ (Nat.lt_of_blt hi)]; exact g
  | .ptr id m, V, hi, g => by
    simp only [Rep] at g ⊢
    rw [getB_take _ _ _ (Nat.lt_of_blt hi)]; exact g
  | .rp id m i o, V, hi, g => by
    simp only [Rep] at g ⊢
    rw [getB_take _ _ _ (Nat.lt_of_blt hi)]; exact g
  | .mapo id, V, hi, g => by
    simp only [Rep] at g ⊢
    rw [getB_take _ _ _ (Nat.lt_of_blt hi)]; exact g
  | .yl id, V, hi, g => by
    simp only [Rep] at g ⊢
    rw [getB_take _ _ _ (Nat.lt_of_blt hi)]; exact g
  | .undef, V, hi, g | .int _ _, V, hi, g | .bool _, V, hi, g | .kb _, V, hi, g | .str _, V, hi, g | .nili, V, hi, g | .nilf, V, hi, g | .err, V, hi, g | .sl _, V, hi, g | .nils, V, hi, g | .pp _ _, V, hi, g | .fresh _ _, V, hi, g | .gp _ _, V, hi, g | .mapp _ _, V, hi, g | .loopp _ _ _ _ _, V, hi, g | .itp _ _, V, hi, g => by
    simpa only [Rep] using g
theorem ReL.cut : ∀ (vs : List PV) (Vs : List Value), idsLts n vs = true → ReL w F β h vs Vs → ReL w F β (h.take n) vs Vs
  | [], _, _, g => by simpa [ReL] using g
  | x :: xs, Vs, hi, g => by
    simp only [idsLts] at hi
    simp only [ReL] at g ⊢
    obtain ⟨v, vs', h1, h2, h3⟩ := g
    cases hx : idsLt n x with
    | false => rw [hx] at hi; cases hi
    | true => rw [hx] at hi; exact ⟨v, vs', h1, Rep.cut x v hx h2, ReL.cut xs vs' hi h3⟩
end

theorem idsLt_cells {x c : PV} (hx : idsLt n x = true) {i : Nat} (hc : x.cells[i]? = some c) : idsLt n c = true := by
  cases x <;> simp only [PV.cells] at hc <;> first
    | (cases i with
      | zero => simp at hc; subst hc; exact hx
      | succ i => simp at hc)
    | exact idsLts_all (by simpa only [idsLt] using hx) c (List.mem_of_getElem? hc)

theorem SimH.cut {G : Nat} (hs : SimH G w F β h) (ha : allLt n n h = true) : SimH G w F β (h.take n) := by
  refine ⟨fun id b hb => ?_, fun i j bi bj hi hj he => hs.inj i j bi bj (getB_take_some hi).2 (getB_take_some hj).2 he, hs.fin, fun id b hb => hs.lo id b (getB_take_some hb).2, hs.glo⟩
  obtain ⟨hlt, hb⟩ := getB_take_some hb
  have hbl := allLt_at ha hlt hb
  have hblk := hs.blk id b hb
  cases b with
  | box cs fz =>
    simp only [blkLt] at hbl
    cases hm : notMap cs with
    | false => rw [hm] at hbl; cases hbl
    | true =>
      rw [hm] at hbl
      rcases hblk with ⟨h0, arr, e, h1, h2, h3⟩ | ⟨x, hx, ho, _⟩
      · exact .inl ⟨h0, arr, e, h1, ReL.cut _ _ hbl h2, h3⟩
      · exact (ho.notMap hx hm).elim
  | row e k pr xs fz =>
    obtain ⟨arr, h1, h2, h3, h4, h5⟩ := hblk
    refine ⟨arr, h1, h2, h3, fun j x hx => ⟨(h4 j x hx).1, fun i c hc => ?_⟩, h5⟩
    obtain ⟨U, hU, ho, hp⟩ := (h4 j x hx).2 i c hc
    refine ⟨U, hU, ho, ?_⟩
    cases pr with
    | true => exact hp
    | false =>
      simp only [blkLt, cond_false] at hbl
      simp only [Bool.false_eq_true, if_false] at hp ⊢
      exact Rep.cut _ _ (idsLt_cells (idsLts_all hbl x (List.mem_of_getElem? hx)) hc) hp

theorem Evo.cut {w0 : World} {F0 : Foot} {β0 : Nat → Nat} {h0 : Hp} (e : Evo n w0 F0 β0 h0 w F β h) : Evo n w0 F0 β0 h0 w F β (h.take n) := by
  refine ⟨e.size, e.keep, e.tape, e.os, e.output, e.cell, e.org, fun b ⟨id, blk, h1, h2⟩ => e.own b ⟨id, blk, (getB_take_some h1).2, h2⟩, fun id cs fz hi hb => ?_, fun id el k pr xs fz hi hb => ?_⟩
  · obtain ⟨⟨cs', fz', h1⟩, h2⟩ := e.box id cs fz hi hb
    exact ⟨⟨cs', fz', by rw [getB_take _ _ _ hi]; exact h1⟩, h2⟩
  · obtain ⟨pr', xs', fz', h1, h2⟩ := e.row id el k pr xs fz hi hb
    exact ⟨pr', xs', fz', by rw [getB_take _ _ _ hi]; exact h1, h2⟩
end

theorem AC.gc {Tb : Tab} {E : Env Tb} {f : FuncId} {args : List PV} {h h' : Hp} {v : PV} (ac : AC E f args h fun v2 h2 => v2 = v ∧ h2 = h') (hg : gcOk h.length v h' = true) : AC E f args h fun v2 h2 => v2 = v ∧ h2 = h'.take h.length := fun w F β vs hgi hs hx => by
  unfold gcOk at hg
  cases hi : idsLt h.length v with
  | false => rw [hi] at hg; cases hg
  | true =>
    rw [hi] at hg
    refine Calls.mono' (ac w F β vs hgi hs hx) ?_
    rintro e w' ⟨V, v2, F2, β2, h2, rfl, ⟨rfl, rfl⟩, hr, hs2, ev⟩
    exact ⟨V, _, F2, β2, _, rfl, ⟨rfl, rfl⟩, Rep.cut _ _ hi hr, hs2.cut hg, ev.cut⟩
end Go.Px

set_option linter.unusedVariables false
set_option linter.unusedSimpArgs false
set_option linter.unnecessarySimpa false
namespace Go.Px
open Go

section
variable {Tb : Tab} {E : Env Tb} {N B n : Nat}

/-- A round, and from there on. -/
def again {Tb : Tab} (E : Env Tb) (N n : Nat) (ac : ACode) (Q : Exit → AS → Prop) (e : Exit) (st : AS) : Prop :=
  match e with
  | .normal => LoopVC E N n ac Q st
  | e => Q e st

theorem LoopVC.unroll {ac : ACode} {Q : Exit → AS → Prop} {st : AS} (hk : vc E N n ac st (again E N n ac Q)) : LoopVC E N n ac Q st := by
  refine ⟨fun K c hc r hr B F β a w s => ?_⟩
  refine LoopAt.unroll (wpIn_mono (vc_sound K c ac r hr B st _ F β a w hk hc s) ?_)
  rintro e a1 w1 ⟨st1, F1, β1, h1, s1, e1⟩
  cases e with
  | normal =>
    intro b k cs hro
    obtain ⟨e2, a2, w2, h2, h3⟩ := LoopVC.out h1 K c hc r hr B F1 β1 a1 w1 s1 b k cs hro
    exact ⟨e2, a2, w2, Post.trans e1 h2, h3⟩
  | _ => exact ⟨st1, F1, β1, h1, s1, e1⟩

theorem LoopVC.keep {ac : ACode} {Q : Exit → AS → Prop} {tm : List (Nat × PV)} {h : Hp} (ks : List Nat) (hk : LoopVC E N n ac Q ⟨sel ks tm, h⟩) : LoopVC E N n ac Q ⟨tm, h⟩ :=
  ⟨fun K c hc r hr B F β a w s => hk.out K c hc r hr B F β a w (s.keep ks)⟩

def slotsOf : List (Nat × PV) → List Nat
  | [] => []
  | (t, _) :: r => t :: slotsOf r

/-- A round's end: the state of the next, at what counts less. -/
def next {ι : Type} (S : ι → AS) (I : ι → Prop) (μ : ι → Nat) (m : Nat) (Q : Exit → AS → Prop) (e : Exit) (st : AS) : Prop :=
  match e with
  | .normal => ∃ j, μ j < m ∧ I j ∧ sel (slotsOf (S j).tm) st.tm = (S j).tm ∧ st.h = (S j).h
  | e => Q e st

theorem LoopVC.fam {ι : Type} (S : ι → AS) (I : ι → Prop) (μ : ι → Nat) {ac : ACode} {Q : Exit → AS → Prop} (hk : ∀ i, I i → vc E N n ac (S i) (next S I μ (μ i) Q)) :
    ∀ (i : ι) (st : AS), I i → sel (slotsOf (S i).tm) st.tm = (S i).tm → st.h = (S i).h → LoopVC E N n ac Q st := by
  have main : ∀ (m : Nat) (i : ι), μ i < m → I i → LoopVC E N n ac Q (S i) := by
    intro m
    induction m with
    | zero => intro i hi; exact absurd hi (Nat.not_lt_zero _)
    | succ m ih =>
      intro i hi hI
      refine ⟨fun K c hc r hr B F β a w s => ?_⟩
      refine LoopAt.unroll (wpIn_mono (vc_sound K c ac r hr B (S i) _ F β a w (hk i hI) hc s) ?_)
      rintro e a1 w1 ⟨st1, F1, β1, h1, s1, e1⟩
      cases e with
      | normal =>
        obtain ⟨j, hj, hIj, ht, hh⟩ := h1
        intro b k cs hro
        have s2 : Sim E N B F1 β1 (S j) a1 w1 := by
          have h0 := Sim.keep (slotsOf (S j).tm) (tm := st1.tm) (h := st1.h) s1
          rw [ht, hh] at h0
          exact h0
        obtain ⟨e2, a2, w2, h2, h3⟩ := (ih j (by omega) hIj).out K c hc r hr B F1 β1 a1 w1 s2 b k cs hro
        rw [← hh] at h2
        exact ⟨e2, a2, w2, Post.trans e1 h2, h3⟩
      | _ => exact ⟨st1, F1, β1, h1, s1, e1⟩
  intro i st hI ht hh
  obtain ⟨tm, h⟩ := st
  refine LoopVC.keep (slotsOf (S i).tm) ?_
  simp only at ht hh
  rw [ht, hh]
  exact main (μ i + 1) i (Nat.lt_succ_self _) hI

/-- The same, with names for what a goal would else repeat. -/
theorem LoopVC.run {ι : Type} (S : ι → AS) (I : ι → Prop) (μ : ι → Nat) {ac : ACode} {Q : Exit → AS → Prop} (i : ι) (st : AS) (hI : I i) (ht : sel (slotsOf (S i).tm) st.tm = (S i).tm) (hh : st.h = (S i).h)
    (hk : ∀ (Q' : Exit → AS → Prop) (m : Nat) (S' : ι → AS) (μ' : ι → Nat) (I' : ι → Prop), Q' = Q → S' = S → μ' = μ → I' = I → ∀ i, I i → m = μ i → vc E N n ac (S i) (next S' I' μ' m Q')) : LoopVC E N n ac Q st :=
  LoopVC.fam S I μ (fun i hi => hk Q (μ i) S μ I rfl rfl rfl rfl i hi rfl) i st hI ht hh
end

/-! ### What closes the obligations of a walk -/
theorem ob {P : Prop} (h : P) : Ob (fun _ => P) := ⟨h⟩
theorem ex_tt {P : Prop} {G : Bool → Prop} (h : ∀ t : Bool, (t = true ↔ P) → G t) : ∃ t : Bool, (t = true ↔ P) ∧ G t := by
  by_cases hp : P
  · exact ⟨true, by simp [hp], h true (by simp [hp])⟩
  · exact ⟨false, by simp [hp], h false (by simp [hp])⟩
theorem ex_of {α : Type} {a : α} {G : α → Prop} (h : ∀ x, a = x → G x) : ∃ x, a = x ∧ G x := ⟨a, rfl, h a rfl⟩
theorem wrap64 {z : Int} (h : -9223372036854775808 ≤ z ∧ z < 9223372036854775808) : IntKind.i64.wrap z = z := by
  simp only [IntKind.wrap, IntKind.bits, IntKind.signed]
  simp
  omega
theorem at_lt {α : Type} {xs : List α} {i : Nat} {x : α} (h : xs[i]? = some x) : i < xs.length := by
  rcases Nat.lt_or_ge i xs.length with h1 | h1
  · exact h1
  · rw [List.getElem?_eq_none h1] at h; cases h
theorem true_of {t : Bool} {P : Prop} (h : t = true ↔ P) (ht : t = true) : P := h.1 ht
theorem not_of {t : Bool} {P : Prop} (h : t = true ↔ P) (ht : t = false) : ¬ P := fun hp => by rw [h.2 hp] at ht; cases ht
end Go.Px

set_option linter.unusedVariables false
set_option linter.unusedSimpArgs false
namespace Go.Px
open Go

/-! ### '==' of structs whose fields are numbers, bools, strings -/
def kU : TypeDesc → Nat
  | .int _ => 0
  | .bool => 1
  | .string => 2
  | _ => 3
/-- The fields lie one cell each, side by side, of these kinds. -/
def flatAt (P : Program) : Nat → List Field → List Nat → Bool
  | _, [], [] => true
  | j, f :: r, k :: ks => (Nat.beq f.offset j && !(f.name == "_")) && ((P.plainKey f.type && (match P.underlying f.type with
      | some u => Nat.beq (kU u) k
      | none => false)) && flatAt P (j + 1) r ks)
  | _, _, _ => false
def eqtOf (P : Program) (t : TypeId) (ks : List Nat) : Bool :=
  match tyOf P t with
  | some i => match i.und with
    | .struct fs => (!P.stoodInHeld t && !P.eqGuardType P.depth t) && (flatAt P 0 fs.toList ks && Nat.beq fs.size i.size)
    | _ => false
  | none => false

theorem eqFields_flat {P : Program} {d : Nat} {xs ys : Array Value} {w : World} : ∀ (fs : List Field) (j : Nat) (vs us : List Value) (b : Bool), flatAt P j fs (vs.map kV) = true → xs.toList.drop j = vs → ys.toList.drop j = us → eqVals vs us = some b →
    (Op.eqFields (d + 1) xs ys fs).run P w = .ok b w
  | [], j, vs, us, b, hf, hx, hy, he => by
    cases vs with
    | nil => cases us with
      | nil => simp only [eqVals, Option.some.injEq] at he; subst he; simp [Op.eqFields]
      | cons _ _ => simp [eqVals] at he
    | cons v vs => simp [flatAt] at hf
  | f :: fs, j, vs, us, b, hf, hx, hy, he => by
    cases vs with
    | nil => simp [flatAt] at hf
    | cons x vs =>
      cases us with
      | nil => cases x <;> simp [eqVals] at he
      | cons y us =>
        simp only [List.map_cons, flatAt, Bool.and_eq_true, Bool.not_eq_true', beq_eq_false_iff_ne] at hf
        obtain ⟨⟨hoff, hname⟩, ⟨hp, hkind⟩, hf⟩ := hf
        have hoff := Nat.eq_of_beq_eq_true hoff
        have hx0 : xs[j]? = some x := by
          have := congrArg (·[0]?) hx
          simpa [List.getElem?_drop] using this
        have hy0 : ys[j]? = some y := by
          have := congrArg (·[0]?) hy
          simpa [List.getElem?_drop] using this
        have hx1 : xs.toList.drop (j + 1) = vs := by rw [← List.drop_drop, hx]; rfl
        have hy1 : ys.toList.drop (j + 1) = us := by rw [← List.drop_drop, hy]; rfl
        rw [← hoff] at hx0 hy0
        simp only [Op.eqFields, hname, ne_eq, not_false_eq_true, if_true, Sem.run_bind, run_part_plain w hp hx0, run_part_plain w hp hy0, Result.andThen_ok]
        have fin : ∀ (r : Bool), (Op.equalIn (d + 1) f.type x y).run P w = .ok r w → (eqVals vs us).map (fun t => r && t) = some b →
            (((Op.equalIn (d + 1) f.type x y).run P w).andThen fun r => (if (!r) = true then pure false else Op.eqFields (d + 1) xs ys fs : Sem Bool).run P) = .ok b w := fun r hr hb => by
          obtain ⟨t, ho, hb⟩ := Option.map_eq_some_iff.1 hb
          subst hb
          rw [hr]
          cases r with
          | false => simp [Result.andThen]
          | true =>
            have := eqFields_flat (d := d) (w := w) fs (j + 1) vs us t hf hx1 hy1 ho
            simpa [Result.andThen] using this
        cases hu : P.underlying f.type with
        | none => rw [hu] at hkind; cases hkind
        | some u =>
          rw [hu] at hkind
          replace hkind := Nat.eq_of_beq_eq_true hkind
          cases x <;> cases y <;> simp only [eqVals] at he <;> (try cases he; done)
          case int k a k' b' =>
            cases u <;> simp [kU, kV] at hkind
            split at he
            · rename_i hk
              subst hk
              exact fin (a == b') (run_equalIn_int w d _ _ _ a b' hu) he
            · cases he
          case bool a b' =>
            cases u <;> simp [kU, kV] at hkind
            exact fin (a == b') (run_equalIn_bool w d _ a b' hu) he
          case string a b' =>
            cases u <;> simp [kU, kV] at hkind
            exact fin (a == b') (by rw [beq_toListBytes]; exact run_equalIn_string w d _ a b' hu) he

theorem eqtOf_ok {P : Program} {t : TypeId} {ks : List Nat} (h : eqtOf P t ks = true) : ∃ i, tyOf P t = some i ∧ P.eqGuardType P.depth t = false ∧ ∀ (xs ys : Array Value) (w : World) (b : Bool), xs.size = i.size → xs.toList.map kV = ks → eqVals xs.toList ys.toList = some b → (Op.equal t (.agg xs) (.agg ys)).run P w = .ok b w := by
  unfold eqtOf at h
  split at h
  · rename_i i hi
    split at h
    · rename_i fs hu
      simp only [Bool.and_eq_true, Bool.not_eq_true'] at h
      obtain ⟨⟨h1, h2⟩, h3, h4⟩ := h
      refine ⟨i, hi, h2, fun xs ys w b hsz hk he => ?_⟩
      have hund : P.underlying t = some (.struct fs) := by rw [(tyOf_spec hi).1.1, hu]
      have hfo : P.fieldsOf t = fs := by simp [Program.fieldsOf, hund]
      show (Op.equalIn (9998 + 1 + 1) t (.agg xs) (.agg ys)).run P w = .ok b w
      rw [run_equalIn_struct w (9998 + 1) t xs ys (by rw [hfo]; exact hund) h1, hfo]
      subst hk
      exact eqFields_flat fs.toList 0 _ _ b h3 rfl rfl he
    · cases h
  · cases h
end Go.Px
