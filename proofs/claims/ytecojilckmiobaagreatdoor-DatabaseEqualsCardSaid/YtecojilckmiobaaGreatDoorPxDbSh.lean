/- Shows a part of the walk of the law; its conditions stand ahead of each theorem. -/
import Derived.Test.YtecojilckmiobaaGreatDoorPxDb
import Derived.Test.YtecojilckmiobaaGreatDoorPxE
import Derived.Test.YtecojilckmiobaaGreatDoorChecked
import Derived.Shelf.Strings.Search2
import Derived.Shelf.Strconv.AtoiAll
import Derived.Shelf.Strconv.Itoa3
import Derived.Lib.SmallJoins
import Derived.Lib.AppendIntMem
set_option linter.unusedVariables false
set_option maxRecDepth 100000
namespace Go.Proofs
open Go.Shelf
def Tryz.lIdx_ren : Go.Shelf.Ren := ⟨fun | 219 => 199 | 217 => 245 | 225 => 246 | 224 => 247 | 267 => 248 | 266 => 299 | 314 => 300 | n => n, fun | 9 => 9 | 3 => 3 | 4 => 4 | 5 => 5 | 46 => 219 | 146 => 331 | 51 => 197 | n => n, fun | 1 => 2 | n => n⟩
theorem Tryz.lIdx : Go.Proofs.Lays.n219 Tryz.prog Tryz.lIdx_ren where
  mixed := by kernel_rfl
  f217 := Tryz.func245.trans (congrArg some (by kernel_rfl))
  f219 := Tryz.func199.trans (congrArg some (by kernel_rfl))
  f224 := Tryz.func247.trans (congrArg some (by kernel_rfl))
  f225 := Tryz.func246.trans (congrArg some (by kernel_rfl))
  f266 := Tryz.func299.trans (congrArg some (by kernel_rfl))
  f267 := Tryz.func248.trans (congrArg some (by kernel_rfl))
  f314 := Tryz.func300.trans (congrArg some (by kernel_rfl))
  t3 := Tryz.underlying3
  a3 := Tryz.isAgg3
  z3 := Tryz.sizeOf3
  v3 := Tryz.zeroValue3
  t4 := Tryz.underlying4
  a4 := Tryz.isAgg4
  z4 := Tryz.sizeOf4
  v4 := Tryz.zeroValue4
  t5 := Tryz.underlying5
  a5 := Tryz.isAgg5
  z5 := Tryz.sizeOf5
  v5 := Tryz.zeroValue5
  t9 := Tryz.underlying9
  a9 := Tryz.isAgg9
  z9 := Tryz.sizeOf9
  v9 := Tryz.zeroValue9
  t46 := Tryz.underlying219
  a46 := Tryz.isAgg219
  z46 := Tryz.sizeOf219
  v46 := Tryz.zeroValue219
  t51 := Tryz.underlying197
  a51 := Tryz.isAgg197
  z51 := Tryz.sizeOf197
  v51 := Tryz.zeroValue197
  t146 := Tryz.underlying331
  a146 := Tryz.isAgg331
  z146 := Tryz.sizeOf331
  v146 := Tryz.zeroValue331
  g1 := by kernel_rfl
def Tryz.lAtoi_ren : Go.Shelf.Ren := ⟨fun | 172 => 157 | 244 => 201 | 245 => 202 | 247 => 249 | 279 => 250 | 280 => 251 | 281 => 252 | 282 => 253 | 287 => 301 | 316 => 302 | 171 => 112 | 205 => 303 | 321 => 333 | 322 => 334 | 243 => 154 | 246 => 198 | 283 => 241 | 284 => 242 | 285 => 243 | 286 => 244 | 129 => 284 | 317 => 295 | 318 => 296 | 319 => 297 | 320 => 298 | 337 => 331 | 338 => 332 | n => n, fun | 9 => 9 | 3 => 3 | 75 => 201 | 76 => 202 | 4 => 4 | 5 => 5 | 167 => 296 | 37 => 213 | 0 => 0 | 85 => 297 | 2 => 2 | 168 => 299 | 53 => 289 | 175 => 333 | 46 => 219 | 210 => 336 | 127 => 271 | 145 => 363 | 143 => 361 | 21 => 21 | 171 => 288 | 173 => 292 | 212 => 329 | 51 => 197 | 20 => 20 | 213 => 330 | 232 => 377 | 233 => 378 | 80 => 218 | n => n, fun | 15 => 4 | 16 => 5 | 17 => 3 | 18 => 6 | 19 => 7 | n => n⟩
theorem Tryz.lAtoi : Go.Proofs.LaysC.n172 Tryz.prog Tryz.lAtoi_ren where
  mixed := by kernel_rfl
  f129 := Tryz.func284.trans (congrArg some (by kernel_rfl))
  f171 := Tryz.func112.trans (congrArg some (by kernel_rfl))
  f172 := Tryz.func157.trans (congrArg some (by kernel_rfl))
  f205 := Tryz.func303.trans (congrArg some (by kernel_rfl))
  f243 := Tryz.func154.trans (congrArg some (by kernel_rfl))
  f244 := Tryz.func201.trans (congrArg some (by kernel_rfl))
  f245 := Tryz.func202.trans (congrArg some (by kernel_rfl))
  f246 := Tryz.func198.trans (congrArg some (by kernel_rfl))
  f247 := Tryz.func249.trans (congrArg some (by kernel_rfl))
  f279 := Tryz.func250.trans (congrArg some (by kernel_rfl))
  f280 := Tryz.func251.trans (congrArg some (by kernel_rfl))
  f281 := Tryz.func252.trans (congrArg some (by kernel_rfl))
  f282 := Tryz.func253.trans (congrArg some (by kernel_rfl))
  f283 := Tryz.func241.trans (congrArg some (by kernel_rfl))
  f284 := Tryz.func242.trans (congrArg some (by kernel_rfl))
  f285 := Tryz.func243.trans (congrArg some (by kernel_rfl))
  f286 := Tryz.func244.trans (congrArg some (by kernel_rfl))
  f287 := Tryz.func301.trans (congrArg some (by kernel_rfl))
  f316 := Tryz.func302.trans (congrArg some (by kernel_rfl))
  f317 := Tryz.func295.trans (congrArg some (by kernel_rfl))
  f318 := Tryz.func296.trans (congrArg some (by kernel_rfl))
  f319 := Tryz.func297.trans (congrArg some (by kernel_rfl))
  f320 := Tryz.func298.trans (congrArg some (by kernel_rfl))
  f321 := Tryz.func333.trans (congrArg some (by kernel_rfl))
  f322 := Tryz.func334.trans (congrArg some (by kernel_rfl))
  f337 := Tryz.func331.trans (congrArg some (by kernel_rfl))
  f338 := Tryz.func332.trans (congrArg some (by kernel_rfl))
  t0 := Tryz.underlying0
  a0 := Tryz.isAgg0
  z0 := Tryz.sizeOf0
  v0 := Tryz.zeroValue0
  t2 := Tryz.underlying2
  a2 := Tryz.isAgg2
  z2 := Tryz.sizeOf2
  v2 := Tryz.zeroValue2
  t3 := Tryz.underlying3
  a3 := Tryz.isAgg3
  z3 := Tryz.sizeOf3
  v3 := Tryz.zeroValue3
  t4 := Tryz.underlying4
  a4 := Tryz.isAgg4
  z4 := Tryz.sizeOf4
  v4 := Tryz.zeroValue4
  t5 := Tryz.underlying5
  a5 := Tryz.isAgg5
  z5 := Tryz.sizeOf5
  v5 := Tryz.zeroValue5
  t9 := Tryz.underlying9
  a9 := Tryz.isAgg9
  z9 := Tryz.sizeOf9
  v9 := Tryz.zeroValue9
  t20 := Tryz.underlying20
  a20 := Tryz.isAgg20
  z20 := Tryz.sizeOf20
  v20 := Tryz.zeroValue20
  t21 := Tryz.underlying21
  a21 := Tryz.isAgg21
  z21 := Tryz.sizeOf21
  v21 := Tryz.zeroValue21
  t37 := Tryz.underlying213
  a37 := Tryz.isAgg213
  z37 := Tryz.sizeOf213
  v37 := Tryz.zeroValue213
  t46 := Tryz.underlying219
  a46 := Tryz.isAgg219
  z46 := Tryz.sizeOf219
  v46 := Tryz.zeroValue219
  t51 := Tryz.underlying197
  a51 := Tryz.isAgg197
  z51 := Tryz.sizeOf197
  v51 := Tryz.zeroValue197
  t53 := Tryz.underlying289
  a53 := Tryz.isAgg289
  z53 := Tryz.sizeOf289
  v53 := Tryz.zeroValue289
  t75 := Tryz.underlying201
  a75 := Tryz.isAgg201
  z75 := Tryz.sizeOf201
  v75 := Tryz.zeroValue201
  t76 := Tryz.underlying202
  a76 := Tryz.isAgg202
  z76 := Tryz.sizeOf202
  v76 := Tryz.zeroValue202
  t85 := Tryz.underlying297
  a85 := Tryz.isAgg297
  z85 := Tryz.sizeOf297
  v85 := Tryz.zeroValue297
  t127 := Tryz.underlying271
  a127 := Tryz.isAgg271
  z127 := Tryz.sizeOf271
  v127 := Tryz.zeroValue271
  t143 := Tryz.underlying361
  a143 := Tryz.isAgg361
  z143 := Tryz.sizeOf361
  v143 := Tryz.zeroValue361
  t145 := Tryz.underlying363
  a145 := Tryz.isAgg363
  z145 := Tryz.sizeOf363
  v145 := Tryz.zeroValue363
  t167 := Tryz.underlying296
  a167 := Tryz.isAgg296
  z167 := Tryz.sizeOf296
  v167 := Tryz.zeroValue296
  t168 := Tryz.underlying299
  a168 := Tryz.isAgg299
  z168 := Tryz.sizeOf299
  v168 := Tryz.zeroValue299
  t171 := Tryz.underlying288
  a171 := Tryz.isAgg288
  z171 := Tryz.sizeOf288
  v171 := Tryz.zeroValue288
  t173 := Tryz.underlying292
  a173 := Tryz.isAgg292
  z173 := Tryz.sizeOf292
  v173 := Tryz.zeroValue292
  t175 := Tryz.underlying333
  a175 := Tryz.isAgg333
  z175 := Tryz.sizeOf333
  v175 := Tryz.zeroValue333
  t210 := Tryz.underlying336
  a210 := Tryz.isAgg336
  z210 := Tryz.sizeOf336
  v210 := Tryz.zeroValue336
  t212 := Tryz.underlying329
  a212 := Tryz.isAgg329
  z212 := Tryz.sizeOf329
  v212 := Tryz.zeroValue329
  t213 := Tryz.underlying330
  a213 := Tryz.isAgg330
  z213 := Tryz.sizeOf330
  t232 := Tryz.underlying377
  a232 := Tryz.isAgg377
  z232 := Tryz.sizeOf377
  v232 := Tryz.zeroValue377
  t233 := Tryz.underlying378
  a233 := Tryz.isAgg378
  z233 := Tryz.sizeOf378
  v233 := Tryz.zeroValue378
  g15 := by kernel_rfl
  g16 := by kernel_rfl
  g17 := by kernel_rfl
  g18 := by kernel_rfl
  g19 := by kernel_rfl
  t80 := Tryz.underlying218
  a80 := Tryz.isAgg218
  z80 := Tryz.sizeOf218
  v80 := Tryz.zeroValue218
  i0 := by kernel_rfl
  i2 := by kernel_rfl
  i3 := by kernel_rfl
  i4 := by kernel_rfl
  i5 := by kernel_rfl
  i9 := by kernel_rfl
  i20 := by kernel_rfl
  i21 := by kernel_rfl
  i37 := by kernel_rfl
  i46 := by kernel_rfl
  i51 := by kernel_rfl
  i53 := by kernel_rfl
  i75 := by kernel_rfl
  i76 := by kernel_rfl
  i80 := by kernel_rfl
  i85 := by kernel_rfl
  i127 := by kernel_rfl
  i143 := by kernel_rfl
  i145 := by kernel_rfl
  i167 := by kernel_rfl
  i168 := by kernel_rfl
  i171 := by kernel_rfl
  i173 := by kernel_rfl
  i175 := by kernel_rfl
  i210 := by kernel_rfl
  i212 := by kernel_rfl
  i232 := by kernel_rfl
  i233 := by kernel_rfl
  m15 := by kernel_rfl
  m16 := by kernel_rfl
  m17 := by kernel_rfl
  m18 := by kernel_rfl
  m19 := by kernel_rfl
  c0 := by kernel_rfl
  c2 := by kernel_rfl
  c3 := by kernel_rfl
  c4 := by kernel_rfl
  c5 := by kernel_rfl
  c9 := by kernel_rfl
  c20 := by kernel_rfl
  c21 := by kernel_rfl
  c37 := by kernel_rfl
  c46 := by kernel_rfl
  c51 := by kernel_rfl
  c53 := by kernel_rfl
  c75 := by kernel_rfl
  c76 := by kernel_rfl
  c80 := by kernel_rfl
  c85 := by kernel_rfl
  c127 := by kernel_rfl
  c143 := by kernel_rfl
  c145 := by kernel_rfl
  c167 := by kernel_rfl
  c168 := by kernel_rfl
  c171 := by kernel_rfl
  c173 := by kernel_rfl
  c175 := by kernel_rfl
  c210 := by kernel_rfl
  c212 := by kernel_rfl
  c213 := by kernel_rfl
  c232 := by kernel_rfl
  c233 := by kernel_rfl
def Tryz.lItoa_ren : Go.Shelf.Ren := ⟨fun | 171 => 112 | 243 => 154 | 246 => 198 | 283 => 241 | 284 => 242 | 285 => 243 | 286 => 244 | 129 => 284 | 317 => 295 | 318 => 296 | 319 => 297 | 320 => 298 | 337 => 331 | 338 => 332 | n => n, fun | 3 => 3 | 9 => 9 | 2 => 2 | 4 => 4 | 171 => 288 | 0 => 0 | 53 => 289 | 37 => 213 | 5 => 5 | 173 => 292 | 212 => 329 | 51 => 197 | 20 => 20 | 213 => 330 | 46 => 219 | 232 => 377 | 233 => 378 | n => n, fun | 17 => 3 | 18 => 6 | 19 => 7 | n => n⟩
theorem Tryz.lItoa : Go.Proofs.LaysM.n171 Tryz.prog Tryz.lItoa_ren where
  mixed := by kernel_rfl
  f129 := Tryz.func284.trans (congrArg some (by kernel_rfl))
  f171 := Tryz.func112.trans (congrArg some (by kernel_rfl))
  f243 := Tryz.func154.trans (congrArg some (by kernel_rfl))
  f246 := Tryz.func198.trans (congrArg some (by kernel_rfl))
  f283 := Tryz.func241.trans (congrArg some (by kernel_rfl))
  f284 := Tryz.func242.trans (congrArg some (by kernel_rfl))
  f285 := Tryz.func243.trans (congrArg some (by kernel_rfl))
  f286 := Tryz.func244.trans (congrArg some (by kernel_rfl))
  f317 := Tryz.func295.trans (congrArg some (by kernel_rfl))
  f318 := Tryz.func296.trans (congrArg some (by kernel_rfl))
  f319 := Tryz.func297.trans (congrArg some (by kernel_rfl))
  f320 := Tryz.func298.trans (congrArg some (by kernel_rfl))
  f337 := Tryz.func331.trans (congrArg some (by kernel_rfl))
  f338 := Tryz.func332.trans (congrArg some (by kernel_rfl))
  t0 := Tryz.underlying0
  a0 := Tryz.isAgg0
  z0 := Tryz.sizeOf0
  v0 := Tryz.zeroValue0
  t2 := Tryz.underlying2
  a2 := Tryz.isAgg2
  z2 := Tryz.sizeOf2
  v2 := Tryz.zeroValue2
  t3 := Tryz.underlying3
  a3 := Tryz.isAgg3
  z3 := Tryz.sizeOf3
  v3 := Tryz.zeroValue3
  t4 := Tryz.underlying4
  a4 := Tryz.isAgg4
  z4 := Tryz.sizeOf4
  v4 := Tryz.zeroValue4
  t5 := Tryz.underlying5
  a5 := Tryz.isAgg5
  z5 := Tryz.sizeOf5
  v5 := Tryz.zeroValue5
  t9 := Tryz.underlying9
  a9 := Tryz.isAgg9
  z9 := Tryz.sizeOf9
  v9 := Tryz.zeroValue9
  t20 := Tryz.underlying20
  a20 := Tryz.isAgg20
  z20 := Tryz.sizeOf20
  v20 := Tryz.zeroValue20
  t37 := Tryz.underlying213
  a37 := Tryz.isAgg213
  z37 := Tryz.sizeOf213
  v37 := Tryz.zeroValue213
  t46 := Tryz.underlying219
  a46 := Tryz.isAgg219
  z46 := Tryz.sizeOf219
  v46 := Tryz.zeroValue219
  t51 := Tryz.underlying197
  a51 := Tryz.isAgg197
  z51 := Tryz.sizeOf197
  v51 := Tryz.zeroValue197
  t53 := Tryz.underlying289
  a53 := Tryz.isAgg289
  z53 := Tryz.sizeOf289
  v53 := Tryz.zeroValue289
  t171 := Tryz.underlying288
  a171 := Tryz.isAgg288
  z171 := Tryz.sizeOf288
  v171 := Tryz.zeroValue288
  t173 := Tryz.underlying292
  a173 := Tryz.isAgg292
  z173 := Tryz.sizeOf292
  v173 := Tryz.zeroValue292
  t212 := Tryz.underlying329
  a212 := Tryz.isAgg329
  z212 := Tryz.sizeOf329
  v212 := Tryz.zeroValue329
  t213 := Tryz.underlying330
  a213 := Tryz.isAgg330
  z213 := Tryz.sizeOf330
  t232 := Tryz.underlying377
  a232 := Tryz.isAgg377
  z232 := Tryz.sizeOf377
  v232 := Tryz.zeroValue377
  t233 := Tryz.underlying378
  a233 := Tryz.isAgg378
  z233 := Tryz.sizeOf378
  v233 := Tryz.zeroValue378
  g17 := by kernel_rfl
  g18 := by kernel_rfl
  g19 := by kernel_rfl
  i0 := by kernel_rfl
  i2 := by kernel_rfl
  i3 := by kernel_rfl
  i4 := by kernel_rfl
  i5 := by kernel_rfl
  i9 := by kernel_rfl
  i20 := by kernel_rfl
  i37 := by kernel_rfl
  i46 := by kernel_rfl
  i51 := by kernel_rfl
  i53 := by kernel_rfl
  i171 := by kernel_rfl
  i173 := by kernel_rfl
  i212 := by kernel_rfl
  i232 := by kernel_rfl
  i233 := by kernel_rfl
  m17 := by kernel_rfl
  m18 := by kernel_rfl
  m19 := by kernel_rfl
end Go.Proofs
namespace Go.Px
open Go

/-- What lies below stays: a call with pure values in and out. -/
theorem AF_of_below {Tb : Tab} {E : Env Tb} {f : FuncId} {args : List PV} {r : PV}
    (h : ∀ (w : World) (F : Foot) (vs : List Value), E.GI w → RepL w F args vs → Calls E.P f vs.toArray w fun e w' => ∃ V, e = .returned V ∧ (∀ (w2 : World) (F2 : Foot), RepP w2 F2 r V) ∧ RowKit.Below w.heap.size w w') : AF E f args r := by
  intro w F β vs hg hs hr
  refine (h w F vs hg (ReL_nil _ _ hr)).mono ?_
  rintro e w' ⟨V, rfl, hV, hb⟩
  have hkeep : Keeps w F w' F := fun b i hf => ⟨hf, cell?_of_heap (hb.block b (hs.fin b i hf))⟩
  refine ⟨V, r, F, β, [], rfl, ⟨rfl, rfl⟩, RepP.toRep _ _ _ _ (hV _ _), ⟨fun id b hb => (by simp [getB] at hb), fun i j bi bj hi => (by simp [getB] at hi), fun b i hf => Nat.lt_of_lt_of_le (hs.fin b i hf) hb.size, fun id b hb => (by simp [getB] at hb), hs.glo⟩, ?_⟩
  exact ⟨hb.size, fun b hlt _ => hb.block b hlt, hb.tape, hb.os, hb.output, hkeep, fun _ _ hf => .inl hf, fun _ ho => .inl ho, fun id cs fz hi => absurd hi (Nat.not_lt_zero _), fun id e k pr xs fz hi => absurd hi (Nat.not_lt_zero _)⟩

theorem RepL_str1 {w : World} {F : Foot} {s : List UInt8} {vs : List Value} (h : RepL w F [.str s] vs) : vs = [.string ⟨⟨s⟩⟩] := by
  simp only [RepL, RepP] at h
  obtain ⟨v, vs', rfl, rfl, rfl⟩ := h
  rfl
theorem RepL_str2 {w : World} {F : Foot} {s t : List UInt8} {vs : List Value} (h : RepL w F [.str s, .str t] vs) : vs = [.string ⟨⟨s⟩⟩, .string ⟨⟨t⟩⟩] := by
  simp only [RepL, RepP] at h
  obtain ⟨v, vs', rfl, rfl, v2, vs2, rfl, rfl, rfl⟩ := h
  rfl
theorem RepL_int1 {w : World} {F : Foot} {k : IntKind} {n : Int} {vs : List Value} (h : RepL w F [.int k n] vs) : vs = [.int k n] := by
  simp only [RepL, RepP] at h
  obtain ⟨v, vs', rfl, rfl, rfl⟩ := h
  rfl

namespace Db
open Go.Proofs
section
variable {m : Int} {E : Env (tab m)}

theorem glob_cell (g : Nat) (cs : List PV) (hgl : glT m g = some cs) {w : World} (hg : E.GI w) (i : Nat) (c : PV) (hi : cs[i]? = some c) : ∃ U, w.cell? ⟨g, i, none⟩ = some U ∧ RepP w (fun b _ => b < E.G) c U := by
  have := E.globok hg (g := g) (cs := cs) hgl
  obtain ⟨_, U, h1, _, h2⟩ := (RepCs_iff _ _ _).1 this i c hi
  rw [Nat.zero_add] at h1
  exact ⟨U, h1, h2⟩

/-- The table of the powers of ten lies. -/
def PowOk (E : Env (tab m)) : Prop := ∀ w, E.GI w → ∃ e q, w.heap[3]? = some (.cells ((List.range 20).map fun i => Value.int .u64 ((10 ^ i : Nat) : Int)).toArray e q)
theorem env_pow : PowOk (env m) := fun w hg => hg.2.2

/-- stringslite.Index. -/
theorem index_AF (s t : List UInt8) (hP : E.P = Tryz.prog) (hs : s.length < 4294967281) : AF E 199 [.str s, .str t] (.int .i64 (Lib.index s t)) := AF_of_below fun w F vs hg hr => by
  obtain rfl := RepL_str2 hr
  obtain ⟨U, h1, h2⟩ := glob_cell 2 _ rfl hg 0 _ rfl
  simp only [RepP] at h2
  subst h2
  rw [hP]
  refine (Any.stringslite_Index Tryz.lIdx ⟨⟨s⟩⟩ ⟨⟨t⟩⟩ m w hs h1).mono ?_
  rintro e w' ⟨rfl, rfl⟩
  exact ⟨_, rfl, fun _ _ => by simp only [RepP], RowKit.Below.refl _ _⟩

/-- strconv.Atoi, where it reads a number. -/
theorem atoi_AF (s : List UInt8) (v : Int) (hP : E.P = Tryz.prog) (hs : s.length ≤ 9223372036854775806) (h : Lib.atoiAll s = .ok v) : AF E 157 [.str s] (.tup [.int .i64 v, .nili]) := AF_of_below fun w F vs hg hr => by
  obtain rfl := RepL_str1 hr
  rw [hP]
  refine (Any.strconv_Atoi_ok Tryz.lAtoi ⟨⟨s⟩⟩ hs v h w).mono ?_
  rintro e w' ⟨rfl, hw⟩
  refine ⟨_, rfl, fun _ _ => by simp [RepP, RepL], ?_⟩
  rcases hw with rfl | ⟨t, rfl⟩
  · exact RowKit.Below.refl _ _
  · exact Joins.below_bytesWorld _ _ _ _ (Nat.le_refl _)

/-- strconv.Itoa. -/
theorem itoa_AF (n : Int) (h0 : -9223372036854775808 ≤ n) (h1 : n ≤ 9223372036854775807) (hP : E.P = Tryz.prog) (hT : PowOk E) : AF E 112 [.int .i64 n] (.str (Lib.itoa n)) := AF_of_below fun w F vs hg hr => by
  obtain rfl := RepL_int1 hr
  rw [hP]
  refine (Any.strconv_Itoa Tryz.lItoa n h0 h1 w ?_).mono ?_
  · obtain ⟨e, q, he⟩ := hT w hg
    have hgn : Tryz.prog.globalNamed "internal/strconv.uint64pow10" = some 3 := by kernel_rfl
    simp only [Lib.TabIs, World.var?, hgn, Option.bind_some, he, Lib.pow10Tab, List.map_map]
    rfl
  · rintro e w' ⟨rfl, k, os, rfl⟩
    exact ⟨_, rfl, fun _ _ => by simp only [RepP], Lib.below_grow _ _ (Nat.le_refl _) _ _⟩
end
end Db
end Go.Px
