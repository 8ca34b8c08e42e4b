/- Shows a part of the walk of the law; its conditions stand ahead of each theorem. -/
import Derived.Test.YtecojilckmiobaaGreatDoorPxSpec
import Derived.Test.YtecojilckmiobaaGreatDoorPxDb
set_option linter.unusedVariables false
set_option maxRecDepth 100000
set_option maxHeartbeats 4000000
namespace Go.Px.Db
open Go Go.Px Go.Proofs
noncomputable section
/-- A database, cell by cell. -/
def dbC (a b : Int) (n0 s0 n1 s1 n2 s2 n3 s3 n4 s4 n5 s5 n6 s6 cl de ex lo up ti fo ca ig st co me cf : List PV) : List PV := [.int .i64 a, .int .i64 b, .sl n0, .sl s0, .sl n1, .sl s1, .sl n2, .sl s2, .sl n3, .sl s3, .sl n4, .sl s4, .sl n5, .sl s5, .sl n6, .sl s6, .sl cl, .sl de, .sl ex, .sl lo, .sl up, .sl ti, .sl fo, .sl ca, .sl ig, .sl st, .sl co, .sl me, .sl cf]
def nAt (i : Int) (n0 n1 n2 n3 n4 n5 n6 : List PV) : List PV := if i = 0 then n0 else if i = 1 then n1 else if i = 2 then n2 else if i = 3 then n3 else if i = 4 then n4 else if i = 5 then n5 else if i = 6 then n6 else []
def sAt (i : Int) (s0 s1 s2 s3 s4 s5 s6 : List PV) : List PV := if i = 0 then s0 else if i = 1 then s1 else if i = 2 then s2 else if i = 3 then s3 else if i = 4 then s4 else if i = 5 then s5 else if i = 6 then s6 else []
def tAt (i : Int) (ex ca ig st co me : List PV) : List PV := if i = 0 then ex else if i = 1 then ca else if i = 2 then ig else if i = 3 then st else if i = 4 then co else if i = 5 then me else []
end
end Go.Px.Db
