/- CALLS THAT THE LAW SolveKnown MAKES, each with what it comes to: run by the kernel over E2, part 2. Made by program. No condition. -/
import Derived.Test.YtdmbihkiimpmhaaGreatDoorSolveKnownT
import Derived.Test.YtdmbihkiimpmhaaGreatDoorSolveKnownF1
namespace Go.Proofs.YtdmbihkiimpmhaaGreatDoor.solveKnown
open Go
set_option maxRecDepth 100000
def fact7 : E2.Fact := {
  f := 125, args := [.agg [.int .i64 2, .int .i64 2, .int .i64 3, .int .i64 2], .int .i64 3, .slice 3 0 0 3 12 none, .slice 4 0 0 1 1 none],
  pre := [(3, .row [.int .i64 0, .int .i64 3, .bool false, .bool false, .bool false, .int .i64 0, .int .i64 6, .int .i64 1, .int .i64 0, .int .i64 1, .int .i64 0, .int .i64 1, .int .i64 1, .int .i64 4, .bool false, .bool false, .bool false, .int .i64 0, .int .i64 2, .int .i64 1, .int .i64 0, .int .i64 1, .int .i64 0, .int .i64 1, .int .i64 2, .int .i64 3, .bool false, .bool false, .bool false, .int .i64 0, .int .i64 6, .int .i64 1, .int .i64 0, .int .i64 1, .int .i64 0, .int .i64 1] 116 0 0 0 false),
    (4, .row [.int .i64 0] 3 0 0 0 false)],
  next := 5, ro := 5, glob := 3, ret := .tuple [.slice 458 1 0 2 1 none, .int .i64 0],
  post := [(458, .row [.int .i64 1, .int .i64 2] 3 1 0 0 false)], next' := 463 }
theorem run7 : E2.Fact.ok2 fact7 (E2.envOf Tryz.prog (E2.specR [fact4, fact6])) 1000 = true := by kernel_rfl
theorem good7 : E2.SpecOk Tryz.prog fact7.f fact7.tryR := E2.goodR_fact Tryz.checked.mixed tables (E2.goodR_cons good4 (E2.goodR_cons good6 E2.goodR_nil)) (by kernel_rfl) run7
def fact8 : E2.Fact := {
  f := 128, args := [.ptr 3 0 0 5, .slice 4 2 0 3 7 none, .slice 5 1 0 2 1 none],
  pre := [(3, .row [.slice 6 0 0 3 12 none, .int .i64 3, .int .i64 2, .int .i64 1, .map 7] 227 0 0 0 true),
    (4, .row [.int .i64 0, .int .i64 0, .int .i64 (-1), .int .i64 0, .bool false, .int .i64 0, .int .i64 1, .int .i64 1, .int .i64 2, .int .i64 0, .int .i64 2, .bool false, .int .i64 1, .int .i64 1, .int .i64 3, .int .i64 3, .int .i64 2, .int .i64 (-1), .bool true, .int .i64 0, .int .i64 1] 215 2 2 0 false),
    (5, .row [.int .i64 0, .int .i64 1] 3 1 0 0 false),
    (6, .row [.int .i64 0, .int .i64 3, .bool false, .bool false, .bool false, .int .i64 0, .int .i64 6, .int .i64 1, .int .i64 0, .int .i64 1, .int .i64 0, .int .i64 1, .int .i64 1, .int .i64 4, .bool false, .bool false, .bool false, .int .i64 0, .int .i64 2, .int .i64 1, .int .i64 0, .int .i64 1, .int .i64 0, .int .i64 1, .int .i64 2, .int .i64 3, .bool false, .bool false, .bool false, .int .i64 0, .int .i64 6, .int .i64 1, .int .i64 0, .int .i64 1, .int .i64 0, .int .i64 1] 116 0 0 0 false),
    (7, .map [] 0)],
  next := 8, ro := 3, glob := 3, ret := .bool true,
  post := [(3, .row [.slice 6 0 0 3 12 none, .int .i64 3, .int .i64 2, .int .i64 1, .map 7] 227 0 0 0 true),
    (4, .row [.int .i64 0, .int .i64 0, .int .i64 (-1), .int .i64 0, .bool false, .int .i64 0, .int .i64 1, .int .i64 1, .int .i64 2, .int .i64 0, .int .i64 2, .bool false, .int .i64 1, .int .i64 1, .int .i64 3, .int .i64 3, .int .i64 2, .int .i64 (-1), .bool true, .int .i64 0, .int .i64 1] 215 2 2 0 false),
    (5, .row [.int .i64 0, .int .i64 1] 3 1 0 0 false),
    (6, .row [.int .i64 0, .int .i64 3, .bool false, .bool false, .bool false, .int .i64 0, .int .i64 4, .int .i64 1, .int .i64 0, .int .i64 1, .int .i64 2, .int .i64 1, .int .i64 1, .int .i64 4, .bool false, .bool false, .bool false, .int .i64 0, .int .i64 2, .int .i64 1, .int .i64 0, .int .i64 1, .int .i64 0, .int .i64 1, .int .i64 2, .int .i64 3, .bool false, .bool false, .bool false, .int .i64 0, .int .i64 6, .int .i64 1, .int .i64 0, .int .i64 1, .int .i64 0, .int .i64 1] 116 0 0 0 false),
    (7, .map [] 0)], next' := 238 }
theorem run8 : E2.Fact.ok2 fact8 (E2.envOf Tryz.prog (E2.specR [fact6])) 1000 = true := by kernel_rfl
theorem good8 : E2.SpecOk Tryz.prog fact8.f fact8.tryR := E2.goodR_fact Tryz.checked.mixed tables (E2.goodR_cons good6 E2.goodR_nil) (by kernel_rfl) run8
def fact9 : E2.Fact := {
  f := 125, args := [.agg [.int .i64 2, .int .i64 2, .int .i64 3, .int .i64 2], .int .i64 3, .slice 3 0 0 3 12 none, .slice 4 1 0 2 1 none],
  pre := [(3, .row [.int .i64 0, .int .i64 3, .bool false, .bool false, .bool false, .int .i64 0, .int .i64 6, .int .i64 1, .int .i64 0, .int .i64 1, .int .i64 0, .int .i64 1, .int .i64 1, .int .i64 4, .bool false, .bool false, .bool false, .int .i64 0, .int .i64 2, .int .i64 1, .int .i64 0, .int .i64 1, .int .i64 0, .int .i64 1, .int .i64 2, .int .i64 3, .bool false, .bool false, .bool false, .int .i64 0, .int .i64 6, .int .i64 1, .int .i64 0, .int .i64 1, .int .i64 0, .int .i64 1] 116 0 0 0 false),
    (4, .row [.int .i64 0, .int .i64 1] 3 1 0 0 false)],
  next := 5, ro := 5, glob := 3, ret := .tuple [.slice 514 0 0 1 1 none, .int .i64 0],
  post := [(514, .row [.int .i64 0] 3 0 0 0 false)], next' := 519 }
theorem run9 : E2.Fact.ok2 fact9 (E2.envOf Tryz.prog (E2.specR [fact4, fact8])) 1000 = true := by kernel_rfl
theorem good9 : E2.SpecOk Tryz.prog fact9.f fact9.tryR := E2.goodR_fact Tryz.checked.mixed tables (E2.goodR_cons good4 (E2.goodR_cons good8 E2.goodR_nil)) (by kernel_rfl) run9
def fact10 : E2.Fact := {
  f := 128, args := [.ptr 3 0 0 5, .slice 4 2 0 3 7 none, .slice 5 2 0 3 1 none],
  pre := [(3, .row [.slice 6 0 0 3 12 none, .int .i64 3, .int .i64 2, .int .i64 1, .map 7] 227 0 0 0 true),
    (4, .row [.int .i64 0, .int .i64 0, .int .i64 (-1), .int .i64 0, .bool false, .int .i64 0, .int .i64 1, .int .i64 1, .int .i64 2, .int .i64 0, .int .i64 2, .bool false, .int .i64 1, .int .i64 1, .int .i64 3, .int .i64 3, .int .i64 2, .int .i64 (-1), .bool true, .int .i64 0, .int .i64 1] 215 2 2 0 false),
    (5, .row [.int .i64 0, .int .i64 1, .int .i64 0] 3 2 0 0 false),
    (6, .row [.int .i64 0, .int .i64 3, .bool false, .bool false, .bool false, .int .i64 0, .int .i64 6, .int .i64 1, .int .i64 0, .int .i64 1, .int .i64 0, .int .i64 1, .int .i64 1, .int .i64 4, .bool false, .bool false, .bool false, .int .i64 0, .int .i64 2, .int .i64 1, .int .i64 0, .int .i64 1, .int .i64 0, .int .i64 1, .int .i64 2, .int .i64 3, .bool false, .bool false, .bool false, .int .i64 0, .int .i64 6, .int .i64 1, .int .i64 0, .int .i64 1, .int .i64 0, .int .i64 1] 116 0 0 0 false),
    (7, .map [] 0)],
  next := 8, ro := 3, glob := 3, ret := .bool true,
  post := [(3, .row [.slice 6 0 0 3 12 none, .int .i64 3, .int .i64 2, .int .i64 1, .map 7] 227 0 0 0 true),
    (4, .row [.int .i64 0, .int .i64 0, .int .i64 (-1), .int .i64 0, .bool false, .int .i64 0, .int .i64 1, .int .i64 1, .int .i64 2, .int .i64 0, .int .i64 2, .bool false, .int .i64 1, .int .i64 1, .int .i64 3, .int .i64 3, .int .i64 2, .int .i64 (-1), .bool true, .int .i64 0, .int .i64 1] 215 2 2 0 false),
    (5, .row [.int .i64 0, .int .i64 1, .int .i64 0] 3 2 0 0 false),
    (6, .row [.int .i64 0, .int .i64 3, .bool false, .bool false, .bool false, .int .i64 0, .int .i64 4, .int .i64 1, .int .i64 0, .int .i64 1, .int .i64 2, .int .i64 1, .int .i64 1, .int .i64 4, .bool false, .bool false, .bool false, .int .i64 0, .int .i64 2, .int .i64 1, .int .i64 0, .int .i64 1, .int .i64 0, .int .i64 1, .int .i64 2, .int .i64 3, .bool false, .bool false, .bool false, .int .i64 0, .int .i64 6, .int .i64 1, .int .i64 0, .int .i64 1, .int .i64 0, .int .i64 1] 116 0 0 0 false),
    (7, .map [] 0)], next' := 274 }
theorem run10 : E2.Fact.ok2 fact10 (E2.envOf Tryz.prog (E2.specR [fact6])) 1000 = true := by kernel_rfl
theorem good10 : E2.SpecOk Tryz.prog fact10.f fact10.tryR := E2.goodR_fact Tryz.checked.mixed tables (E2.goodR_cons good6 E2.goodR_nil) (by kernel_rfl) run10
def fact11 : E2.Fact := {
  f := 77, args := [.ptr 3 0 0 7],
  pre := [(3, .row [.int .i64 2, .int .i64 2, .int .i64 3, .int .i64 2, .slice 4 0 0 1 1 none, .slice 5 0 0 3 12 none, .nils] 158 0 0 0 true),
    (4, .row [.int .i64 3] 3 0 0 0 false),
    (5, .row [.int .i64 0, .int .i64 3, .bool false, .bool false, .bool false, .int .i64 0, .int .i64 6, .int .i64 1, .int .i64 0, .int .i64 1, .int .i64 0, .int .i64 1, .int .i64 1, .int .i64 4, .bool false, .bool false, .bool false, .int .i64 0, .int .i64 2, .int .i64 1, .int .i64 0, .int .i64 1, .int .i64 0, .int .i64 1, .int .i64 2, .int .i64 3, .bool false, .bool false, .bool false, .int .i64 0, .int .i64 6, .int .i64 1, .int .i64 0, .int .i64 1, .int .i64 0, .int .i64 1] 116 0 0 0 false)],
  next := 6, ro := 3, glob := 3, ret := .func (.func 77) [] [],
  post := [(3, .row [.int .i64 2, .int .i64 2, .int .i64 3, .int .i64 2, .slice 4 0 1 0 1 none, .slice 1762 0 0 3 12 none, .slice 2031 0 0 3 1 none] 158 0 0 0 true),
    (4, .row [.int .i64 3] 3 0 0 0 false),
    (5, .row [.int .i64 0, .int .i64 3, .bool false, .bool false, .bool false, .int .i64 0, .int .i64 6, .int .i64 1, .int .i64 0, .int .i64 1, .int .i64 0, .int .i64 1, .int .i64 1, .int .i64 4, .bool false, .bool false, .bool false, .int .i64 0, .int .i64 2, .int .i64 1, .int .i64 0, .int .i64 1, .int .i64 0, .int .i64 1, .int .i64 2, .int .i64 3, .bool false, .bool false, .bool false, .int .i64 0, .int .i64 6, .int .i64 1, .int .i64 0, .int .i64 1, .int .i64 0, .int .i64 1] 116 0 0 0 false),
    (1762, .row [.int .i64 0, .int .i64 3, .bool false, .bool false, .bool false, .int .i64 0, .int .i64 4, .int .i64 1, .int .i64 0, .int .i64 1, .int .i64 2, .int .i64 1, .int .i64 1, .int .i64 4, .bool false, .bool false, .bool false, .int .i64 0, .int .i64 2, .int .i64 1, .int .i64 0, .int .i64 1, .int .i64 0, .int .i64 1, .int .i64 2, .int .i64 3, .bool false, .bool false, .bool false, .int .i64 0, .int .i64 6, .int .i64 1, .int .i64 0, .int .i64 1, .int .i64 0, .int .i64 1] 116 0 0 0 false),
    (2031, .row [.int .i64 0, .int .i64 1, .int .i64 0] 3 0 0 0 false)], next' := 2032 }
theorem run11 : E2.Fact.ok2 fact11 (E2.envOf Tryz.prog (E2.specR [fact4, fact5, fact7, fact9, fact10])) 1000 = true := by kernel_rfl
theorem good11 : E2.SpecOk Tryz.prog fact11.f fact11.tryR := E2.goodR_fact Tryz.checked.mixed tables (E2.goodR_cons good4 (E2.goodR_cons good5 (E2.goodR_cons good7 (E2.goodR_cons good9 (E2.goodR_cons good10 E2.goodR_nil))))) (by kernel_rfl) run11
def fact12 : E2.Fact := {
  f := 53, args := [.agg [.int .i64 2, .int .i64 2, .int .i64 3, .int .i64 2], .slice 3 2 0 3 12 none],
  pre := [(3, .row [.int .i64 0, .int .i64 3, .bool false, .bool false, .bool false, .int .i64 0, .int .i64 6, .int .i64 1, .int .i64 0, .int .i64 1, .int .i64 0, .int .i64 1, .int .i64 1, .int .i64 4, .bool false, .bool false, .bool false, .int .i64 0, .int .i64 2, .int .i64 1, .int .i64 0, .int .i64 1, .int .i64 0, .int .i64 1, .int .i64 2, .int .i64 3, .bool false, .bool false, .bool false, .int .i64 0, .int .i64 6, .int .i64 1, .int .i64 0, .int .i64 1, .int .i64 0, .int .i64 1] 116 2 0 0 false)],
  next := 4, ro := 4, glob := 3, ret := .tuple [.slice 2076 0 0 3 1 none, .slice 1807 0 0 3 12 none, .int .i64 0],
  post := [(1807, .row [.int .i64 0, .int .i64 3, .bool false, .bool false, .bool false, .int .i64 0, .int .i64 4, .int .i64 1, .int .i64 0, .int .i64 1, .int .i64 2, .int .i64 1, .int .i64 1, .int .i64 4, .bool false, .bool false, .bool false, .int .i64 0, .int .i64 2, .int .i64 1, .int .i64 0, .int .i64 1, .int .i64 0, .int .i64 1, .int .i64 2, .int .i64 3, .bool false, .bool false, .bool false, .int .i64 0, .int .i64 6, .int .i64 1, .int .i64 0, .int .i64 1, .int .i64 0, .int .i64 1] 116 0 0 0 false),
    (2076, .row [.int .i64 0, .int .i64 1, .int .i64 0] 3 0 0 0 false)], next' := 2077 }
theorem run12 : E2.Fact.ok2 fact12 (E2.envOf Tryz.prog (E2.specR [fact11])) 1000 = true := by kernel_rfl
theorem good12 : E2.SpecOk Tryz.prog fact12.f fact12.tryR := E2.goodR_fact Tryz.checked.mixed tables (E2.goodR_cons good11 E2.goodR_nil) (by kernel_rfl) run12
def fact13 : E2.Fact := {
  f := 29, args := [.agg [.int .i64 2, .int .i64 2, .int .i64 3, .int .i64 2], .slice 3 2 0 3 17 none],
  pre := [(3, .row [.int .i64 1, .int .i64 3, .int .i64 4, .int .i64 0, .bool false, .int .i64 0, .bool false, .bool false, .int .i64 0, .int .i64 0, .int .i64 0, .int .i64 0, .bool false, .int .i64 0, .int .i64 0, .int .i64 0, .int .i64 0, .int .i64 1, .int .i64 4, .int .i64 4, .int .i64 0, .bool false, .int .i64 0, .bool false, .bool false, .int .i64 0, .int .i64 0, .int .i64 0, .int .i64 0, .bool false, .int .i64 0, .int .i64 0, .int .i64 0, .int .i64 0, .int .i64 1, .int .i64 3, .int .i64 4, .int .i64 0, .bool false, .int .i64 0, .bool false, .bool false, .int .i64 0, .int .i64 0, .int .i64 0, .int .i64 0, .bool false, .int .i64 0, .int .i64 0, .int .i64 0, .int .i64 0] 32 2 0 0 false)],
  next := 4, ro := 4, glob := 3, ret := .tuple [.agg [.nils, .nils, .slice 2230 0 0 3 1 none, .slice 2234 2 0 3 2 none], .int .i64 0],
  post := [(2230, .row [.int .i64 0, .int .i64 1, .int .i64 0] 3 0 0 0 false),
    (2234, .row [.int .i64 4, .int .i64 1, .int .i64 2, .int .i64 1, .int .i64 6, .int .i64 1] 54 2 0 0 false)], next' := 2239 }
theorem run13 : E2.Fact.ok2 fact13 (E2.envOf Tryz.prog (E2.specR [fact2, fact12])) 1000 = true := by kernel_rfl
theorem good13 : E2.SpecOk Tryz.prog fact13.f fact13.tryR := E2.goodR_fact Tryz.checked.mixed tables (E2.goodR_cons good2 (E2.goodR_cons good12 E2.goodR_nil)) (by kernel_rfl) run13
def fact14 : E2.Fact := {
  f := 72, args := [.agg [.int .i64 2, .int .i64 2, .int .i64 2, .int .i64 2], .slice 3 2 0 3 17 none, .nils],
  pre := [(3, .row [.int .i64 1, .int .i64 3, .int .i64 4, .int .i64 0, .bool false, .int .i64 0, .bool false, .bool false, .int .i64 0, .int .i64 0, .int .i64 0, .int .i64 0, .bool false, .int .i64 0, .int .i64 0, .int .i64 0, .int .i64 0, .int .i64 1, .int .i64 4, .int .i64 4, .int .i64 0, .bool false, .int .i64 0, .bool false, .bool false, .int .i64 0, .int .i64 0, .int .i64 0, .int .i64 0, .bool false, .int .i64 0, .int .i64 0, .int .i64 0, .int .i64 0, .int .i64 1, .int .i64 4, .int .i64 4, .int .i64 0, .bool false, .int .i64 0, .bool false, .bool false, .int .i64 0, .int .i64 0, .int .i64 0, .int .i64 0, .bool false, .int .i64 0, .int .i64 0, .int .i64 0, .int .i64 0] 32 2 0 0 false)],
  next := 4, ro := 4, glob := 3, ret := .tuple [.slice 39 2 0 3 2 none, .int .i64 0],
  post := [(39, .row [.int .i64 4, .int .i64 1, .int .i64 2, .int .i64 1, .int .i64 2, .int .i64 1] 54 2 0 0 false)], next' := 70 }
theorem run14 : E2.Fact.ok2 fact14 (E2.envOf Tryz.prog (E2.specR [])) 1000 = true := by kernel_rfl
theorem good14 : E2.SpecOk Tryz.prog fact14.f fact14.tryR := E2.goodR_fact Tryz.checked.mixed tables E2.goodR_nil (by kernel_rfl) run14
def fact15 : E2.Fact := {
  f := 53, args := [.agg [.int .i64 2, .int .i64 2, .int .i64 2, .int .i64 2], .slice 3 2 0 3 12 none],
  pre := [(3, .row [.int .i64 0, .int .i64 3, .bool false, .bool false, .bool false, .int .i64 0, .int .i64 4, .int .i64 1, .int .i64 0, .int .i64 1, .int .i64 0, .int .i64 1, .int .i64 1, .int .i64 4, .bool false, .bool false, .bool false, .int .i64 0, .int .i64 2, .int .i64 1, .int .i64 0, .int .i64 1, .int .i64 0, .int .i64 1, .int .i64 2, .int .i64 4, .bool false, .bool false, .bool false, .int .i64 0, .int .i64 2, .int .i64 1, .int .i64 0, .int .i64 1, .int .i64 0, .int .i64 1] 116 2 0 0 false)],
  next := 4, ro := 4, glob := 3, ret := .tuple [.nils, .slice 47 0 0 3 12 none, .int .i64 0],
  post := [(47, .row [.int .i64 0, .int .i64 3, .bool false, .bool false, .bool false, .int .i64 0, .int .i64 4, .int .i64 1, .int .i64 0, .int .i64 1, .int .i64 0, .int .i64 1, .int .i64 1, .int .i64 4, .bool false, .bool false, .bool false, .int .i64 0, .int .i64 2, .int .i64 1, .int .i64 0, .int .i64 1, .int .i64 0, .int .i64 1, .int .i64 2, .int .i64 4, .bool false, .bool false, .bool false, .int .i64 0, .int .i64 2, .int .i64 1, .int .i64 0, .int .i64 1, .int .i64 0, .int .i64 1] 116 0 0 0 false)], next' := 49 }
theorem run15 : E2.Fact.ok2 fact15 (E2.envOf Tryz.prog (E2.specR [])) 1000 = true := by kernel_rfl
theorem good15 : E2.SpecOk Tryz.prog fact15.f fact15.tryR := E2.goodR_fact Tryz.checked.mixed tables E2.goodR_nil (by kernel_rfl) run15
def fact16 : E2.Fact := {
  f := 29, args := [.agg [.int .i64 2, .int .i64 2, .int .i64 2, .int .i64 2], .slice 3 2 0 3 17 none],
  pre := [(3, .row [.int .i64 1, .int .i64 3, .int .i64 4, .int .i64 0, .bool false, .int .i64 0, .bool false, .bool false, .int .i64 0, .int .i64 0, .int .i64 0, .int .i64 0, .bool false, .int .i64 0, .int .i64 0, .int .i64 0, .int .i64 0, .int .i64 1, .int .i64 4, .int .i64 4, .int .i64 0, .bool false, .int .i64 0, .bool false, .bool false, .int .i64 0, .int .i64 0, .int .i64 0, .int .i64 0, .bool false, .int .i64 0, .int .i64 0, .int .i64 0, .int .i64 0, .int .i64 1, .int .i64 4, .int .i64 4, .int .i64 0, .bool false, .int .i64 0, .bool false, .bool false, .int .i64 0, .int .i64 0, .int .i64 0, .int .i64 0, .bool false, .int .i64 0, .int .i64 0, .int .i64 0, .int .i64 0] 32 2 0 0 false)],
  next := 4, ro := 4, glob := 3, ret := .tuple [.agg [.nils, .nils, .nils, .slice 203 2 0 3 2 none], .int .i64 0],
  post := [(203, .row [.int .i64 4, .int .i64 1, .int .i64 2, .int .i64 1, .int .i64 2, .int .i64 1] 54 2 0 0 false)], next' := 208 }
theorem run16 : E2.Fact.ok2 fact16 (E2.envOf Tryz.prog (E2.specR [fact14, fact15])) 1000 = true := by kernel_rfl
theorem good16 : E2.SpecOk Tryz.prog fact16.f fact16.tryR := E2.goodR_fact Tryz.checked.mixed tables (E2.goodR_cons good14 (E2.goodR_cons good15 E2.goodR_nil)) (by kernel_rfl) run16
end Go.Proofs.YtdmbihkiimpmhaaGreatDoor.solveKnown
