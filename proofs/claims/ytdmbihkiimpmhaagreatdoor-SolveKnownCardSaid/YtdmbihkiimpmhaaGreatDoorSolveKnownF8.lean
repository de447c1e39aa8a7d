/- CALLS THAT THE LAW SolveKnown MAKES, each with what it comes to: run by the kernel over E2, part 8. Made by program. No condition. -/
import Derived.Test.YtdmbihkiimpmhaaGreatDoorSolveKnownT
import Derived.Test.YtdmbihkiimpmhaaGreatDoorSolveKnownF7
namespace Go.Proofs.YtdmbihkiimpmhaaGreatDoor.solveKnown
open Go
set_option maxRecDepth 100000
def fact59 : E2.Fact := {
  f := 125, args := [.agg [.int .i64 2, .int .i64 2, .int .i64 3, .int .i64 2], .int .i64 3, .slice 3 0 0 4 12 none, .nils],
  pre := [(3, .row [.int .i64 0, .int .i64 3, .bool false, .bool false, .bool false, .int .i64 0, .int .i64 6, .int .i64 1, .int .i64 0, .int .i64 1, .int .i64 0, .int .i64 1, .int .i64 1, .int .i64 4, .bool false, .bool false, .bool false, .int .i64 0, .int .i64 2, .int .i64 1, .int .i64 0, .int .i64 1, .int .i64 0, .int .i64 1, .int .i64 2, .int .i64 4, .bool false, .bool false, .bool false, .int .i64 0, .int .i64 2, .int .i64 1, .int .i64 0, .int .i64 1, .int .i64 0, .int .i64 1, .int .i64 3, .int .i64 3, .bool false, .bool false, .bool false, .int .i64 0, .int .i64 6, .int .i64 1, .int .i64 0, .int .i64 1, .int .i64 0, .int .i64 1] 116 0 0 0 false)],
  next := 4, ro := 4, glob := 3, ret := .tuple [.slice 310 0 0 1 1 none, .int .i64 0],
  post := [(310, .row [.int .i64 0] 3 0 0 0 false)], next' := 315 }
theorem run59 : E2.Fact.ok2 fact59 (E2.envOf Tryz.prog (E2.specR [fact58])) 1000 = true := by kernel_rfl
theorem good59 : E2.SpecOk Tryz.prog fact59.f fact59.tryR := E2.goodR_fact Tryz.checked.mixed tables (E2.goodR_cons good58 E2.goodR_nil) (by kernel_rfl) run59
def fact60 : E2.Fact := {
  f := 170, args := [.ptr 3 0 0 5, .agg [.int .i64 1, .int .i64 3, .int .i64 0, .int .i64 3, .bool false, .int .i64 2, .int .i64 1]],
  pre := [(3, .row [.slice 4 0 0 4 12 none, .int .i64 3, .int .i64 2, .int .i64 1, .map 5] 227 0 0 0 true),
    (4, .row [.int .i64 0, .int .i64 3, .bool false, .bool false, .bool false, .int .i64 0, .int .i64 6, .int .i64 1, .int .i64 0, .int .i64 1, .int .i64 0, .int .i64 1, .int .i64 1, .int .i64 4, .bool false, .bool false, .bool false, .int .i64 0, .int .i64 2, .int .i64 1, .int .i64 0, .int .i64 1, .int .i64 0, .int .i64 1, .int .i64 2, .int .i64 4, .bool false, .bool false, .bool false, .int .i64 0, .int .i64 2, .int .i64 1, .int .i64 0, .int .i64 1, .int .i64 0, .int .i64 1, .int .i64 3, .int .i64 3, .bool false, .bool false, .bool false, .int .i64 0, .int .i64 6, .int .i64 1, .int .i64 0, .int .i64 1, .int .i64 0, .int .i64 1] 116 0 0 0 false),
    (5, .map [] 0)],
  next := 6, ro := 6, glob := 3, ret := .bool true,
  post := [], next' := 56 }
theorem run60 : E2.Fact.ok2 fact60 (E2.envOf Tryz.prog (E2.specR [])) 1000 = true := by kernel_rfl
theorem good60 : E2.SpecOk Tryz.prog fact60.f fact60.tryR := E2.goodR_fact Tryz.checked.mixed tables E2.goodR_nil (by kernel_rfl) run60
def fact61 : E2.Fact := {
  f := 171, args := [.ptr 3 0 0 5, .agg [.int .i64 1, .int .i64 3, .int .i64 0, .int .i64 3, .bool false, .int .i64 2, .int .i64 1]],
  pre := [(3, .row [.slice 4 0 0 4 12 none, .int .i64 3, .int .i64 2, .int .i64 1, .map 5] 227 0 0 0 true),
    (4, .row [.int .i64 0, .int .i64 3, .bool false, .bool false, .bool false, .int .i64 0, .int .i64 6, .int .i64 1, .int .i64 0, .int .i64 1, .int .i64 0, .int .i64 1, .int .i64 1, .int .i64 4, .bool false, .bool false, .bool false, .int .i64 0, .int .i64 2, .int .i64 1, .int .i64 0, .int .i64 1, .int .i64 0, .int .i64 1, .int .i64 2, .int .i64 4, .bool false, .bool false, .bool false, .int .i64 0, .int .i64 2, .int .i64 1, .int .i64 0, .int .i64 1, .int .i64 0, .int .i64 1, .int .i64 3, .int .i64 3, .bool false, .bool false, .bool false, .int .i64 0, .int .i64 6, .int .i64 1, .int .i64 0, .int .i64 1, .int .i64 0, .int .i64 1] 116 0 0 0 false),
    (5, .map [] 0)],
  next := 6, ro := 6, glob := 3, ret := .bool true,
  post := [], next' := 72 }
theorem run61 : E2.Fact.ok2 fact61 (E2.envOf Tryz.prog (E2.specR [])) 1000 = true := by kernel_rfl
theorem good61 : E2.SpecOk Tryz.prog fact61.f fact61.tryR := E2.goodR_fact Tryz.checked.mixed tables E2.goodR_nil (by kernel_rfl) run61
def fact62 : E2.Fact := {
  f := 125, args := [.agg [.int .i64 2, .int .i64 2, .int .i64 3, .int .i64 2], .int .i64 3, .slice 3 0 0 4 12 none, .slice 4 0 0 1 1 none],
  pre := [(3, .row [.int .i64 0, .int .i64 3, .bool false, .bool false, .bool false, .int .i64 0, .int .i64 6, .int .i64 1, .int .i64 0, .int .i64 1, .int .i64 0, .int .i64 1, .int .i64 1, .int .i64 4, .bool false, .bool false, .bool false, .int .i64 0, .int .i64 2, .int .i64 1, .int .i64 0, .int .i64 1, .int .i64 0, .int .i64 1, .int .i64 2, .int .i64 4, .bool false, .bool false, .bool false, .int .i64 0, .int .i64 2, .int .i64 1, .int .i64 0, .int .i64 1, .int .i64 0, .int .i64 1, .int .i64 3, .int .i64 3, .bool false, .bool false, .bool false, .int .i64 0, .int .i64 6, .int .i64 1, .int .i64 0, .int .i64 1, .int .i64 0, .int .i64 1] 116 0 0 0 false),
    (4, .row [.int .i64 0] 3 0 0 0 false)],
  next := 5, ro := 5, glob := 3, ret := .tuple [.slice 559 1 0 2 1 none, .int .i64 0],
  post := [(559, .row [.int .i64 3, .int .i64 4] 3 1 0 0 false)], next' := 562 }
theorem run62 : E2.Fact.ok2 fact62 (E2.envOf Tryz.prog (E2.specR [fact58, fact60, fact61])) 1000 = true := by kernel_rfl
theorem good62 : E2.SpecOk Tryz.prog fact62.f fact62.tryR := E2.goodR_fact Tryz.checked.mixed tables (E2.goodR_cons good58 (E2.goodR_cons good60 (E2.goodR_cons good61 E2.goodR_nil))) (by kernel_rfl) run62
def fact63 : E2.Fact := {
  f := 128, args := [.ptr 3 0 0 5, .slice 4 2 0 3 7 none, .slice 5 1 0 2 1 none],
  pre := [(3, .row [.slice 6 0 0 4 12 none, .int .i64 3, .int .i64 2, .int .i64 1, .map 7] 227 0 0 0 true),
    (4, .row [.int .i64 0, .int .i64 0, .int .i64 (-1), .int .i64 0, .bool false, .int .i64 0, .int .i64 1, .int .i64 1, .int .i64 3, .int .i64 0, .int .i64 3, .bool false, .int .i64 2, .int .i64 1, .int .i64 4, .int .i64 4, .int .i64 3, .int .i64 (-1), .bool true, .int .i64 0, .int .i64 1] 215 2 2 0 false),
    (5, .row [.int .i64 0, .int .i64 4] 3 1 0 0 false),
    (6, .row [.int .i64 0, .int .i64 3, .bool false, .bool false, .bool false, .int .i64 0, .int .i64 6, .int .i64 1, .int .i64 0, .int .i64 1, .int .i64 0, .int .i64 1, .int .i64 1, .int .i64 4, .bool false, .bool false, .bool false, .int .i64 0, .int .i64 2, .int .i64 1, .int .i64 0, .int .i64 1, .int .i64 0, .int .i64 1, .int .i64 2, .int .i64 4, .bool false, .bool false, .bool false, .int .i64 0, .int .i64 2, .int .i64 1, .int .i64 0, .int .i64 1, .int .i64 0, .int .i64 1, .int .i64 3, .int .i64 3, .bool false, .bool false, .bool false, .int .i64 0, .int .i64 6, .int .i64 1, .int .i64 0, .int .i64 1, .int .i64 0, .int .i64 1] 116 0 0 0 false),
    (7, .map [] 0)],
  next := 8, ro := 3, glob := 3, ret := .bool true,
  post := [(3, .row [.slice 6 0 0 4 12 none, .int .i64 3, .int .i64 2, .int .i64 1, .map 7] 227 0 0 0 true),
    (4, .row [.int .i64 0, .int .i64 0, .int .i64 (-1), .int .i64 0, .bool false, .int .i64 0, .int .i64 1, .int .i64 1, .int .i64 3, .int .i64 0, .int .i64 3, .bool false, .int .i64 2, .int .i64 1, .int .i64 4, .int .i64 4, .int .i64 3, .int .i64 (-1), .bool true, .int .i64 0, .int .i64 1] 215 2 2 0 false),
    (5, .row [.int .i64 0, .int .i64 4] 3 1 0 0 false),
    (6, .row [.int .i64 0, .int .i64 3, .bool false, .bool false, .bool false, .int .i64 0, .int .i64 6, .int .i64 1, .int .i64 0, .int .i64 1, .int .i64 0, .int .i64 1, .int .i64 1, .int .i64 4, .bool false, .bool false, .bool false, .int .i64 0, .int .i64 2, .int .i64 1, .int .i64 0, .int .i64 1, .int .i64 0, .int .i64 1, .int .i64 2, .int .i64 4, .bool false, .bool false, .bool false, .int .i64 0, .int .i64 4, .int .i64 1, .int .i64 0, .int .i64 1, .int .i64 0, .int .i64 1, .int .i64 3, .int .i64 3, .bool false, .bool false, .bool false, .int .i64 0, .int .i64 6, .int .i64 1, .int .i64 0, .int .i64 1, .int .i64 0, .int .i64 1] 116 0 0 0 false),
    (7, .map [] 0)], next' := 304 }
theorem run63 : E2.Fact.ok2 fact63 (E2.envOf Tryz.prog (E2.specR [fact60, fact61])) 1000 = true := by kernel_rfl
theorem good63 : E2.SpecOk Tryz.prog fact63.f fact63.tryR := E2.goodR_fact Tryz.checked.mixed tables (E2.goodR_cons good60 (E2.goodR_cons good61 E2.goodR_nil)) (by kernel_rfl) run63
def fact64 : E2.Fact := {
  f := 125, args := [.agg [.int .i64 2, .int .i64 2, .int .i64 3, .int .i64 2], .int .i64 3, .slice 3 0 0 4 12 none, .slice 4 1 0 2 1 none],
  pre := [(3, .row [.int .i64 0, .int .i64 3, .bool false, .bool false, .bool false, .int .i64 0, .int .i64 6, .int .i64 1, .int .i64 0, .int .i64 1, .int .i64 0, .int .i64 1, .int .i64 1, .int .i64 4, .bool false, .bool false, .bool false, .int .i64 0, .int .i64 2, .int .i64 1, .int .i64 0, .int .i64 1, .int .i64 0, .int .i64 1, .int .i64 2, .int .i64 4, .bool false, .bool false, .bool false, .int .i64 0, .int .i64 2, .int .i64 1, .int .i64 0, .int .i64 1, .int .i64 0, .int .i64 1, .int .i64 3, .int .i64 3, .bool false, .bool false, .bool false, .int .i64 0, .int .i64 6, .int .i64 1, .int .i64 0, .int .i64 1, .int .i64 0, .int .i64 1] 116 0 0 0 false),
    (4, .row [.int .i64 0, .int .i64 4] 3 1 0 0 false)],
  next := 5, ro := 5, glob := 3, ret := .tuple [.slice 603 0 0 1 1 none, .int .i64 0],
  post := [(603, .row [.int .i64 0] 3 0 0 0 false)], next' := 608 }
theorem run64 : E2.Fact.ok2 fact64 (E2.envOf Tryz.prog (E2.specR [fact58, fact63])) 1000 = true := by kernel_rfl
theorem good64 : E2.SpecOk Tryz.prog fact64.f fact64.tryR := E2.goodR_fact Tryz.checked.mixed tables (E2.goodR_cons good58 (E2.goodR_cons good63 E2.goodR_nil)) (by kernel_rfl) run64
def fact65 : E2.Fact := {
  f := 128, args := [.ptr 3 0 0 5, .slice 4 2 0 3 7 none, .slice 5 2 0 3 1 none],
  pre := [(3, .row [.slice 6 0 0 4 12 none, .int .i64 3, .int .i64 2, .int .i64 1, .map 7] 227 0 0 0 true),
    (4, .row [.int .i64 0, .int .i64 0, .int .i64 (-1), .int .i64 0, .bool false, .int .i64 0, .int .i64 1, .int .i64 1, .int .i64 3, .int .i64 0, .int .i64 3, .bool false, .int .i64 2, .int .i64 1, .int .i64 4, .int .i64 4, .int .i64 3, .int .i64 (-1), .bool true, .int .i64 0, .int .i64 1] 215 2 2 0 false),
    (5, .row [.int .i64 0, .int .i64 4, .int .i64 0] 3 2 0 0 false),
    (6, .row [.int .i64 0, .int .i64 3, .bool false, .bool false, .bool false, .int .i64 0, .int .i64 6, .int .i64 1, .int .i64 0, .int .i64 1, .int .i64 0, .int .i64 1, .int .i64 1, .int .i64 4, .bool false, .bool false, .bool false, .int .i64 0, .int .i64 2, .int .i64 1, .int .i64 0, .int .i64 1, .int .i64 0, .int .i64 1, .int .i64 2, .int .i64 4, .bool false, .bool false, .bool false, .int .i64 0, .int .i64 2, .int .i64 1, .int .i64 0, .int .i64 1, .int .i64 0, .int .i64 1, .int .i64 3, .int .i64 3, .bool false, .bool false, .bool false, .int .i64 0, .int .i64 6, .int .i64 1, .int .i64 0, .int .i64 1, .int .i64 0, .int .i64 1] 116 0 0 0 false),
    (7, .map [] 0)],
  next := 8, ro := 3, glob := 3, ret := .bool true,
  post := [(3, .row [.slice 6 0 0 4 12 none, .int .i64 3, .int .i64 2, .int .i64 1, .map 7] 227 0 0 0 true),
    (4, .row [.int .i64 0, .int .i64 0, .int .i64 (-1), .int .i64 0, .bool false, .int .i64 0, .int .i64 1, .int .i64 1, .int .i64 3, .int .i64 0, .int .i64 3, .bool false, .int .i64 2, .int .i64 1, .int .i64 4, .int .i64 4, .int .i64 3, .int .i64 (-1), .bool true, .int .i64 0, .int .i64 1] 215 2 2 0 false),
    (5, .row [.int .i64 0, .int .i64 4, .int .i64 0] 3 2 0 0 false),
    (6, .row [.int .i64 0, .int .i64 3, .bool false, .bool false, .bool false, .int .i64 0, .int .i64 6, .int .i64 1, .int .i64 0, .int .i64 1, .int .i64 0, .int .i64 1, .int .i64 1, .int .i64 4, .bool false, .bool false, .bool false, .int .i64 0, .int .i64 2, .int .i64 1, .int .i64 0, .int .i64 1, .int .i64 0, .int .i64 1, .int .i64 2, .int .i64 4, .bool false, .bool false, .bool false, .int .i64 0, .int .i64 4, .int .i64 1, .int .i64 0, .int .i64 1, .int .i64 0, .int .i64 1, .int .i64 3, .int .i64 3, .bool false, .bool false, .bool false, .int .i64 0, .int .i64 6, .int .i64 1, .int .i64 0, .int .i64 1, .int .i64 0, .int .i64 1] 116 0 0 0 false),
    (7, .map [] 0)], next' := 340 }
theorem run65 : E2.Fact.ok2 fact65 (E2.envOf Tryz.prog (E2.specR [fact60, fact61])) 1000 = true := by kernel_rfl
theorem good65 : E2.SpecOk Tryz.prog fact65.f fact65.tryR := E2.goodR_fact Tryz.checked.mixed tables (E2.goodR_cons good60 (E2.goodR_cons good61 E2.goodR_nil)) (by kernel_rfl) run65
def fact66 : E2.Fact := {
  f := 77, args := [.ptr 3 0 0 7],
  pre := [(3, .row [.int .i64 2, .int .i64 2, .int .i64 3, .int .i64 2, .slice 4 0 0 1 1 none, .slice 5 0 0 4 12 none, .nils] 158 0 0 0 true),
    (4, .row [.int .i64 3] 3 0 0 0 false),
    (5, .row [.int .i64 0, .int .i64 3, .bool false, .bool false, .bool false, .int .i64 0, .int .i64 6, .int .i64 1, .int .i64 0, .int .i64 1, .int .i64 0, .int .i64 1, .int .i64 1, .int .i64 4, .bool false, .bool false, .bool false, .int .i64 0, .int .i64 2, .int .i64 1, .int .i64 0, .int .i64 1, .int .i64 0, .int .i64 1, .int .i64 2, .int .i64 4, .bool false, .bool false, .bool false, .int .i64 0, .int .i64 2, .int .i64 1, .int .i64 0, .int .i64 1, .int .i64 0, .int .i64 1, .int .i64 3, .int .i64 3, .bool false, .bool false, .bool false, .int .i64 0, .int .i64 6, .int .i64 1, .int .i64 0, .int .i64 1, .int .i64 0, .int .i64 1] 116 0 0 0 false)],
  next := 6, ro := 3, glob := 3, ret := .func (.func 77) [] [],
  post := [(3, .row [.int .i64 2, .int .i64 2, .int .i64 3, .int .i64 2, .slice 4 0 1 0 1 none, .slice 2021 0 0 4 12 none, .slice 2356 0 0 3 1 none] 158 0 0 0 true),
    (4, .row [.int .i64 3] 3 0 0 0 false),
    (5, .row [.int .i64 0, .int .i64 3, .bool false, .bool false, .bool false, .int .i64 0, .int .i64 6, .int .i64 1, .int .i64 0, .int .i64 1, .int .i64 0, .int .i64 1, .int .i64 1, .int .i64 4, .bool false, .bool false, .bool false, .int .i64 0, .int .i64 2, .int .i64 1, .int .i64 0, .int .i64 1, .int .i64 0, .int .i64 1, .int .i64 2, .int .i64 4, .bool false, .bool false, .bool false, .int .i64 0, .int .i64 2, .int .i64 1, .int .i64 0, .int .i64 1, .int .i64 0, .int .i64 1, .int .i64 3, .int .i64 3, .bool false, .bool false, .bool false, .int .i64 0, .int .i64 6, .int .i64 1, .int .i64 0, .int .i64 1, .int .i64 0, .int .i64 1] 116 0 0 0 false),
    (2021, .row [.int .i64 0, .int .i64 3, .bool false, .bool false, .bool false, .int .i64 0, .int .i64 6, .int .i64 1, .int .i64 0, .int .i64 1, .int .i64 0, .int .i64 1, .int .i64 1, .int .i64 4, .bool false, .bool false, .bool false, .int .i64 0, .int .i64 2, .int .i64 1, .int .i64 0, .int .i64 1, .int .i64 0, .int .i64 1, .int .i64 2, .int .i64 4, .bool false, .bool false, .bool false, .int .i64 0, .int .i64 4, .int .i64 1, .int .i64 0, .int .i64 1, .int .i64 0, .int .i64 1, .int .i64 3, .int .i64 3, .bool false, .bool false, .bool false, .int .i64 0, .int .i64 6, .int .i64 1, .int .i64 0, .int .i64 1, .int .i64 0, .int .i64 1] 116 0 0 0 false),
    (2356, .row [.int .i64 0, .int .i64 4, .int .i64 0] 3 0 0 0 false)], next' := 2357 }
theorem run66 : E2.Fact.ok2 fact66 (E2.envOf Tryz.prog (E2.specR [fact58, fact59, fact62, fact64, fact65])) 1000 = true := by kernel_rfl
theorem good66 : E2.SpecOk Tryz.prog fact66.f fact66.tryR := E2.goodR_fact Tryz.checked.mixed tables (E2.goodR_cons good58 (E2.goodR_cons good59 (E2.goodR_cons good62 (E2.goodR_cons good64 (E2.goodR_cons good65 E2.goodR_nil))))) (by kernel_rfl) run66
def fact67 : E2.Fact := {
  f := 29, args := [.agg [.int .i64 2, .int .i64 2, .int .i64 3, .int .i64 2], .slice 3 3 0 4 17 none],
  pre := [(3, .row [.int .i64 1, .int .i64 3, .int .i64 4, .int .i64 0, .bool false, .int .i64 0, .bool false, .bool false, .int .i64 0, .int .i64 0, .int .i64 0, .int .i64 0, .bool false, .int .i64 0, .int .i64 0, .int .i64 0, .int .i64 0, .int .i64 1, .int .i64 4, .int .i64 4, .int .i64 0, .bool false, .int .i64 0, .bool false, .bool false, .int .i64 0, .int .i64 0, .int .i64 0, .int .i64 0, .bool false, .int .i64 0, .int .i64 0, .int .i64 0, .int .i64 0, .int .i64 1, .int .i64 4, .int .i64 4, .int .i64 0, .bool false, .int .i64 0, .bool false, .bool false, .int .i64 0, .int .i64 0, .int .i64 0, .int .i64 0, .bool false, .int .i64 0, .int .i64 0, .int .i64 0, .int .i64 0, .int .i64 1, .int .i64 3, .int .i64 4, .int .i64 0, .bool false, .int .i64 0, .bool false, .bool false, .int .i64 0, .int .i64 0, .int .i64 0, .int .i64 0, .bool false, .int .i64 0, .int .i64 0, .int .i64 0, .int .i64 0] 32 3 0 0 false)],
  next := 4, ro := 4, glob := 3, ret := .tuple [.agg [.nils, .nils, .slice 2594 0 0 3 1 none, .slice 2598 3 0 4 2 none], .int .i64 0],
  post := [(2594, .row [.int .i64 0, .int .i64 4, .int .i64 0] 3 0 0 0 false),
    (2598, .row [.int .i64 6, .int .i64 1, .int .i64 2, .int .i64 1, .int .i64 4, .int .i64 1, .int .i64 6, .int .i64 1] 54 3 0 0 false)], next' := 2605 }
theorem run67 : E2.Fact.ok2 fact67 (E2.envOf Tryz.prog (E2.specR [fact54, fact55, fact66])) 1000 = true := by kernel_rfl
theorem good67 : E2.SpecOk Tryz.prog fact67.f fact67.tryR := E2.goodR_fact Tryz.checked.mixed tables (E2.goodR_cons good54 (E2.goodR_cons good55 (E2.goodR_cons good66 E2.goodR_nil))) (by kernel_rfl) run67
end Go.Proofs.YtdmbihkiimpmhaaGreatDoor.solveKnown
