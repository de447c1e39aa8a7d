/- CALLS THAT THE LAW CanonKnown MAKES, each with what it comes to: run by the kernel over E2, part 8. Made by program. No condition. -/
import Derived.Test.YthmjalcblddfkaaGreatDoorCanonKnownT
namespace Go.Proofs.YthmjalcblddfkaaGreatDoor.canonKnown
open Go
set_option maxRecDepth 100000
def fact61 : E2.Fact := {
  f := 141, args := [.agg [.int .i64 2, .int .i64 2, .int .i64 3, .int .i64 2], .slice 4 2 0 3 17 none, .nils],
  pre := [(4, .row [.int .i64 1, .int .i64 4, .int .i64 4, .int .i64 0, .bool false, .int .i64 0, .bool false, .bool false, .int .i64 0, .int .i64 0, .int .i64 0, .int .i64 0, .bool false, .int .i64 0, .int .i64 0, .int .i64 0, .int .i64 0, .int .i64 1, .int .i64 4, .int .i64 5, .int .i64 0, .bool false, .int .i64 0, .bool false, .bool false, .int .i64 0, .int .i64 0, .int .i64 0, .int .i64 0, .bool false, .int .i64 0, .int .i64 0, .int .i64 0, .int .i64 0, .int .i64 1, .int .i64 3, .int .i64 6, .int .i64 0, .bool false, .int .i64 0, .bool false, .bool false, .int .i64 0, .int .i64 0, .int .i64 0, .int .i64 0, .bool false, .int .i64 0, .int .i64 0, .int .i64 0, .int .i64 0] 50 2 0 0 false)],
  next := 5, ro := 5, glob := 4, ret := .tuple [.slice 37 2 0 3 2 none, .int .i64 0],
  post := [(37, .row [.int .i64 2, .int .i64 1, .int .i64 2, .int .i64 1, .int .i64 6, .int .i64 1] 23 2 0 0 false)], next' := 71 }
theorem run61 : E2.Fact.ok2 fact61 (E2.envOf Tryz.prog (E2.specR [])) 1000 = true := by kernel_rfl
theorem good61 : E2.SpecOk Tryz.prog fact61.f fact61.tryR := E2.goodR_fact Tryz.checked.mixed tables E2.goodR_nil (by kernel_rfl) run61
def fact62 : E2.Fact := {
  f := 200, args := [.agg [.slice 4 0 0 3 12 none], .agg [.int .i64 0, .int .i64 2, .int .i64 (-1), .int .i64 2, .bool false, .int .i64 0, .int .i64 0], .agg [.int .i64 2, .int .i64 1]],
  pre := [(4, .row [.int .i64 0, .int .i64 4, .bool false, .bool false, .bool false, .int .i64 0, .int .i64 2, .int .i64 1, .int .i64 0, .int .i64 1, .int .i64 0, .int .i64 1, .int .i64 1, .int .i64 4, .bool false, .bool false, .bool false, .int .i64 0, .int .i64 2, .int .i64 1, .int .i64 0, .int .i64 1, .int .i64 0, .int .i64 1, .int .i64 2, .int .i64 3, .bool false, .bool false, .bool false, .int .i64 0, .int .i64 6, .int .i64 1, .int .i64 0, .int .i64 1, .int .i64 0, .int .i64 1] 227 0 0 0 false)],
  next := 5, ro := 5, glob := 4, ret := .tuple [.agg [.int .i64 2, .int .i64 1], .int .i64 0],
  post := [], next' := 67 }
theorem run62 : E2.Fact.ok2 fact62 (E2.envOf Tryz.prog (E2.specR [])) 1000 = true := by kernel_rfl
theorem good62 : E2.SpecOk Tryz.prog fact62.f fact62.tryR := E2.goodR_fact Tryz.checked.mixed tables E2.goodR_nil (by kernel_rfl) run62
def fact63 : E2.Fact := {
  f := 184, args := [.agg [.int .i64 2, .int .i64 2, .int .i64 3, .int .i64 2], .int .i64 3, .slice 4 0 0 3 12 none],
  pre := [(4, .row [.int .i64 0, .int .i64 4, .bool false, .bool false, .bool false, .int .i64 0, .int .i64 2, .int .i64 1, .int .i64 0, .int .i64 1, .int .i64 0, .int .i64 1, .int .i64 1, .int .i64 4, .bool false, .bool false, .bool false, .int .i64 0, .int .i64 2, .int .i64 1, .int .i64 0, .int .i64 1, .int .i64 0, .int .i64 1, .int .i64 2, .int .i64 3, .bool false, .bool false, .bool false, .int .i64 0, .int .i64 6, .int .i64 1, .int .i64 0, .int .i64 1, .int .i64 0, .int .i64 1] 227 0 0 0 false)],
  next := 5, ro := 5, glob := 4, ret := .tuple [.slice 79 1 0 2 7 none, .int .i64 0],
  post := [(79, .row [.int .i64 0, .int .i64 2, .int .i64 (-1), .int .i64 2, .bool false, .int .i64 2, .int .i64 1, .int .i64 3, .int .i64 3, .int .i64 2, .int .i64 (-1), .bool true, .int .i64 0, .int .i64 1] 301 1 1 0 false)], next' := 181 }
theorem run63 : E2.Fact.ok2 fact63 (E2.envOf Tryz.prog (E2.specR [fact62])) 1000 = true := by kernel_rfl
theorem good63 : E2.SpecOk Tryz.prog fact63.f fact63.tryR := E2.goodR_fact Tryz.checked.mixed tables (E2.goodR_cons good62 E2.goodR_nil) (by kernel_rfl) run63
def fact64 : E2.Fact := {
  f := 229, args := [.ptr 4 0 0 5, .agg [.int .i64 0, .int .i64 2, .int .i64 (-1), .int .i64 2, .bool false, .int .i64 2, .int .i64 1]],
  pre := [(4, .row [.slice 5 0 0 3 12 none, .int .i64 3, .int .i64 2, .int .i64 1, .map 6] 312 0 0 0 true),
    (5, .row [.int .i64 0, .int .i64 4, .bool false, .bool false, .bool false, .int .i64 0, .int .i64 2, .int .i64 1, .int .i64 0, .int .i64 1, .int .i64 0, .int .i64 1, .int .i64 1, .int .i64 4, .bool false, .bool false, .bool false, .int .i64 0, .int .i64 2, .int .i64 1, .int .i64 0, .int .i64 1, .int .i64 0, .int .i64 1, .int .i64 2, .int .i64 3, .bool false, .bool false, .bool false, .int .i64 0, .int .i64 6, .int .i64 1, .int .i64 0, .int .i64 1, .int .i64 0, .int .i64 1] 227 0 0 0 false),
    (6, .map [] 0)],
  next := 7, ro := 7, glob := 4, ret := .bool true,
  post := [], next' := 73 }
theorem run64 : E2.Fact.ok2 fact64 (E2.envOf Tryz.prog (E2.specR [])) 1000 = true := by kernel_rfl
theorem good64 : E2.SpecOk Tryz.prog fact64.f fact64.tryR := E2.goodR_fact Tryz.checked.mixed tables E2.goodR_nil (by kernel_rfl) run64
def fact65 : E2.Fact := {
  f := 185, args := [.agg [.int .i64 2, .int .i64 2, .int .i64 3, .int .i64 2], .int .i64 3, .slice 4 0 0 3 12 none, .slice 5 0 0 1 1 none],
  pre := [(4, .row [.int .i64 0, .int .i64 4, .bool false, .bool false, .bool false, .int .i64 0, .int .i64 2, .int .i64 1, .int .i64 0, .int .i64 1, .int .i64 0, .int .i64 1, .int .i64 1, .int .i64 4, .bool false, .bool false, .bool false, .int .i64 0, .int .i64 2, .int .i64 1, .int .i64 0, .int .i64 1, .int .i64 0, .int .i64 1, .int .i64 2, .int .i64 3, .bool false, .bool false, .bool false, .int .i64 0, .int .i64 6, .int .i64 1, .int .i64 0, .int .i64 1, .int .i64 0, .int .i64 1] 227 0 0 0 false),
    (5, .row [.int .i64 4] 3 0 0 0 false)],
  next := 6, ro := 6, glob := 4, ret := .tuple [.slice 341 0 0 1 1 none, .int .i64 0],
  post := [(341, .row [.int .i64 0] 3 0 0 0 false)], next' := 346 }
theorem run65 : E2.Fact.ok2 fact65 (E2.envOf Tryz.prog (E2.specR [fact63, fact64])) 1000 = true := by kernel_rfl
theorem good65 : E2.SpecOk Tryz.prog fact65.f fact65.tryR := E2.goodR_fact Tryz.checked.mixed tables (E2.goodR_cons good63 (E2.goodR_cons good64 E2.goodR_nil)) (by kernel_rfl) run65
def fact66 : E2.Fact := {
  f := 165, args := [.agg [.int .i64 2, .int .i64 2, .int .i64 3, .int .i64 2], .int .i64 3, .slice 4 0 0 3 12 none],
  pre := [(4, .row [.int .i64 0, .int .i64 4, .bool false, .bool false, .bool false, .int .i64 0, .int .i64 2, .int .i64 1, .int .i64 0, .int .i64 1, .int .i64 0, .int .i64 1, .int .i64 1, .int .i64 4, .bool false, .bool false, .bool false, .int .i64 0, .int .i64 2, .int .i64 1, .int .i64 0, .int .i64 1, .int .i64 0, .int .i64 1, .int .i64 2, .int .i64 3, .bool false, .bool false, .bool false, .int .i64 0, .int .i64 6, .int .i64 1, .int .i64 0, .int .i64 1, .int .i64 0, .int .i64 1] 227 0 0 0 false)],
  next := 5, ro := 5, glob := 4, ret := .tuple [.slice 492 1 0 2 1 none, .int .i64 0],
  post := [(492, .row [.int .i64 4, .int .i64 0] 3 1 0 0 false)], next' := 843 }
theorem run66 : E2.Fact.ok2 fact66 (E2.envOf Tryz.prog (E2.specR [fact63, fact64, fact65])) 1000 = true := by kernel_rfl
theorem good66 : E2.SpecOk Tryz.prog fact66.f fact66.tryR := E2.goodR_fact Tryz.checked.mixed tables (E2.goodR_cons good63 (E2.goodR_cons good64 (E2.goodR_cons good65 E2.goodR_nil))) (by kernel_rfl) run66
def fact67 : E2.Fact := {
  f := 188, args := [.ptr 4 0 0 5, .slice 5 1 0 2 7 none, .slice 6 1 0 2 1 none],
  pre := [(4, .row [.slice 7 0 0 3 12 none, .int .i64 3, .int .i64 2, .int .i64 1, .map 8] 312 0 0 0 true),
    (5, .row [.int .i64 0, .int .i64 2, .int .i64 (-1), .int .i64 2, .bool false, .int .i64 2, .int .i64 1, .int .i64 3, .int .i64 3, .int .i64 2, .int .i64 (-1), .bool true, .int .i64 0, .int .i64 1] 301 1 1 0 false),
    (6, .row [.int .i64 4, .int .i64 0] 3 1 0 0 false),
    (7, .row [.int .i64 0, .int .i64 4, .bool false, .bool false, .bool false, .int .i64 0, .int .i64 2, .int .i64 1, .int .i64 0, .int .i64 1, .int .i64 0, .int .i64 1, .int .i64 1, .int .i64 4, .bool false, .bool false, .bool false, .int .i64 0, .int .i64 2, .int .i64 1, .int .i64 0, .int .i64 1, .int .i64 0, .int .i64 1, .int .i64 2, .int .i64 3, .bool false, .bool false, .bool false, .int .i64 0, .int .i64 6, .int .i64 1, .int .i64 0, .int .i64 1, .int .i64 0, .int .i64 1] 227 0 0 0 false),
    (8, .map [] 0)],
  next := 9, ro := 4, glob := 4, ret := .bool true,
  post := [(4, .row [.slice 7 0 0 3 12 none, .int .i64 3, .int .i64 2, .int .i64 1, .map 8] 312 0 0 0 true),
    (5, .row [.int .i64 0, .int .i64 2, .int .i64 (-1), .int .i64 2, .bool false, .int .i64 2, .int .i64 1, .int .i64 3, .int .i64 3, .int .i64 2, .int .i64 (-1), .bool true, .int .i64 0, .int .i64 1] 301 1 1 0 false),
    (6, .row [.int .i64 4, .int .i64 0] 3 1 0 0 false),
    (7, .row [.int .i64 0, .int .i64 4, .bool false, .bool false, .bool false, .int .i64 0, .int .i64 2, .int .i64 1, .int .i64 0, .int .i64 1, .int .i64 0, .int .i64 1, .int .i64 1, .int .i64 4, .bool false, .bool false, .bool false, .int .i64 0, .int .i64 4, .int .i64 1, .int .i64 0, .int .i64 1, .int .i64 0, .int .i64 1, .int .i64 2, .int .i64 3, .bool false, .bool false, .bool false, .int .i64 0, .int .i64 6, .int .i64 1, .int .i64 0, .int .i64 1, .int .i64 0, .int .i64 1] 227 0 0 0 false),
    (8, .map [] 0)], next' := 136 }
theorem run67 : E2.Fact.ok2 fact67 (E2.envOf Tryz.prog (E2.specR [fact64])) 1000 = true := by kernel_rfl
theorem good67 : E2.SpecOk Tryz.prog fact67.f fact67.tryR := E2.goodR_fact Tryz.checked.mixed tables (E2.goodR_cons good64 E2.goodR_nil) (by kernel_rfl) run67
def fact68 : E2.Fact := {
  f := 123, args := [.agg [.int .i64 2, .int .i64 2, .int .i64 3, .int .i64 2], .slice 4 2 0 3 12 none],
  pre := [(4, .row [.int .i64 0, .int .i64 4, .bool false, .bool false, .bool false, .int .i64 0, .int .i64 2, .int .i64 1, .int .i64 0, .int .i64 1, .int .i64 0, .int .i64 1, .int .i64 1, .int .i64 4, .bool false, .bool false, .bool false, .int .i64 0, .int .i64 2, .int .i64 1, .int .i64 0, .int .i64 1, .int .i64 0, .int .i64 1, .int .i64 2, .int .i64 3, .bool false, .bool false, .bool false, .int .i64 0, .int .i64 6, .int .i64 1, .int .i64 0, .int .i64 1, .int .i64 0, .int .i64 1] 227 2 0 0 false)],
  next := 5, ro := 5, glob := 4, ret := .tuple [.slice 1232 0 0 2 1 none, .slice 1102 0 0 3 12 none, .int .i64 0],
  post := [(1102, .row [.int .i64 0, .int .i64 4, .bool false, .bool false, .bool false, .int .i64 0, .int .i64 2, .int .i64 1, .int .i64 0, .int .i64 1, .int .i64 0, .int .i64 1, .int .i64 1, .int .i64 4, .bool false, .bool false, .bool false, .int .i64 0, .int .i64 4, .int .i64 1, .int .i64 0, .int .i64 1, .int .i64 0, .int .i64 1, .int .i64 2, .int .i64 3, .bool false, .bool false, .bool false, .int .i64 0, .int .i64 6, .int .i64 1, .int .i64 0, .int .i64 1, .int .i64 0, .int .i64 1] 227 0 0 0 false),
    (1232, .row [.int .i64 4, .int .i64 0] 3 0 0 0 false)], next' := 1233 }
theorem run68 : E2.Fact.ok2 fact68 (E2.envOf Tryz.prog (E2.specR [fact66, fact63, fact67])) 1000 = true := by kernel_rfl
theorem good68 : E2.SpecOk Tryz.prog fact68.f fact68.tryR := E2.goodR_fact Tryz.checked.mixed tables (E2.goodR_cons good66 (E2.goodR_cons good63 (E2.goodR_cons good67 E2.goodR_nil))) (by kernel_rfl) run68
def fact69 : E2.Fact := {
  f := 85, args := [.agg [.int .i64 2, .int .i64 2, .int .i64 3, .int .i64 2], .slice 4 2 0 3 17 none],
  pre := [(4, .row [.int .i64 1, .int .i64 4, .int .i64 4, .int .i64 0, .bool false, .int .i64 0, .bool false, .bool false, .int .i64 0, .int .i64 0, .int .i64 0, .int .i64 0, .bool false, .int .i64 0, .int .i64 0, .int .i64 0, .int .i64 0, .int .i64 1, .int .i64 4, .int .i64 5, .int .i64 0, .bool false, .int .i64 0, .bool false, .bool false, .int .i64 0, .int .i64 0, .int .i64 0, .int .i64 0, .bool false, .int .i64 0, .int .i64 0, .int .i64 0, .int .i64 0, .int .i64 1, .int .i64 3, .int .i64 6, .int .i64 0, .bool false, .int .i64 0, .bool false, .bool false, .int .i64 0, .int .i64 0, .int .i64 0, .int .i64 0, .bool false, .int .i64 0, .int .i64 0, .int .i64 0, .int .i64 0] 50 2 0 0 false)],
  next := 5, ro := 5, glob := 4, ret := .tuple [.agg [.nils, .nils, .slice 1383 0 0 2 1 none, .slice 1387 2 0 3 2 none], .int .i64 0],
  post := [(1383, .row [.int .i64 4, .int .i64 0] 3 0 0 0 false),
    (1387, .row [.int .i64 2, .int .i64 1, .int .i64 4, .int .i64 1, .int .i64 6, .int .i64 1] 23 2 0 0 false)], next' := 1392 }
theorem run69 : E2.Fact.ok2 fact69 (E2.envOf Tryz.prog (E2.specR [fact61, fact68])) 1000 = true := by kernel_rfl
theorem good69 : E2.SpecOk Tryz.prog fact69.f fact69.tryR := E2.goodR_fact Tryz.checked.mixed tables (E2.goodR_cons good61 (E2.goodR_cons good68 E2.goodR_nil)) (by kernel_rfl) run69
end Go.Proofs.YthmjalcblddfkaaGreatDoor.canonKnown
