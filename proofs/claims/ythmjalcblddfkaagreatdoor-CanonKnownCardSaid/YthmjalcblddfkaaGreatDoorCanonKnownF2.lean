/- CALLS THAT THE LAW CanonKnown MAKES, each with what it comes to: run by the kernel over E2, part 2. Made by program. No condition. -/
import Derived.Test.YthmjalcblddfkaaGreatDoorCanonKnownT
import Derived.Test.YthmjalcblddfkaaGreatDoorCanonKnownF1
namespace Go.Proofs.YthmjalcblddfkaaGreatDoor.canonKnown
open Go
set_option maxRecDepth 100000
def fact9 : E2.Fact := {
  f := 19, args := [.slice 4 2 0 3 10 none],
  pre := [(4, .row [.int .i64 0, .int .i64 1, .int .i64 2, .int .i64 1, .int .i64 0, .int .i64 4, .int .i64 0, .bool false, .int .i64 2, .int .i64 0, .int .i64 2, .int .i64 1, .int .i64 2, .int .i64 1, .int .i64 1, .int .i64 4, .int .i64 0, .bool false, .int .i64 3, .int .i64 0, .int .i64 4, .int .i64 1, .int .i64 4, .int .i64 1, .int .i64 2, .int .i64 4, .int .i64 0, .bool false, .int .i64 4, .int .i64 0] 60 2 0 0 false)],
  next := 5, ro := 5, glob := 4, ret := .tuple [.int .i64 0, .int .i64 0],
  post := [], next' := 64 }
theorem run9 : E2.Fact.ok2 fact9 (E2.envOf Tryz.prog (E2.specR [])) 1000 = true := by kernel_rfl
theorem good9 : E2.SpecOk Tryz.prog fact9.f fact9.tryR := E2.goodR_fact Tryz.checked.mixed tables E2.goodR_nil (by kernel_rfl) run9
def fact10 : E2.Fact := {
  f := 19, args := [.slice 4 0 0 3 10 none],
  pre := [(4, .row [.int .i64 0, .int .i64 1, .int .i64 2, .int .i64 1, .int .i64 0, .int .i64 4, .int .i64 0, .bool false, .int .i64 2, .int .i64 0, .int .i64 2, .int .i64 1, .int .i64 2, .int .i64 1, .int .i64 1, .int .i64 4, .int .i64 0, .bool false, .int .i64 3, .int .i64 0, .int .i64 4, .int .i64 1, .int .i64 4, .int .i64 1, .int .i64 2, .int .i64 4, .int .i64 0, .bool false, .int .i64 4, .int .i64 0] 60 0 0 0 false)],
  next := 5, ro := 5, glob := 4, ret := .tuple [.int .i64 0, .int .i64 0],
  post := [], next' := 64 }
theorem run10 : E2.Fact.ok2 fact10 (E2.envOf Tryz.prog (E2.specR [])) 1000 = true := by kernel_rfl
theorem good10 : E2.SpecOk Tryz.prog fact10.f fact10.tryR := E2.goodR_fact Tryz.checked.mixed tables E2.goodR_nil (by kernel_rfl) run10
def fact11 : E2.Fact := {
  f := 19, args := [.slice 4 0 0 3 10 none],
  pre := [(4, .row [.int .i64 0, .int .i64 1, .int .i64 4, .int .i64 1, .int .i64 2, .int .i64 4, .int .i64 0, .bool false, .int .i64 4, .int .i64 0, .int .i64 4, .int .i64 1, .int .i64 2, .int .i64 1, .int .i64 1, .int .i64 4, .int .i64 0, .bool false, .int .i64 3, .int .i64 0, .int .i64 6, .int .i64 1, .int .i64 2, .int .i64 1, .int .i64 0, .int .i64 4, .int .i64 0, .bool false, .int .i64 2, .int .i64 0] 60 0 0 0 false)],
  next := 5, ro := 5, glob := 4, ret := .tuple [.int .i64 0, .int .i64 0],
  post := [], next' := 64 }
theorem run11 : E2.Fact.ok2 fact11 (E2.envOf Tryz.prog (E2.specR [])) 1000 = true := by kernel_rfl
theorem good11 : E2.SpecOk Tryz.prog fact11.f fact11.tryR := E2.goodR_fact Tryz.checked.mixed tables E2.goodR_nil (by kernel_rfl) run11
def fact12 : E2.Fact := {
  f := 113, args := [.func (.func 129) [] [.ptr 4 0 0 1], .slice 5 0 0 3 10 none],
  pre := [(4, .row [.func (.func 111) [] [.ptr 6 0 0 1]] 212 0 0 0 true),
    (5, .row [.int .i64 0, .int .i64 1, .int .i64 4, .int .i64 1, .int .i64 2, .int .i64 4, .int .i64 0, .bool false, .int .i64 4, .int .i64 0, .int .i64 4, .int .i64 1, .int .i64 2, .int .i64 1, .int .i64 1, .int .i64 4, .int .i64 0, .bool false, .int .i64 3, .int .i64 0, .int .i64 6, .int .i64 1, .int .i64 2, .int .i64 1, .int .i64 0, .int .i64 4, .int .i64 0, .bool false, .int .i64 2, .int .i64 0] 60 0 0 0 false),
    (6, .row [.int .i64 0] 3 0 0 0 true)],
  next := 7, ro := 7, glob := 4, ret := .tuple [.slice 8 0 0 3 10 none, .int .i64 0],
  post := [(8, .row [.int .i64 0, .int .i64 1, .int .i64 4, .int .i64 1, .int .i64 2, .int .i64 4, .int .i64 0, .bool false, .int .i64 4, .int .i64 0, .int .i64 4, .int .i64 1, .int .i64 2, .int .i64 1, .int .i64 1, .int .i64 4, .int .i64 0, .bool false, .int .i64 3, .int .i64 0, .int .i64 6, .int .i64 1, .int .i64 2, .int .i64 1, .int .i64 0, .int .i64 4, .int .i64 0, .bool false, .int .i64 2, .int .i64 0] 60 0 0 0 false)], next' := 85 }
theorem run12 : E2.Fact.ok2 fact12 (E2.envOf Tryz.prog (E2.specR [])) 1000 = true := by kernel_rfl
theorem good12 : E2.SpecOk Tryz.prog fact12.f fact12.tryR := E2.goodR_fact Tryz.checked.mixed tables E2.goodR_nil (by kernel_rfl) run12
def fact13 : E2.Fact := {
  f := 113, args := [.func (.func 115) [] [.ptr 4 0 0 2], .slice 5 0 0 3 10 none],
  pre := [(4, .row [.int .i64 1, .int .i64 1] 23 0 0 0 true),
    (5, .row [.int .i64 0, .int .i64 1, .int .i64 4, .int .i64 1, .int .i64 2, .int .i64 4, .int .i64 0, .bool false, .int .i64 4, .int .i64 0, .int .i64 4, .int .i64 1, .int .i64 2, .int .i64 1, .int .i64 1, .int .i64 4, .int .i64 0, .bool false, .int .i64 3, .int .i64 0, .int .i64 6, .int .i64 1, .int .i64 2, .int .i64 1, .int .i64 0, .int .i64 4, .int .i64 0, .bool false, .int .i64 2, .int .i64 0] 60 0 0 0 false)],
  next := 6, ro := 6, glob := 4, ret := .tuple [.slice 7 0 0 3 10 none, .int .i64 0],
  post := [(7, .row [.int .i64 0, .int .i64 1, .int .i64 4, .int .i64 1, .int .i64 2, .int .i64 4, .int .i64 0, .bool false, .int .i64 4, .int .i64 0, .int .i64 4, .int .i64 1, .int .i64 2, .int .i64 1, .int .i64 1, .int .i64 4, .int .i64 0, .bool false, .int .i64 3, .int .i64 0, .int .i64 6, .int .i64 1, .int .i64 2, .int .i64 1, .int .i64 0, .int .i64 4, .int .i64 0, .bool false, .int .i64 2, .int .i64 0] 60 0 0 0 false)], next' := 87 }
theorem run13 : E2.Fact.ok2 fact13 (E2.envOf Tryz.prog (E2.specR [])) 1000 = true := by kernel_rfl
theorem good13 : E2.SpecOk Tryz.prog fact13.f fact13.tryR := E2.goodR_fact Tryz.checked.mixed tables E2.goodR_nil (by kernel_rfl) run13
def fact14 : E2.Fact := {
  f := 37, args := [.slice 4 2 0 3 10 none, .agg [.int .i64 0, .int .i64 1, .int .i64 0, .bool false, .bool true, .int .i64 1, .int .i64 1, .int .i64 0, .int .i64 0, .int .i64 0, .int .i64 0], .slice 5 0 0 5 1 none],
  pre := [(4, .row [.int .i64 0, .int .i64 1, .int .i64 2, .int .i64 1, .int .i64 0, .int .i64 4, .int .i64 0, .bool false, .int .i64 2, .int .i64 0, .int .i64 2, .int .i64 1, .int .i64 2, .int .i64 1, .int .i64 1, .int .i64 4, .int .i64 0, .bool false, .int .i64 3, .int .i64 0, .int .i64 4, .int .i64 1, .int .i64 4, .int .i64 1, .int .i64 2, .int .i64 4, .int .i64 0, .bool false, .int .i64 4, .int .i64 0] 60 2 0 0 false),
    (5, .row [.func (.func 78) [] [], .func (.func 79) [] [], .func (.func 68) [] [], .func (.func 71) [] [], .func (.func 73) [] []] 162 0 0 0 false)],
  next := 6, ro := 6, glob := 4, ret := .tuple [.slice 314 0 0 3 10 none, .int .i64 0],
  post := [(314, .row [.int .i64 0, .int .i64 1, .int .i64 4, .int .i64 1, .int .i64 2, .int .i64 4, .int .i64 0, .bool false, .int .i64 4, .int .i64 0, .int .i64 4, .int .i64 1, .int .i64 2, .int .i64 1, .int .i64 1, .int .i64 4, .int .i64 0, .bool false, .int .i64 3, .int .i64 0, .int .i64 6, .int .i64 1, .int .i64 2, .int .i64 1, .int .i64 0, .int .i64 4, .int .i64 0, .bool false, .int .i64 2, .int .i64 0] 60 0 0 0 false)], next' := 395 }
theorem run14 : E2.Fact.ok2 fact14 (E2.envOf Tryz.prog (E2.specR [fact10, fact11, fact12, fact13])) 1000 = true := by kernel_rfl
theorem good14 : E2.SpecOk Tryz.prog fact14.f fact14.tryR := E2.goodR_fact Tryz.checked.mixed tables (E2.goodR_cons good10 (E2.goodR_cons good11 (E2.goodR_cons good12 (E2.goodR_cons good13 E2.goodR_nil)))) (by kernel_rfl) run14
def fact15 : E2.Fact := {
  f := 6, args := [.agg [.str [97], .slice 4 0 0 5 17 (some 5)], .agg [.int .i64 0, .int .i64 1, .int .i64 0, .bool false, .bool true, .int .i64 1, .int .i64 1, .int .i64 0, .int .i64 0, .int .i64 0, .int .i64 0]],
  pre := [(0, .row [.bool false, .bool false, .bool false, .bool false, .bool false, .bool false, .bool false, .bool false, .bool false, .bool false, .bool false, .bool false, .bool true, .bool true, .bool true, .bool true, .bool false, .bool false, .bool false, .bool false, .bool false, .bool false, .bool false, .bool false, .bool true, .bool false, .bool false, .bool false, .bool false, .bool false, .bool false, .bool false, .bool false, .bool false, .bool false, .bool false, .bool false, .bool false, .bool false, .bool false, .bool false, .bool false, .bool false, .bool false, .bool false, .bool false, .bool false, .bool false, .bool false, .bool true, .bool true, .bool true, .bool true, .bool true, .bool true, .bool false, .bool false, .bool false, .bool false, .bool false, .bool false, .bool false, .bool false, .bool false, .bool false, .bool false, .bool false, .bool true, .bool true, .bool false, .bool false, .bool false, .bool false, .bool false, .bool false, .bool false, .bool false, .bool false, .bool false, .bool false, .bool false, .bool true, .bool true, .bool false, .bool false, .bool false, .bool false, .bool false, .bool false, .bool false, .bool false, .bool false, .bool false, .bool false, .bool false, .bool true, .bool false, .bool false, .bool false, .bool false, .bool false, .bool false, .bool false, .bool false, .bool false, .bool true, .bool false, .bool false, .bool false, .bool false, .bool false, .bool false, .bool false, .bool false, .bool false, .bool false, .bool false, .bool false, .bool false, .bool false, .bool false, .bool false, .bool false, .bool false, .bool false, .bool false, .bool false, .bool false, .bool false, .bool true, .bool false, .bool false, .bool false, .bool false, .bool false, .bool false, .bool false, .bool false, .bool false, .bool false, .bool false, .bool false, .bool false, .bool false, .bool false, .bool false, .bool false, .bool false, .bool false, .bool false, .bool false, .bool false, .bool false, .bool false, .bool false, .bool false] 145 0 0 0 false),
    (3, .row [.int .i64 0, .int .i64 1, .int .i64 1, .int .i64 2, .int .i64 1, .int .i64 3, .int .i64 3, .int .i64 4, .int .i64 4, .int .i64 3, .int .i64 3, .int .i64 4, .int .i64 4] 283 0 0 0 false),
    (4, .row [.int .i64 7, .int .i64 0, .int .i64 0, .int .i64 0, .bool false, .int .i64 0, .bool false, .bool false, .int .i64 0, .int .i64 0, .int .i64 0, .int .i64 0, .bool false, .int .i64 0, .int .i64 0, .int .i64 0, .int .i64 3, .int .i64 5, .int .i64 0, .int .i64 0, .int .i64 0, .bool false, .int .i64 0, .bool false, .bool false, .int .i64 2, .int .i64 2, .int .i64 2, .int .i64 2, .bool false, .int .i64 0, .int .i64 0, .int .i64 0, .int .i64 0, .int .i64 1, .int .i64 4, .int .i64 4, .int .i64 0, .bool false, .int .i64 0, .bool false, .bool false, .int .i64 0, .int .i64 0, .int .i64 0, .int .i64 0, .bool false, .int .i64 0, .int .i64 0, .int .i64 0, .int .i64 0, .int .i64 1, .int .i64 4, .int .i64 5, .int .i64 0, .bool false, .int .i64 0, .bool false, .bool false, .int .i64 0, .int .i64 0, .int .i64 0, .int .i64 0, .bool false, .int .i64 0, .int .i64 0, .int .i64 0, .int .i64 0, .int .i64 1, .int .i64 3, .int .i64 6, .int .i64 0, .bool false, .int .i64 0, .bool false, .bool false, .int .i64 0, .int .i64 0, .int .i64 0, .int .i64 0, .bool false, .int .i64 0, .int .i64 0, .int .i64 0, .int .i64 0] 50 0 0 0 true)],
  next := 5, ro := 5, glob := 4, ret := .tuple [.slice 2120 0 0 3 10 none, .agg [.int .i64 0, .int .i64 0]],
  post := [(2120, .row [.int .i64 0, .int .i64 1, .int .i64 4, .int .i64 1, .int .i64 2, .int .i64 4, .int .i64 0, .bool false, .int .i64 4, .int .i64 0, .int .i64 4, .int .i64 1, .int .i64 2, .int .i64 1, .int .i64 1, .int .i64 4, .int .i64 0, .bool false, .int .i64 3, .int .i64 0, .int .i64 6, .int .i64 1, .int .i64 2, .int .i64 1, .int .i64 0, .int .i64 4, .int .i64 0, .bool false, .int .i64 2, .int .i64 0] 60 0 0 0 false)], next' := 2201 }
theorem run15 : E2.Fact.ok2 fact15 (E2.envOf Tryz.prog (E2.specR [fact0, fact1, fact4, fact8, fact9, fact14])) 1000 = true := by kernel_rfl
theorem good15 : E2.SpecOk Tryz.prog fact15.f fact15.tryR := E2.goodR_fact Tryz.checked.mixed tables (E2.goodR_cons good0 (E2.goodR_cons good1 (E2.goodR_cons good4 (E2.goodR_cons good8 (E2.goodR_cons good9 (E2.goodR_cons good14 E2.goodR_nil)))))) (by kernel_rfl) run15
def fact16 : E2.Fact := {
  f := 113, args := [.func (.func 129) [] [.ptr 4 0 0 1], .slice 5 0 0 3 10 none],
  pre := [(4, .row [.func (.func 132) [] [.ptr 6 0 0 3]] 212 0 0 0 true),
    (5, .row [.int .i64 0, .int .i64 1, .int .i64 2, .int .i64 1, .int .i64 0, .int .i64 4, .int .i64 0, .bool false, .int .i64 2, .int .i64 0, .int .i64 2, .int .i64 1, .int .i64 2, .int .i64 1, .int .i64 1, .int .i64 4, .int .i64 0, .bool false, .int .i64 3, .int .i64 0, .int .i64 4, .int .i64 1, .int .i64 4, .int .i64 1, .int .i64 2, .int .i64 4, .int .i64 0, .bool false, .int .i64 4, .int .i64 0] 60 0 0 0 false),
    (6, .row [.int .i64 0, .int .i64 4, .int .i64 0] 58 0 0 0 true)],
  next := 7, ro := 7, glob := 4, ret := .tuple [.slice 8 0 0 3 10 none, .int .i64 0],
  post := [(8, .row [.int .i64 0, .int .i64 1, .int .i64 2, .int .i64 1, .int .i64 0, .int .i64 4, .int .i64 0, .bool false, .int .i64 2, .int .i64 0, .int .i64 2, .int .i64 1, .int .i64 2, .int .i64 1, .int .i64 6, .int .i64 3, .int .i64 0, .bool false, .int .i64 3, .int .i64 0, .int .i64 4, .int .i64 1, .int .i64 4, .int .i64 1, .int .i64 5, .int .i64 3, .int .i64 0, .bool false, .int .i64 4, .int .i64 0] 60 0 0 0 false)], next' := 103 }
theorem run16 : E2.Fact.ok2 fact16 (E2.envOf Tryz.prog (E2.specR [])) 1000 = true := by kernel_rfl
theorem good16 : E2.SpecOk Tryz.prog fact16.f fact16.tryR := E2.goodR_fact Tryz.checked.mixed tables E2.goodR_nil (by kernel_rfl) run16
def fact17 : E2.Fact := {
  f := 19, args := [.slice 4 0 0 3 10 none],
  pre := [(4, .row [.int .i64 0, .int .i64 1, .int .i64 2, .int .i64 1, .int .i64 0, .int .i64 4, .int .i64 0, .bool false, .int .i64 2, .int .i64 0, .int .i64 2, .int .i64 1, .int .i64 2, .int .i64 1, .int .i64 6, .int .i64 3, .int .i64 0, .bool false, .int .i64 3, .int .i64 0, .int .i64 4, .int .i64 1, .int .i64 4, .int .i64 1, .int .i64 5, .int .i64 3, .int .i64 0, .bool false, .int .i64 4, .int .i64 0] 60 0 0 0 false)],
  next := 5, ro := 5, glob := 4, ret := .tuple [.int .i64 0, .int .i64 0],
  post := [], next' := 64 }
theorem run17 : E2.Fact.ok2 fact17 (E2.envOf Tryz.prog (E2.specR [])) 1000 = true := by kernel_rfl
theorem good17 : E2.SpecOk Tryz.prog fact17.f fact17.tryR := E2.goodR_fact Tryz.checked.mixed tables E2.goodR_nil (by kernel_rfl) run17
def fact18 : E2.Fact := {
  f := 113, args := [.func (.func 129) [] [.ptr 4 0 0 1], .slice 5 0 0 3 10 none],
  pre := [(4, .row [.func (.func 111) [] [.ptr 6 0 0 1]] 212 0 0 0 true),
    (5, .row [.int .i64 0, .int .i64 1, .int .i64 2, .int .i64 1, .int .i64 0, .int .i64 4, .int .i64 0, .bool false, .int .i64 2, .int .i64 0, .int .i64 2, .int .i64 1, .int .i64 2, .int .i64 1, .int .i64 6, .int .i64 3, .int .i64 0, .bool false, .int .i64 3, .int .i64 0, .int .i64 4, .int .i64 1, .int .i64 4, .int .i64 1, .int .i64 5, .int .i64 3, .int .i64 0, .bool false, .int .i64 4, .int .i64 0] 60 0 0 0 false),
    (6, .row [.int .i64 0] 3 0 0 0 true)],
  next := 7, ro := 7, glob := 4, ret := .tuple [.slice 8 0 0 3 10 none, .int .i64 0],
  post := [(8, .row [.int .i64 0, .int .i64 1, .int .i64 2, .int .i64 1, .int .i64 0, .int .i64 4, .int .i64 0, .bool false, .int .i64 2, .int .i64 0, .int .i64 2, .int .i64 1, .int .i64 2, .int .i64 1, .int .i64 6, .int .i64 3, .int .i64 0, .bool false, .int .i64 3, .int .i64 0, .int .i64 4, .int .i64 1, .int .i64 4, .int .i64 1, .int .i64 5, .int .i64 3, .int .i64 0, .bool false, .int .i64 4, .int .i64 0] 60 0 0 0 false)], next' := 85 }
theorem run18 : E2.Fact.ok2 fact18 (E2.envOf Tryz.prog (E2.specR [])) 1000 = true := by kernel_rfl
theorem good18 : E2.SpecOk Tryz.prog fact18.f fact18.tryR := E2.goodR_fact Tryz.checked.mixed tables E2.goodR_nil (by kernel_rfl) run18
end Go.Proofs.YthmjalcblddfkaaGreatDoor.canonKnown
