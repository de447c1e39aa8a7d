/- CALLS THAT THE LAW CanonKnown MAKES, each with what it comes to: run by the kernel over E2, part 5. Made by program. No condition. -/
import Derived.Test.YthmjalcblddfkaaGreatDoorCanonKnownT
import Derived.Test.YthmjalcblddfkaaGreatDoorCanonKnownF1
import Derived.Test.YthmjalcblddfkaaGreatDoorCanonKnownF2
import Derived.Test.YthmjalcblddfkaaGreatDoorCanonKnownF4
namespace Go.Proofs.YthmjalcblddfkaaGreatDoor.canonKnown
open Go
set_option maxRecDepth 100000
def fact36 : E2.Fact := {
  f := 113, args := [.func (.func 115) [] [.ptr 4 0 0 2], .slice 5 0 0 3 10 none],
  pre := [(4, .row [.int .i64 1, .int .i64 1] 23 0 0 0 true),
    (5, .row [.int .i64 0, .int .i64 1, .int .i64 2, .int .i64 1, .int .i64 4, .int .i64 4, .int .i64 0, .bool false, .int .i64 2, .int .i64 0, .int .i64 2, .int .i64 1, .int .i64 2, .int .i64 1, .int .i64 5, .int .i64 4, .int .i64 0, .bool false, .int .i64 3, .int .i64 0, .int .i64 4, .int .i64 1, .int .i64 4, .int .i64 1, .int .i64 6, .int .i64 4, .int .i64 0, .bool false, .int .i64 4, .int .i64 0] 60 0 0 0 false)],
  next := 6, ro := 6, glob := 4, ret := .tuple [.slice 7 0 0 3 10 none, .int .i64 0],
  post := [(7, .row [.int .i64 0, .int .i64 1, .int .i64 2, .int .i64 1, .int .i64 4, .int .i64 4, .int .i64 0, .bool false, .int .i64 2, .int .i64 0, .int .i64 2, .int .i64 1, .int .i64 2, .int .i64 1, .int .i64 5, .int .i64 4, .int .i64 0, .bool false, .int .i64 3, .int .i64 0, .int .i64 4, .int .i64 1, .int .i64 4, .int .i64 1, .int .i64 6, .int .i64 4, .int .i64 0, .bool false, .int .i64 4, .int .i64 0] 60 0 0 0 false)], next' := 87 }
theorem run36 : E2.Fact.ok2 fact36 (E2.envOf Tryz.prog (E2.specR [])) 1000 = true := by kernel_rfl
theorem good36 : E2.SpecOk Tryz.prog fact36.f fact36.tryR := E2.goodR_fact Tryz.checked.mixed tables E2.goodR_nil (by kernel_rfl) run36
def fact37 : E2.Fact := {
  f := 6, args := [.agg [.str [97], .slice 4 0 0 5 17 (some 5)], .agg [.int .i64 0, .int .i64 1, .int .i64 4, .bool false, .bool false, .int .i64 1, .int .i64 1, .int .i64 0, .int .i64 0, .int .i64 0, .int .i64 0]],
  pre := [(0, .row [.bool false, .bool false, .bool false, .bool false, .bool false, .bool false, .bool false, .bool false, .bool false, .bool false, .bool false, .bool false, .bool true, .bool true, .bool true, .bool true, .bool false, .bool false, .bool false, .bool false, .bool false, .bool false, .bool false, .bool false, .bool true, .bool false, .bool false, .bool false, .bool false, .bool false, .bool false, .bool false, .bool false, .bool false, .bool false, .bool false, .bool false, .bool false, .bool false, .bool false, .bool false, .bool false, .bool false, .bool false, .bool false, .bool false, .bool false, .bool false, .bool false, .bool true, .bool true, .bool true, .bool true, .bool true, .bool true, .bool false, .bool false, .bool false, .bool false, .bool false, .bool false, .bool false, .bool false, .bool false, .bool false, .bool false, .bool false, .bool true, .bool true, .bool false, .bool false, .bool false, .bool false, .bool false, .bool false, .bool false, .bool false, .bool false, .bool false, .bool false, .bool false, .bool true, .bool true, .bool false, .bool false, .bool false, .bool false, .bool false, .bool false, .bool false, .bool false, .bool false, .bool false, .bool false, .bool false, .bool true, .bool false, .bool false, .bool false, .bool false, .bool false, .bool false, .bool false, .bool false, .bool false, .bool true, .bool false, .bool false, .bool false, .bool false, .bool false, .bool false, .bool false, .bool false, .bool false, .bool false, .bool false, .bool false, .bool false, .bool false, .bool false, .bool false, .bool false, .bool false, .bool false, .bool false, .bool false, .bool false, .bool false, .bool true, .bool false, .bool false, .bool false, .bool false, .bool false, .bool false, .bool false, .bool false, .bool false, .bool false, .bool false, .bool false, .bool false, .bool false, .bool false, .bool false, .bool false, .bool false, .bool false, .bool false, .bool false, .bool false, .bool false, .bool false, .bool false, .bool false] 145 0 0 0 false),
    (3, .row [.int .i64 0, .int .i64 1, .int .i64 1, .int .i64 2, .int .i64 1, .int .i64 3, .int .i64 3, .int .i64 4, .int .i64 4, .int .i64 3, .int .i64 3, .int .i64 4, .int .i64 4] 283 0 0 0 false),
    (4, .row [.int .i64 7, .int .i64 0, .int .i64 0, .int .i64 0, .bool false, .int .i64 0, .bool false, .bool false, .int .i64 0, .int .i64 0, .int .i64 0, .int .i64 0, .bool false, .int .i64 0, .int .i64 0, .int .i64 0, .int .i64 3, .int .i64 5, .int .i64 0, .int .i64 0, .int .i64 0, .bool false, .int .i64 0, .bool false, .bool false, .int .i64 2, .int .i64 2, .int .i64 2, .int .i64 2, .bool false, .int .i64 0, .int .i64 0, .int .i64 0, .int .i64 0, .int .i64 1, .int .i64 4, .int .i64 4, .int .i64 0, .bool false, .int .i64 0, .bool false, .bool false, .int .i64 0, .int .i64 0, .int .i64 0, .int .i64 0, .bool false, .int .i64 0, .int .i64 0, .int .i64 0, .int .i64 0, .int .i64 1, .int .i64 4, .int .i64 5, .int .i64 0, .bool false, .int .i64 0, .bool false, .bool false, .int .i64 0, .int .i64 0, .int .i64 0, .int .i64 0, .bool false, .int .i64 0, .int .i64 0, .int .i64 0, .int .i64 0, .int .i64 1, .int .i64 3, .int .i64 6, .int .i64 0, .bool false, .int .i64 0, .bool false, .bool false, .int .i64 0, .int .i64 0, .int .i64 0, .int .i64 0, .bool false, .int .i64 0, .int .i64 0, .int .i64 0, .int .i64 0] 50 0 0 0 true)],
  next := 5, ro := 5, glob := 4, ret := .tuple [.slice 2025 0 0 3 10 none, .agg [.int .i64 0, .int .i64 0]],
  post := [(2025, .row [.int .i64 0, .int .i64 1, .int .i64 2, .int .i64 1, .int .i64 4, .int .i64 4, .int .i64 0, .bool false, .int .i64 2, .int .i64 0, .int .i64 2, .int .i64 1, .int .i64 2, .int .i64 1, .int .i64 5, .int .i64 4, .int .i64 0, .bool false, .int .i64 3, .int .i64 0, .int .i64 4, .int .i64 1, .int .i64 4, .int .i64 1, .int .i64 6, .int .i64 4, .int .i64 0, .bool false, .int .i64 4, .int .i64 0] 60 0 0 0 false)], next' := 2106 }
theorem run37 : E2.Fact.ok2 fact37 (E2.envOf Tryz.prog (E2.specR [fact0, fact1, fact4, fact8, fact9, fact10, fact34, fact35, fact36])) 1000 = true := by kernel_rfl
theorem good37 : E2.SpecOk Tryz.prog fact37.f fact37.tryR := E2.goodR_fact Tryz.checked.mixed tables (E2.goodR_cons good0 (E2.goodR_cons good1 (E2.goodR_cons good4 (E2.goodR_cons good8 (E2.goodR_cons good9 (E2.goodR_cons good10 (E2.goodR_cons good34 (E2.goodR_cons good35 (E2.goodR_cons good36 E2.goodR_nil))))))))) (by kernel_rfl) run37
def fact38 : E2.Fact := {
  f := 21, args := [.slice 4 0 0 3 10 none, .slice 5 0 0 3 10 none, .agg [.int .i64 0, .int .i64 1]],
  pre := [(4, .row [.int .i64 0, .int .i64 1, .int .i64 2, .int .i64 1, .int .i64 0, .int .i64 4, .int .i64 0, .bool false, .int .i64 2, .int .i64 0, .int .i64 2, .int .i64 1, .int .i64 2, .int .i64 1, .int .i64 1, .int .i64 4, .int .i64 0, .bool false, .int .i64 3, .int .i64 0, .int .i64 4, .int .i64 1, .int .i64 4, .int .i64 1, .int .i64 2, .int .i64 4, .int .i64 0, .bool false, .int .i64 4, .int .i64 0] 60 0 0 0 false),
    (5, .row [.int .i64 0, .int .i64 1, .int .i64 2, .int .i64 1, .int .i64 4, .int .i64 4, .int .i64 0, .bool false, .int .i64 2, .int .i64 0, .int .i64 2, .int .i64 1, .int .i64 2, .int .i64 1, .int .i64 5, .int .i64 4, .int .i64 0, .bool false, .int .i64 3, .int .i64 0, .int .i64 4, .int .i64 1, .int .i64 4, .int .i64 1, .int .i64 6, .int .i64 4, .int .i64 0, .bool false, .int .i64 4, .int .i64 0] 60 0 0 0 false)],
  next := 6, ro := 6, glob := 4, ret := .tuple [.agg [.int .i64 1, .int .i64 1], .bool true],
  post := [], next' := 174 }
theorem run38 : E2.Fact.ok2 fact38 (E2.envOf Tryz.prog (E2.specR [fact10, fact35])) 1000 = true := by kernel_rfl
theorem good38 : E2.SpecOk Tryz.prog fact38.f fact38.tryR := E2.goodR_fact Tryz.checked.mixed tables (E2.goodR_cons good10 (E2.goodR_cons good35 E2.goodR_nil)) (by kernel_rfl) run38
def fact39 : E2.Fact := {
  f := 113, args := [.func (.func 129) [] [.ptr 4 0 0 1], .slice 5 0 0 3 10 none],
  pre := [(4, .row [.func (.func 111) [] [.ptr 6 0 0 1]] 212 0 0 0 true),
    (5, .row [.int .i64 0, .int .i64 1, .int .i64 2, .int .i64 1, .int .i64 0, .int .i64 4, .int .i64 0, .bool false, .int .i64 2, .int .i64 0, .int .i64 2, .int .i64 1, .int .i64 2, .int .i64 1, .int .i64 6, .int .i64 3, .int .i64 0, .bool false, .int .i64 3, .int .i64 0, .int .i64 4, .int .i64 1, .int .i64 4, .int .i64 1, .int .i64 5, .int .i64 3, .int .i64 0, .bool false, .int .i64 4, .int .i64 0] 60 0 0 0 false),
    (6, .row [.int .i64 4] 3 0 0 0 true)],
  next := 7, ro := 7, glob := 4, ret := .tuple [.slice 8 0 0 3 10 none, .int .i64 0],
  post := [(8, .row [.int .i64 0, .int .i64 1, .int .i64 2, .int .i64 1, .int .i64 4, .int .i64 4, .int .i64 0, .bool false, .int .i64 2, .int .i64 0, .int .i64 2, .int .i64 1, .int .i64 2, .int .i64 1, .int .i64 3, .int .i64 4, .int .i64 0, .bool false, .int .i64 3, .int .i64 0, .int .i64 4, .int .i64 1, .int .i64 4, .int .i64 1, .int .i64 2, .int .i64 4, .int .i64 0, .bool false, .int .i64 4, .int .i64 0] 60 0 0 0 false)], next' := 85 }
theorem run39 : E2.Fact.ok2 fact39 (E2.envOf Tryz.prog (E2.specR [])) 1000 = true := by kernel_rfl
theorem good39 : E2.SpecOk Tryz.prog fact39.f fact39.tryR := E2.goodR_fact Tryz.checked.mixed tables E2.goodR_nil (by kernel_rfl) run39
def fact40 : E2.Fact := {
  f := 19, args := [.slice 4 0 0 3 10 none],
  pre := [(4, .row [.int .i64 0, .int .i64 1, .int .i64 2, .int .i64 1, .int .i64 4, .int .i64 4, .int .i64 0, .bool false, .int .i64 2, .int .i64 0, .int .i64 2, .int .i64 1, .int .i64 2, .int .i64 1, .int .i64 3, .int .i64 4, .int .i64 0, .bool false, .int .i64 3, .int .i64 0, .int .i64 4, .int .i64 1, .int .i64 4, .int .i64 1, .int .i64 2, .int .i64 4, .int .i64 0, .bool false, .int .i64 4, .int .i64 0] 60 0 0 0 false)],
  next := 5, ro := 5, glob := 4, ret := .tuple [.int .i64 0, .int .i64 0],
  post := [], next' := 64 }
theorem run40 : E2.Fact.ok2 fact40 (E2.envOf Tryz.prog (E2.specR [])) 1000 = true := by kernel_rfl
theorem good40 : E2.SpecOk Tryz.prog fact40.f fact40.tryR := E2.goodR_fact Tryz.checked.mixed tables E2.goodR_nil (by kernel_rfl) run40
def fact41 : E2.Fact := {
  f := 113, args := [.func (.func 115) [] [.ptr 4 0 0 2], .slice 5 0 0 3 10 none],
  pre := [(4, .row [.int .i64 1, .int .i64 1] 23 0 0 0 true),
    (5, .row [.int .i64 0, .int .i64 1, .int .i64 2, .int .i64 1, .int .i64 4, .int .i64 4, .int .i64 0, .bool false, .int .i64 2, .int .i64 0, .int .i64 2, .int .i64 1, .int .i64 2, .int .i64 1, .int .i64 3, .int .i64 4, .int .i64 0, .bool false, .int .i64 3, .int .i64 0, .int .i64 4, .int .i64 1, .int .i64 4, .int .i64 1, .int .i64 2, .int .i64 4, .int .i64 0, .bool false, .int .i64 4, .int .i64 0] 60 0 0 0 false)],
  next := 6, ro := 6, glob := 4, ret := .tuple [.slice 7 0 0 3 10 none, .int .i64 0],
  post := [(7, .row [.int .i64 0, .int .i64 1, .int .i64 2, .int .i64 1, .int .i64 4, .int .i64 4, .int .i64 0, .bool false, .int .i64 2, .int .i64 0, .int .i64 2, .int .i64 1, .int .i64 2, .int .i64 1, .int .i64 3, .int .i64 4, .int .i64 0, .bool false, .int .i64 3, .int .i64 0, .int .i64 4, .int .i64 1, .int .i64 4, .int .i64 1, .int .i64 2, .int .i64 4, .int .i64 0, .bool false, .int .i64 4, .int .i64 0] 60 0 0 0 false)], next' := 87 }
theorem run41 : E2.Fact.ok2 fact41 (E2.envOf Tryz.prog (E2.specR [])) 1000 = true := by kernel_rfl
theorem good41 : E2.SpecOk Tryz.prog fact41.f fact41.tryR := E2.goodR_fact Tryz.checked.mixed tables E2.goodR_nil (by kernel_rfl) run41
def fact42 : E2.Fact := {
  f := 37, args := [.slice 4 0 0 3 10 none, .agg [.int .i64 0, .int .i64 1, .int .i64 0, .bool false, .bool true, .int .i64 0, .int .i64 0, .int .i64 0, .int .i64 0, .int .i64 0, .int .i64 0], .slice 5 0 0 2 1 (some 2)],
  pre := [(4, .row [.int .i64 0, .int .i64 1, .int .i64 2, .int .i64 1, .int .i64 0, .int .i64 4, .int .i64 0, .bool false, .int .i64 2, .int .i64 0, .int .i64 2, .int .i64 1, .int .i64 2, .int .i64 1, .int .i64 1, .int .i64 4, .int .i64 0, .bool false, .int .i64 3, .int .i64 0, .int .i64 4, .int .i64 1, .int .i64 4, .int .i64 1, .int .i64 2, .int .i64 4, .int .i64 0, .bool false, .int .i64 4, .int .i64 0] 60 0 0 0 false),
    (5, .row [.func (.func 78) [] [], .func (.func 79) [] []] 162 0 0 0 true)],
  next := 6, ro := 6, glob := 4, ret := .tuple [.slice 71 0 0 3 10 none, .int .i64 0],
  post := [(71, .row [.int .i64 0, .int .i64 1, .int .i64 4, .int .i64 1, .int .i64 2, .int .i64 4, .int .i64 0, .bool false, .int .i64 4, .int .i64 0, .int .i64 4, .int .i64 1, .int .i64 2, .int .i64 1, .int .i64 1, .int .i64 4, .int .i64 0, .bool false, .int .i64 3, .int .i64 0, .int .i64 6, .int .i64 1, .int .i64 2, .int .i64 1, .int .i64 0, .int .i64 4, .int .i64 0, .bool false, .int .i64 2, .int .i64 0] 60 0 0 0 false)], next' := 110 }
theorem run42 : E2.Fact.ok2 fact42 (E2.envOf Tryz.prog (E2.specR [fact10])) 1000 = true := by kernel_rfl
theorem good42 : E2.SpecOk Tryz.prog fact42.f fact42.tryR := E2.goodR_fact Tryz.checked.mixed tables (E2.goodR_cons good10 E2.goodR_nil) (by kernel_rfl) run42
def fact43 : E2.Fact := {
  f := 113, args := [.func (.func 129) [] [.ptr 4 0 0 1], .slice 5 0 0 3 10 none],
  pre := [(4, .row [.func (.func 111) [] [.ptr 6 0 0 1]] 212 0 0 0 true),
    (5, .row [.int .i64 0, .int .i64 1, .int .i64 4, .int .i64 1, .int .i64 2, .int .i64 4, .int .i64 0, .bool false, .int .i64 4, .int .i64 0, .int .i64 4, .int .i64 1, .int .i64 2, .int .i64 1, .int .i64 1, .int .i64 4, .int .i64 0, .bool false, .int .i64 3, .int .i64 0, .int .i64 6, .int .i64 1, .int .i64 2, .int .i64 1, .int .i64 0, .int .i64 4, .int .i64 0, .bool false, .int .i64 2, .int .i64 0] 60 0 0 0 false),
    (6, .row [.int .i64 2] 3 0 0 0 true)],
  next := 7, ro := 7, glob := 4, ret := .tuple [.slice 8 0 0 3 10 none, .int .i64 0],
  post := [(8, .row [.int .i64 0, .int .i64 1, .int .i64 4, .int .i64 1, .int .i64 4, .int .i64 4, .int .i64 0, .bool false, .int .i64 4, .int .i64 0, .int .i64 4, .int .i64 1, .int .i64 2, .int .i64 1, .int .i64 3, .int .i64 4, .int .i64 0, .bool false, .int .i64 3, .int .i64 0, .int .i64 6, .int .i64 1, .int .i64 2, .int .i64 1, .int .i64 2, .int .i64 4, .int .i64 0, .bool false, .int .i64 2, .int .i64 0] 60 0 0 0 false)], next' := 85 }
theorem run43 : E2.Fact.ok2 fact43 (E2.envOf Tryz.prog (E2.specR [])) 1000 = true := by kernel_rfl
theorem good43 : E2.SpecOk Tryz.prog fact43.f fact43.tryR := E2.goodR_fact Tryz.checked.mixed tables E2.goodR_nil (by kernel_rfl) run43
def fact44 : E2.Fact := {
  f := 19, args := [.slice 4 0 0 3 10 none],
  pre := [(4, .row [.int .i64 0, .int .i64 1, .int .i64 4, .int .i64 1, .int .i64 4, .int .i64 4, .int .i64 0, .bool false, .int .i64 4, .int .i64 0, .int .i64 4, .int .i64 1, .int .i64 2, .int .i64 1, .int .i64 3, .int .i64 4, .int .i64 0, .bool false, .int .i64 3, .int .i64 0, .int .i64 6, .int .i64 1, .int .i64 2, .int .i64 1, .int .i64 2, .int .i64 4, .int .i64 0, .bool false, .int .i64 2, .int .i64 0] 60 0 0 0 false)],
  next := 5, ro := 5, glob := 4, ret := .tuple [.int .i64 0, .int .i64 0],
  post := [], next' := 64 }
theorem run44 : E2.Fact.ok2 fact44 (E2.envOf Tryz.prog (E2.specR [])) 1000 = true := by kernel_rfl
theorem good44 : E2.SpecOk Tryz.prog fact44.f fact44.tryR := E2.goodR_fact Tryz.checked.mixed tables E2.goodR_nil (by kernel_rfl) run44
end Go.Proofs.YthmjalcblddfkaaGreatDoor.canonKnown
