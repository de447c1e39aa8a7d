/- CALLS THAT THE LAW CanonKnown MAKES, each with what it comes to: run by the kernel over E2, part 6. Made by program. No condition. -/
import Derived.Test.YthmjalcblddfkaaGreatDoorCanonKnownT
import Derived.Test.YthmjalcblddfkaaGreatDoorCanonKnownF2
import Derived.Test.YthmjalcblddfkaaGreatDoorCanonKnownF3
import Derived.Test.YthmjalcblddfkaaGreatDoorCanonKnownF4
import Derived.Test.YthmjalcblddfkaaGreatDoorCanonKnownF5
namespace Go.Proofs.YthmjalcblddfkaaGreatDoor.canonKnown
open Go
set_option maxRecDepth 100000
def fact45 : E2.Fact := {
  f := 113, args := [.func (.func 115) [] [.ptr 4 0 0 2], .slice 5 0 0 3 10 none],
  pre := [(4, .row [.int .i64 1, .int .i64 1] 23 0 0 0 true),
    (5, .row [.int .i64 0, .int .i64 1, .int .i64 4, .int .i64 1, .int .i64 4, .int .i64 4, .int .i64 0, .bool false, .int .i64 4, .int .i64 0, .int .i64 4, .int .i64 1, .int .i64 2, .int .i64 1, .int .i64 3, .int .i64 4, .int .i64 0, .bool false, .int .i64 3, .int .i64 0, .int .i64 6, .int .i64 1, .int .i64 2, .int .i64 1, .int .i64 2, .int .i64 4, .int .i64 0, .bool false, .int .i64 2, .int .i64 0] 60 0 0 0 false)],
  next := 6, ro := 6, glob := 4, ret := .tuple [.slice 7 0 0 3 10 none, .int .i64 0],
  post := [(7, .row [.int .i64 0, .int .i64 1, .int .i64 4, .int .i64 1, .int .i64 4, .int .i64 4, .int .i64 0, .bool false, .int .i64 4, .int .i64 0, .int .i64 4, .int .i64 1, .int .i64 2, .int .i64 1, .int .i64 3, .int .i64 4, .int .i64 0, .bool false, .int .i64 3, .int .i64 0, .int .i64 6, .int .i64 1, .int .i64 2, .int .i64 1, .int .i64 2, .int .i64 4, .int .i64 0, .bool false, .int .i64 2, .int .i64 0] 60 0 0 0 false)], next' := 87 }
theorem run45 : E2.Fact.ok2 fact45 (E2.envOf Tryz.prog (E2.specR [])) 1000 = true := by kernel_rfl
theorem good45 : E2.SpecOk Tryz.prog fact45.f fact45.tryR := E2.goodR_fact Tryz.checked.mixed tables E2.goodR_nil (by kernel_rfl) run45
def fact46 : E2.Fact := {
  f := 37, args := [.slice 4 0 0 3 10 none, .agg [.int .i64 0, .int .i64 1, .int .i64 2, .bool false, .bool true, .int .i64 1, .int .i64 1, .int .i64 0, .int .i64 0, .int .i64 0, .int .i64 0], .slice 5 0 0 5 1 none],
  pre := [(4, .row [.int .i64 0, .int .i64 1, .int .i64 2, .int .i64 1, .int .i64 0, .int .i64 4, .int .i64 0, .bool false, .int .i64 2, .int .i64 0, .int .i64 2, .int .i64 1, .int .i64 2, .int .i64 1, .int .i64 1, .int .i64 4, .int .i64 0, .bool false, .int .i64 3, .int .i64 0, .int .i64 4, .int .i64 1, .int .i64 4, .int .i64 1, .int .i64 2, .int .i64 4, .int .i64 0, .bool false, .int .i64 4, .int .i64 0] 60 0 0 0 false),
    (5, .row [.func (.func 78) [] [], .func (.func 79) [] [], .func (.func 68) [] [], .func (.func 71) [] [], .func (.func 73) [] []] 162 0 0 0 false)],
  next := 6, ro := 6, glob := 4, ret := .tuple [.slice 314 0 0 3 10 none, .int .i64 0],
  post := [(314, .row [.int .i64 0, .int .i64 1, .int .i64 4, .int .i64 1, .int .i64 4, .int .i64 4, .int .i64 0, .bool false, .int .i64 4, .int .i64 0, .int .i64 4, .int .i64 1, .int .i64 2, .int .i64 1, .int .i64 3, .int .i64 4, .int .i64 0, .bool false, .int .i64 3, .int .i64 0, .int .i64 6, .int .i64 1, .int .i64 2, .int .i64 1, .int .i64 2, .int .i64 4, .int .i64 0, .bool false, .int .i64 2, .int .i64 0] 60 0 0 0 false)], next' := 395 }
theorem run46 : E2.Fact.ok2 fact46 (E2.envOf Tryz.prog (E2.specR [fact10, fact11, fact43, fact44, fact45])) 1000 = true := by kernel_rfl
theorem good46 : E2.SpecOk Tryz.prog fact46.f fact46.tryR := E2.goodR_fact Tryz.checked.mixed tables (E2.goodR_cons good10 (E2.goodR_cons good11 (E2.goodR_cons good43 (E2.goodR_cons good44 (E2.goodR_cons good45 E2.goodR_nil))))) (by kernel_rfl) run46
def fact47 : E2.Fact := {
  f := 37, args := [.slice 4 0 0 3 10 none, .agg [.int .i64 0, .int .i64 1, .int .i64 0, .bool true, .bool true, .int .i64 0, .int .i64 0, .int .i64 0, .int .i64 0, .int .i64 0, .int .i64 0], .slice 5 0 0 2 1 (some 2)],
  pre := [(4, .row [.int .i64 0, .int .i64 1, .int .i64 2, .int .i64 1, .int .i64 0, .int .i64 4, .int .i64 0, .bool false, .int .i64 2, .int .i64 0, .int .i64 2, .int .i64 1, .int .i64 2, .int .i64 1, .int .i64 1, .int .i64 4, .int .i64 0, .bool false, .int .i64 3, .int .i64 0, .int .i64 4, .int .i64 1, .int .i64 4, .int .i64 1, .int .i64 2, .int .i64 4, .int .i64 0, .bool false, .int .i64 4, .int .i64 0] 60 0 0 0 false),
    (5, .row [.func (.func 78) [] [], .func (.func 79) [] []] 162 0 0 0 true)],
  next := 6, ro := 6, glob := 4, ret := .tuple [.slice 173 0 0 3 10 none, .int .i64 0],
  post := [(173, .row [.int .i64 0, .int .i64 1, .int .i64 4, .int .i64 1, .int .i64 2, .int .i64 4, .int .i64 0, .bool false, .int .i64 4, .int .i64 0, .int .i64 4, .int .i64 1, .int .i64 2, .int .i64 1, .int .i64 3, .int .i64 4, .int .i64 0, .bool false, .int .i64 3, .int .i64 0, .int .i64 6, .int .i64 1, .int .i64 2, .int .i64 1, .int .i64 4, .int .i64 4, .int .i64 0, .bool false, .int .i64 2, .int .i64 0] 60 0 0 0 false)], next' := 268 }
theorem run47 : E2.Fact.ok2 fact47 (E2.envOf Tryz.prog (E2.specR [fact10, fact11, fact21])) 1000 = true := by kernel_rfl
theorem good47 : E2.SpecOk Tryz.prog fact47.f fact47.tryR := E2.goodR_fact Tryz.checked.mixed tables (E2.goodR_cons good10 (E2.goodR_cons good11 (E2.goodR_cons good21 E2.goodR_nil))) (by kernel_rfl) run47
def fact48 : E2.Fact := {
  f := 113, args := [.func (.func 129) [] [.ptr 4 0 0 1], .slice 5 0 0 3 10 none],
  pre := [(4, .row [.func (.func 111) [] [.ptr 6 0 0 1]] 212 0 0 0 true),
    (5, .row [.int .i64 0, .int .i64 1, .int .i64 4, .int .i64 1, .int .i64 2, .int .i64 4, .int .i64 0, .bool false, .int .i64 4, .int .i64 0, .int .i64 4, .int .i64 1, .int .i64 2, .int .i64 1, .int .i64 3, .int .i64 4, .int .i64 0, .bool false, .int .i64 3, .int .i64 0, .int .i64 6, .int .i64 1, .int .i64 2, .int .i64 1, .int .i64 4, .int .i64 4, .int .i64 0, .bool false, .int .i64 2, .int .i64 0] 60 0 0 0 false),
    (6, .row [.int .i64 2] 3 0 0 0 true)],
  next := 7, ro := 7, glob := 4, ret := .tuple [.slice 8 0 0 3 10 none, .int .i64 0],
  post := [(8, .row [.int .i64 0, .int .i64 1, .int .i64 4, .int .i64 1, .int .i64 4, .int .i64 4, .int .i64 0, .bool false, .int .i64 4, .int .i64 0, .int .i64 4, .int .i64 1, .int .i64 2, .int .i64 1, .int .i64 5, .int .i64 4, .int .i64 0, .bool false, .int .i64 3, .int .i64 0, .int .i64 6, .int .i64 1, .int .i64 2, .int .i64 1, .int .i64 6, .int .i64 4, .int .i64 0, .bool false, .int .i64 2, .int .i64 0] 60 0 0 0 false)], next' := 85 }
theorem run48 : E2.Fact.ok2 fact48 (E2.envOf Tryz.prog (E2.specR [])) 1000 = true := by kernel_rfl
theorem good48 : E2.SpecOk Tryz.prog fact48.f fact48.tryR := E2.goodR_fact Tryz.checked.mixed tables E2.goodR_nil (by kernel_rfl) run48
def fact49 : E2.Fact := {
  f := 19, args := [.slice 4 0 0 3 10 none],
  pre := [(4, .row [.int .i64 0, .int .i64 1, .int .i64 4, .int .i64 1, .int .i64 4, .int .i64 4, .int .i64 0, .bool false, .int .i64 4, .int .i64 0, .int .i64 4, .int .i64 1, .int .i64 2, .int .i64 1, .int .i64 5, .int .i64 4, .int .i64 0, .bool false, .int .i64 3, .int .i64 0, .int .i64 6, .int .i64 1, .int .i64 2, .int .i64 1, .int .i64 6, .int .i64 4, .int .i64 0, .bool false, .int .i64 2, .int .i64 0] 60 0 0 0 false)],
  next := 5, ro := 5, glob := 4, ret := .tuple [.int .i64 0, .int .i64 0],
  post := [], next' := 64 }
theorem run49 : E2.Fact.ok2 fact49 (E2.envOf Tryz.prog (E2.specR [])) 1000 = true := by kernel_rfl
theorem good49 : E2.SpecOk Tryz.prog fact49.f fact49.tryR := E2.goodR_fact Tryz.checked.mixed tables E2.goodR_nil (by kernel_rfl) run49
def fact50 : E2.Fact := {
  f := 113, args := [.func (.func 115) [] [.ptr 4 0 0 2], .slice 5 0 0 3 10 none],
  pre := [(4, .row [.int .i64 1, .int .i64 1] 23 0 0 0 true),
    (5, .row [.int .i64 0, .int .i64 1, .int .i64 4, .int .i64 1, .int .i64 4, .int .i64 4, .int .i64 0, .bool false, .int .i64 4, .int .i64 0, .int .i64 4, .int .i64 1, .int .i64 2, .int .i64 1, .int .i64 5, .int .i64 4, .int .i64 0, .bool false, .int .i64 3, .int .i64 0, .int .i64 6, .int .i64 1, .int .i64 2, .int .i64 1, .int .i64 6, .int .i64 4, .int .i64 0, .bool false, .int .i64 2, .int .i64 0] 60 0 0 0 false)],
  next := 6, ro := 6, glob := 4, ret := .tuple [.slice 7 0 0 3 10 none, .int .i64 0],
  post := [(7, .row [.int .i64 0, .int .i64 1, .int .i64 4, .int .i64 1, .int .i64 4, .int .i64 4, .int .i64 0, .bool false, .int .i64 4, .int .i64 0, .int .i64 4, .int .i64 1, .int .i64 2, .int .i64 1, .int .i64 5, .int .i64 4, .int .i64 0, .bool false, .int .i64 3, .int .i64 0, .int .i64 6, .int .i64 1, .int .i64 2, .int .i64 1, .int .i64 6, .int .i64 4, .int .i64 0, .bool false, .int .i64 2, .int .i64 0] 60 0 0 0 false)], next' := 87 }
theorem run50 : E2.Fact.ok2 fact50 (E2.envOf Tryz.prog (E2.specR [])) 1000 = true := by kernel_rfl
theorem good50 : E2.SpecOk Tryz.prog fact50.f fact50.tryR := E2.goodR_fact Tryz.checked.mixed tables E2.goodR_nil (by kernel_rfl) run50
def fact51 : E2.Fact := {
  f := 37, args := [.slice 4 0 0 3 10 none, .agg [.int .i64 0, .int .i64 1, .int .i64 2, .bool true, .bool true, .int .i64 1, .int .i64 1, .int .i64 0, .int .i64 0, .int .i64 0, .int .i64 0], .slice 5 0 0 5 1 none],
  pre := [(4, .row [.int .i64 0, .int .i64 1, .int .i64 2, .int .i64 1, .int .i64 0, .int .i64 4, .int .i64 0, .bool false, .int .i64 2, .int .i64 0, .int .i64 2, .int .i64 1, .int .i64 2, .int .i64 1, .int .i64 1, .int .i64 4, .int .i64 0, .bool false, .int .i64 3, .int .i64 0, .int .i64 4, .int .i64 1, .int .i64 4, .int .i64 1, .int .i64 2, .int .i64 4, .int .i64 0, .bool false, .int .i64 4, .int .i64 0] 60 0 0 0 false),
    (5, .row [.func (.func 78) [] [], .func (.func 79) [] [], .func (.func 68) [] [], .func (.func 71) [] [], .func (.func 73) [] []] 162 0 0 0 false)],
  next := 6, ro := 6, glob := 4, ret := .tuple [.slice 472 0 0 3 10 none, .int .i64 0],
  post := [(472, .row [.int .i64 0, .int .i64 1, .int .i64 4, .int .i64 1, .int .i64 4, .int .i64 4, .int .i64 0, .bool false, .int .i64 4, .int .i64 0, .int .i64 4, .int .i64 1, .int .i64 2, .int .i64 1, .int .i64 5, .int .i64 4, .int .i64 0, .bool false, .int .i64 3, .int .i64 0, .int .i64 6, .int .i64 1, .int .i64 2, .int .i64 1, .int .i64 6, .int .i64 4, .int .i64 0, .bool false, .int .i64 2, .int .i64 0] 60 0 0 0 false)], next' := 553 }
theorem run51 : E2.Fact.ok2 fact51 (E2.envOf Tryz.prog (E2.specR [fact10, fact11, fact21, fact22, fact48, fact49, fact50])) 1000 = true := by kernel_rfl
theorem good51 : E2.SpecOk Tryz.prog fact51.f fact51.tryR := E2.goodR_fact Tryz.checked.mixed tables (E2.goodR_cons good10 (E2.goodR_cons good11 (E2.goodR_cons good21 (E2.goodR_cons good22 (E2.goodR_cons good48 (E2.goodR_cons good49 (E2.goodR_cons good50 E2.goodR_nil))))))) (by kernel_rfl) run51
def fact52 : E2.Fact := {
  f := 8, args := [.slice 4 0 0 3 10 none, .slice 5 0 0 3 10 none],
  pre := [(1, .row [.int .i64 0, .int .i64 2, .int .i64 4, .int .i64 5, .int .i64 7, .int .i64 9, .int .i64 11] 215 0 0 0 false),
    (4, .row [.int .i64 0, .int .i64 1, .int .i64 2, .int .i64 1, .int .i64 0, .int .i64 4, .int .i64 0, .bool false, .int .i64 2, .int .i64 0, .int .i64 2, .int .i64 1, .int .i64 2, .int .i64 1, .int .i64 1, .int .i64 4, .int .i64 0, .bool false, .int .i64 3, .int .i64 0, .int .i64 4, .int .i64 1, .int .i64 4, .int .i64 1, .int .i64 2, .int .i64 4, .int .i64 0, .bool false, .int .i64 4, .int .i64 0] 60 0 0 0 false),
    (5, .row [.int .i64 0, .int .i64 1, .int .i64 2, .int .i64 1, .int .i64 4, .int .i64 4, .int .i64 0, .bool false, .int .i64 2, .int .i64 0, .int .i64 2, .int .i64 1, .int .i64 2, .int .i64 1, .int .i64 5, .int .i64 4, .int .i64 0, .bool false, .int .i64 3, .int .i64 0, .int .i64 4, .int .i64 1, .int .i64 4, .int .i64 1, .int .i64 6, .int .i64 4, .int .i64 0, .bool false, .int .i64 4, .int .i64 0] 60 0 0 0 false)],
  next := 6, ro := 6, glob := 4, ret := .tuple [.slice 702 0 0 1 11 none, .int .i64 0],
  post := [(702, .row [.int .i64 0, .int .i64 1, .int .i64 4, .bool false, .bool false, .int .i64 1, .int .i64 1, .int .i64 0, .int .i64 0, .int .i64 0, .int .i64 0] 27 0 0 0 false)], next' := 3420 }
theorem run52 : E2.Fact.ok2 fact52 (E2.envOf Tryz.prog (E2.specR [fact10, fact35, fact38, fact34, fact36, fact16, fact17, fact39, fact40, fact41, fact42, fact46, fact47, fact51])) 1000 = true := by kernel_rfl
theorem good52 : E2.SpecOk Tryz.prog fact52.f fact52.tryR := E2.goodR_fact Tryz.checked.mixed tables (E2.goodR_cons good10 (E2.goodR_cons good35 (E2.goodR_cons good38 (E2.goodR_cons good34 (E2.goodR_cons good36 (E2.goodR_cons good16 (E2.goodR_cons good17 (E2.goodR_cons good39 (E2.goodR_cons good40 (E2.goodR_cons good41 (E2.goodR_cons good42 (E2.goodR_cons good46 (E2.goodR_cons good47 (E2.goodR_cons good51 E2.goodR_nil)))))))))))))) (by kernel_rfl) run52
end Go.Proofs.YthmjalcblddfkaaGreatDoor.canonKnown
