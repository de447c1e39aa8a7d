import Derived.Test.YtbopmiclcimjgaaGreatDoorNotateGlob
namespace Go.Proofs.YtbopmiclcimjgaaGreatDoor.notateAwake
open Go
set_option maxRecDepth 100000
abbrev i (n:Int):E2.V:=.int .i64 n
abbrev f:E2.V:=.bool false
abbrev t:E2.V:=.bool true
def zbo:E2.Fact:={
  f:=23,args:=[.str [112,97,114,116,32,97,10,40,79,41,32,83,52,32,46,32,59,32,120,10,77,51,10,101,110,100,10]],
  pre:=[],
  next:=7,ro:=7,zf:=7,ret:=.tuple [.slice 22 3 0 4 2 none,.agg [i 0,i 0]],
  post:=[(15,.row [i 0,.str [112,97,114,116],f,i 5,.str [97],f] 100 1 0 0 false),
    (22,.row [i 0,.slice 15 1 0 2 3 none,i 7,.slice 29 2 0 3 3 none,i 20,.slice 45 0 0 1 3 none,i 23,.slice 55 0 0 1 3 none] 56 3 0 0 false),
    (29,.row [i 7,.str [40,79,41],f,i 11,.str [83,52],f,i 14,.str [46],f] 100 2 0 0 false),
    (45,.row [i 20,.str [77,51],f] 100 0 0 0 false),
    (55,.row [i 23,.str [101,110,100],f] 100 0 0 0 false)],next':=64}
def zbp:E2.Fact:={
  f:=78,args:=[.str [79]],
  pre:=[],
  next:=7,ro:=7,zf:=7,ret:=.tuple [.agg [i 2,i 2,i 3,i 2],i 0],
  post:=[],next':=122}
def zbq:E2.Fact:={
  f:=12,args:=[.str [40,79,41]],
  pre:=[(0,uses)],
  next:=7,ro:=7,zf:=7,ret:=.tuple [.agg [i 5,i 0,i 0,i 0,f,i 0,f,f,i 2,i 2,i 3,i 2,f,i 0,i 0,i 0,i 0],i 0],
  post:=[],next':=152}
def zbr:E2.Fact:={
  f:=12,args:=[.str [46]],
  pre:=[(0,uses)],
  next:=7,ro:=7,zf:=7,ret:=.tuple [.agg [i 3,i 0,i 0,i 0,f,i 0,f,f,i 0,i 0,i 0,i 0,f,i 0,i 0,i 0,i 0],i 0],
  post:=[],next':=27}
def zbs:E2.Fact:={
  f:=12,args:=[.str [77,51]],
  pre:=[(0,uses)],
  next:=7,ro:=7,zf:=7,ret:=.tuple [.agg [i 1,i 5,i 3,i 0,f,i 0,f,f,i 0,i 0,i 0,i 0,f,i 0,i 0,i 0,i 0],i 0],
  post:=[],next':=21}
def zbt:E2.Fact:={
  f:=44,args:=[.agg [.str [97],.slice 7 3 0 4 17 none]],
  pre:=[(0,uses),
    (7,.row [i 5,i 0,i 0,i 0,f,i 0,f,f,i 2,i 2,i 3,i 2,f,i 0,i 0,i 0,i 0,i 1,i 4,i 4,i 0,f,i 0,f,f,i 0,i 0,i 0,i 0,f,i 0,i 0,i 0,i 0,i 3,i 0,i 0,i 0,f,i 0,f,f,i 0,i 0,i 0,i 0,f,i 0,i 0,i 0,i 0,i 1,i 5,i 3,i 0,f,i 0,f,f,i 0,i 0,i 0,i 0,f,i 0,i 0,i 0,i 0] 27 3 0 0 false)],
  next:=8,ro:=8,zf:=7,ret:=.tuple [i 0,i 0],
  post:=[],next':=48}
def q5e:E2.Fact:={
  f:=18,args:=[.str [112,97,114,116,32,97,10,40,79,41,32,83,52,32,46,32,59,32,120,10,77,51,10,101,110,100,10]],
  pre:=[(0,uses)],
  next:=7,ro:=7,zf:=7,ret:=.tuple [.agg [.str [97],.slice 217 3 0 4 17 none],.agg [i 0,i 0]],
  post:=[(217,.row [i 5,i 0,i 0,i 0,f,i 0,f,f,i 2,i 2,i 3,i 2,f,i 0,i 0,i 0,i 0,i 1,i 4,i 4,i 0,f,i 0,f,f,i 0,i 0,i 0,i 0,f,i 0,i 0,i 0,i 0,i 3,i 0,i 0,i 0,f,i 0,f,f,i 0,i 0,i 0,i 0,f,i 0,i 0,i 0,i 0,i 1,i 5,i 3,i 0,f,i 0,f,f,i 0,i 0,i 0,i 0,f,i 0,i 0,i 0,i 0] 27 3 0 0 false)],next':=322}
def zbu:E2.Fact:={
  f:=44,args:=[.agg [.str [97],.slice 7 0 0 4 17 (some 4)]],
  pre:=[(0,uses),
    (7,.row [i 5,i 0,i 0,i 0,f,i 0,f,f,i 2,i 2,i 3,i 2,f,i 0,i 0,i 0,i 0,i 1,i 4,i 4,i 0,f,i 0,f,f,i 0,i 0,i 0,i 0,f,i 0,i 0,i 0,i 0,i 3,i 0,i 0,i 0,f,i 0,f,f,i 0,i 0,i 0,i 0,f,i 0,i 0,i 0,i 0,i 1,i 5,i 3,i 0,f,i 0,f,f,i 0,i 0,i 0,i 0,f,i 0,i 0,i 0,i 0] 27 0 0 0 true)],
  next:=8,ro:=8,zf:=7,ret:=.tuple [i 0,i 0],
  post:=[],next':=48}
def q5f:E2.Fact:={
  f:=15,args:=[.agg [.str [97],.slice 7 0 0 4 17 (some 4)]],
  pre:=[(0,uses),
    (7,.row [i 5,i 0,i 0,i 0,f,i 0,f,f,i 2,i 2,i 3,i 2,f,i 0,i 0,i 0,i 0,i 1,i 4,i 4,i 0,f,i 0,f,f,i 0,i 0,i 0,i 0,f,i 0,i 0,i 0,i 0,i 3,i 0,i 0,i 0,f,i 0,f,f,i 0,i 0,i 0,i 0,f,i 0,i 0,i 0,i 0,i 1,i 5,i 3,i 0,f,i 0,f,f,i 0,i 0,i 0,i 0,f,i 0,i 0,i 0,i 0] 27 0 0 0 true)],
  next:=8,ro:=8,zf:=7,ret:=.tuple [.str [112,97,114,116,32,97,10,40,79,41,32,83,52,32,46,32,77,51,10,101,110,100,10],i 0],
  post:=[],next':=130}
def q5g:E2.Fact:={
  f:=31,args:=[.agg [i 1,i 4,i (-2),i (-1),t,i 0,f,f,i 0,i 0,i 0,i 0,f,i 0,i 0,i 0,i 0],.str [83,45,50,98,42]],
  pre:=[(0,uses),
    (4,qt8)],
  next:=7,ro:=7,zf:=7,ret:=t,
  post:=[],next':=40}
end Go.Proofs.YtbopmiclcimjgaaGreatDoor.notateAwake
