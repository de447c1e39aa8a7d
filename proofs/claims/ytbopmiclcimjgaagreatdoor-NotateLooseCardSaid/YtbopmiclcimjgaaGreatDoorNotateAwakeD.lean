/- CALLS THAT THE LAW NotateAwake MAKES, each with what it comes to: as data. Made by program. No condition. -/
import Derived.Test.YtbopmiclcimjgaaGreatDoorNotateGlob
namespace Go.Proofs.YtbopmiclcimjgaaGreatDoor.notateAwake
open Go
set_option maxRecDepth 100000
abbrev i (n:Int):E2.V:=.int .i64 n
abbrev f:E2.V:=.bool false
abbrev t:E2.V:=.bool true
def q5w:E2.Fact:={
  f:=31,args:=[.agg [i 2,i 3,i 0,i 0,f,i 0,f,f,i 0,i 0,i 0,i 0,f,i 0,i 0,i 0,i 0],.str [114,66]],
  pre:=[(0,uses)],
  next:=7,ro:=7,qz:=7,ret:=t,
  post:=[],next':=41}
def q5x:E2.Fact:={
  f:=12,args:=[.str [116,52,94,33]],
  pre:=[(0,uses)],
  next:=7,ro:=7,qz:=7,ret:=.tuple [.agg [i 4,i 0,i 4,i 0,f,i 1,f,t,i 0,i 0,i 0,i 0,f,i 0,i 0,i 0,i 0],i 0],
  post:=[],next':=30}
def zbw:E2.Fact:={
  f:=78,args:=[.str [79,46]],
  pre:=[],
  next:=7,ro:=7,qz:=7,ret:=.tuple [.agg [i 2,i 2,i 3,i 3],i 0],
  post:=[],next':=122}
def q5y:E2.Fact:={
  f:=12,args:=[.str [40,79,46,41,124]],
  pre:=[(0,uses)],
  next:=7,ro:=7,qz:=7,ret:=.tuple [.agg [i 5,i 0,i 0,i 0,f,i 0,f,f,i 2,i 2,i 3,i 3,t,i 0,i 0,i 0,i 0],i 0],
  post:=[],next':=152}
def q5z:E2.Fact:={
  f:=12,args:=[.str [51,47,50]],
  pre:=[(0,uses)],
  next:=7,ro:=7,qz:=7,ret:=.tuple [.agg [i 6,i 0,i 0,i 0,f,i 0,f,f,i 0,i 0,i 0,i 0,f,i 3,i 2,i 0,i 0],i 0],
  post:=[],next':=36}
def q50:E2.Fact:={
  f:=12,args:=[.str [64,67,51]],
  pre:=[(0,uses)],
  next:=7,ro:=7,qz:=7,ret:=.tuple [.agg [i 7,i 0,i 0,i 0,f,i 0,f,f,i 0,i 0,i 0,i 0,f,i 0,i 0,i 0,i 3],i 0],
  post:=[],next':=39}
def q51:E2.Fact:={
  f:=12,args:=[.str [93,50]],
  pre:=[(0,uses)],
  next:=7,ro:=7,qz:=7,ret:=.tuple [.agg [i 10,i 0,i 0,i 0,f,i 0,f,f,i 0,i 0,i 0,i 0,f,i 2,i 0,i 0,i 0],i 0],
  post:=[],next':=48}
def q52:E2.Fact:={
  f:=12,args:=[.str [116,117,114,110]],
  pre:=[(0,uses)],
  next:=7,ro:=7,qz:=7,ret:=.tuple [.agg [i 11,i 0,i 0,i 0,f,i 0,f,f,i 0,i 0,i 0,i 0,f,i 0,i 0,i 0,i 0],i 0],
  post:=[],next':=51}
def q53:E2.Fact:={
  f:=12,args:=[.str [77,48,52]],
  pre:=[],
  next:=7,ro:=7,qz:=7,ret:=.tuple [.agg [i 0,i 0,i 0,i 0,f,i 0,f,f,i 0,i 0,i 0,i 0,f,i 0,i 0,i 0,i 0],i 3],
  post:=[],next':=46}
def q54:E2.Fact:={
  f:=12,args:=[.str [115,52]],
  pre:=[],
  next:=7,ro:=7,qz:=7,ret:=.tuple [.agg [i 0,i 0,i 0,i 0,f,i 0,f,f,i 0,i 0,i 0,i 0,f,i 0,i 0,i 0,i 0],i 3],
  post:=[],next':=46}
def qw9:E2.Fact:={
  f:=12,args:=[.str [116,52,33,126]],
  pre:=[],
  next:=7,ro:=7,qz:=7,ret:=.tuple [.agg [i 0,i 0,i 0,i 0,f,i 0,f,f,i 0,i 0,i 0,i 0,f,i 0,i 0,i 0,i 0],i 3],
  post:=[],next':=46}
def qxa:E2.Fact:={
  f:=12,args:=[.str [116,52,126,33]],
  pre:=[(0,uses)],
  next:=7,ro:=7,qz:=7,ret:=.tuple [.agg [i 0,i 0,i 0,i 0,f,i 0,f,f,i 0,i 0,i 0,i 0,f,i 0,i 0,i 0,i 0],i 3],
  post:=[],next':=30}
def qxb:E2.Fact:={
  f:=12,args:=[.str [48,47,50]],
  pre:=[(0,uses)],
  next:=7,ro:=7,qz:=7,ret:=.tuple [.agg [i 0,i 0,i 0,i 0,f,i 0,f,f,i 0,i 0,i 0,i 0,f,i 0,i 0,i 0,i 0],i 2],
  post:=[],next':=36}
def qxc:E2.Fact:={
  f:=12,args:=[.str [91,50]],
  pre:=[],
  next:=7,ro:=7,qz:=7,ret:=.tuple [.agg [i 0,i 0,i 0,i 0,f,i 0,f,f,i 0,i 0,i 0,i 0,f,i 0,i 0,i 0,i 0],i 3],
  post:=[],next':=46}
def qxd:E2.Fact:={
  f:=12,args:=[.str [93,49]],
  pre:=[(0,uses)],
  next:=7,ro:=7,qz:=7,ret:=.tuple [.agg [i 0,i 0,i 0,i 0,f,i 0,f,f,i 0,i 0,i 0,i 0,f,i 0,i 0,i 0,i 0],i 2],
  post:=[],next':=48}
def q2y:E2.Fact:={
  f:=78,args:=[.str [50,50,79]],
  pre:=[],
  next:=7,ro:=7,qz:=7,ret:=.tuple [.agg [i 0,i 0,i 0,i 0],i 3],
  post:=[],next':=122}
def qxe:E2.Fact:={
  f:=12,args:=[.str [40,50,50,79,41]],
  pre:=[],
  next:=7,ro:=7,qz:=7,ret:=.tuple [.agg [i 0,i 0,i 0,i 0,f,i 0,f,f,i 0,i 0,i 0,i 0,f,i 0,i 0,i 0,i 0],i 3],
  post:=[],next':=162}
def qxf:E2.Fact:={
  f:=12,args:=[.str [64,68,51]],
  pre:=[],
  next:=7,ro:=7,qz:=7,ret:=.tuple [.agg [i 0,i 0,i 0,i 0,f,i 0,f,f,i 0,i 0,i 0,i 0,f,i 0,i 0,i 0,i 0],i 3],
  post:=[],next':=46}
def qxg:E2.Fact:={
  f:=18,args:=[.str [112,97,114,116,32,97,10,83,52,10]],
  pre:=[(0,uses)],
  next:=7,ro:=7,qz:=7,ret:=.tuple [.agg [.str [],.nils],.agg [i 9,i 10]],
  post:=[],next':=63}
def q2z:E2.Fact:={
  f:=12,args:=[.str [116,52]],
  pre:=[(0,uses)],
  next:=7,ro:=7,qz:=7,ret:=.tuple [.agg [i 4,i 0,i 4,i 0,f,i 0,f,f,i 0,i 0,i 0,i 0,f,i 0,i 0,i 0,i 0],i 0],
  post:=[],next':=30}
def qxh:E2.Fact:={
  f:=18,args:=[.str [112,97,114,116,32,97,10,116,52,32,83,51,10,101,110,100,10]],
  pre:=[(0,uses)],
  next:=7,ro:=7,qz:=7,ret:=.tuple [.agg [.str [],.nils],.agg [i 3,i 7]],
  post:=[],next':=117}
def q20:E2.Fact:={
  f:=23,args:=[.str [112,97,114,116,32,97,10,40,79,41,32,83,52,32,46,32,59,32,120,10,77,51,10,101,110,100,10]],
  pre:=[],
  next:=7,ro:=7,qz:=7,ret:=.tuple [.slice 22 3 0 4 2 none,.agg [i 0,i 0]],
  post:=[(15,.row [i 0,.str [112,97,114,116],f,i 5,.str [97],f] 100 1 0 0 false),
    (22,.row [i 0,.slice 15 1 0 2 3 none,i 7,.slice 29 2 0 3 3 none,i 20,.slice 45 0 0 1 3 none,i 23,.slice 55 0 0 1 3 none] 56 3 0 0 false),
    (29,.row [i 7,.str [40,79,41],f,i 11,.str [83,52],f,i 14,.str [46],f] 100 2 0 0 false),
    (45,.row [i 20,.str [77,51],f] 100 0 0 0 false),
    (55,.row [i 23,.str [101,110,100],f] 100 0 0 0 false)],next':=64}
def q21:E2.Fact:={
  f:=78,args:=[.str [79]],
  pre:=[],
  next:=7,ro:=7,qz:=7,ret:=.tuple [.agg [i 2,i 2,i 3,i 2],i 0],
  post:=[],next':=122}
def q22:E2.Fact:={
  f:=12,args:=[.str [40,79,41]],
  pre:=[(0,uses)],
  next:=7,ro:=7,qz:=7,ret:=.tuple [.agg [i 5,i 0,i 0,i 0,f,i 0,f,f,i 2,i 2,i 3,i 2,f,i 0,i 0,i 0,i 0],i 0],
  post:=[],next':=152}
def qxi:E2.Fact:={
  f:=18,args:=[.str [112,97,114,116,32,97,10,40,79,41,32,83,52,32,46,32,59,32,120,10,77,51,10,101,110,100,10]],
  pre:=[(0,uses)],
  next:=7,ro:=7,qz:=7,ret:=.tuple [.agg [.str [97],.slice 217 3 0 4 17 none],.agg [i 0,i 0]],
  post:=[(217,.row [i 5,i 0,i 0,i 0,f,i 0,f,f,i 2,i 2,i 3,i 2,f,i 0,i 0,i 0,i 0,i 1,i 4,i 4,i 0,f,i 0,f,f,i 0,i 0,i 0,i 0,f,i 0,i 0,i 0,i 0,i 3,i 0,i 0,i 0,f,i 0,f,f,i 0,i 0,i 0,i 0,f,i 0,i 0,i 0,i 0,i 1,i 5,i 3,i 0,f,i 0,f,f,i 0,i 0,i 0,i 0,f,i 0,i 0,i 0,i 0] 27 3 0 0 false)],next':=322}
def qxj:E2.Fact:={
  f:=15,args:=[.agg [.str [97],.slice 7 0 0 4 17 (some 4)]],
  pre:=[(0,uses),
    (7,.row [i 5,i 0,i 0,i 0,f,i 0,f,f,i 2,i 2,i 3,i 2,f,i 0,i 0,i 0,i 0,i 1,i 4,i 4,i 0,f,i 0,f,f,i 0,i 0,i 0,i 0,f,i 0,i 0,i 0,i 0,i 3,i 0,i 0,i 0,f,i 0,f,f,i 0,i 0,i 0,i 0,f,i 0,i 0,i 0,i 0,i 1,i 5,i 3,i 0,f,i 0,f,f,i 0,i 0,i 0,i 0,f,i 0,i 0,i 0,i 0] 27 0 0 0 true)],
  next:=8,ro:=8,qz:=7,ret:=.tuple [.str [112,97,114,116,32,97,10,40,79,41,32,83,52,32,46,32,77,51,10,101,110,100,10],i 0],
  post:=[],next':=130}
def qxk:E2.Fact:={
  f:=31,args:=[.agg [i 1,i 4,i (-2),i (-1),t,i 0,f,f,i 0,i 0,i 0,i 0,f,i 0,i 0,i 0,i 0],.str [83,45,50,98,42]],
  pre:=[(0,uses),
    (4,qur)],
  next:=7,ro:=7,qz:=7,ret:=t,
  post:=[],next':=40}
end Go.Proofs.YtbopmiclcimjgaaGreatDoor.notateAwake
