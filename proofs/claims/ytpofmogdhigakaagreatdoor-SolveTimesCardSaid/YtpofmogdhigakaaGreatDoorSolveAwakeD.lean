import Derived.Test.YtpofmogdhigakaaGreatDoorSolveAwakeGlob
namespace Go.Proofs.YtpofmogdhigakaaGreatDoor.solveAwake
open Go
set_option maxRecDepth 100000
def q5h:E2.Fact:={
  f:=42,args:=[.agg [.str [97],.slice 3 0 0 6 17 (some 6)]],
  pre:=[(0,g0),
    (3,.row [i 5,i 0,i 0,i 0,f,i 0,f,f,i 2,i 2,i 2,i 2,f,i 0,i 0,i 0,i 0,i 9,i 0,i 0,i 0,f,i 0,f,f,i 0,i 0,i 0,i 0,f,i 0,i 0,i 0,i 0,i 1,i 4,i 4,i 0,f,i 0,f,f,i 0,i 0,i 0,i 0,f,i 0,i 0,i 0,i 0,i 1,i 4,i 4,i 0,f,i 0,f,f,i 0,i 0,i 0,i 0,f,i 0,i 0,i 0,i 0,i 10,i 0,i 0,i 0,f,i 0,f,f,i 0,i 0,i 0,i 0,f,i 2,i 0,i 0,i 0,i 1,i 3,i 4,i 0,f,i 0,f,f,i 0,i 0,i 0,i 0,f,i 0,i 0,i 0,i 0] 49 0 0 0 true)],
  next:=4,ro:=4,qp:=3,ret:=.tuple [i 0,i 0],
  post:=[],next':=62}
def q9w:E2.Fact:={
  f:=8,args:=[.agg [.str [97],.slice 3 0 0 6 17 (some 6)],.slice 4 2 0 3 2 none],
  pre:=[(0,g0),
    (2,g2),
    (3,.row [i 5,i 0,i 0,i 0,f,i 0,f,f,i 2,i 2,i 2,i 2,f,i 0,i 0,i 0,i 0,i 9,i 0,i 0,i 0,f,i 0,f,f,i 0,i 0,i 0,i 0,f,i 0,i 0,i 0,i 0,i 1,i 4,i 4,i 0,f,i 0,f,f,i 0,i 0,i 0,i 0,f,i 0,i 0,i 0,i 0,i 1,i 4,i 4,i 0,f,i 0,f,f,i 0,i 0,i 0,i 0,f,i 0,i 0,i 0,i 0,i 10,i 0,i 0,i 0,f,i 0,f,f,i 0,i 0,i 0,i 0,f,i 2,i 0,i 0,i 0,i 1,i 3,i 4,i 0,f,i 0,f,f,i 0,i 0,i 0,i 0,f,i 0,i 0,i 0,i 0] 49 0 0 0 true),
    (4,.row [i 2,i 1,i 2,i 1,i 4,i 1] 35 2 0 0 false)],
  next:=5,ro:=5,qp:=3,ret:=.tuple [.slice 284 2 0 3 2 none,i 0],
  post:=[(284,.row [i 2,i 1,i 2,i 1,i 4,i 1] 35 2 0 0 false)],next':=311}
def q9x:E2.Fact:={
  f:=54,args:=[.agg [.str [97],.slice 3 0 0 6 17 (some 6)]],
  pre:=[(0,g0),
    (3,.row [i 5,i 0,i 0,i 0,f,i 0,f,f,i 2,i 2,i 2,i 2,f,i 0,i 0,i 0,i 0,i 9,i 0,i 0,i 0,f,i 0,f,f,i 0,i 0,i 0,i 0,f,i 0,i 0,i 0,i 0,i 1,i 4,i 4,i 0,f,i 0,f,f,i 0,i 0,i 0,i 0,f,i 0,i 0,i 0,i 0,i 1,i 4,i 4,i 0,f,i 0,f,f,i 0,i 0,i 0,i 0,f,i 0,i 0,i 0,i 0,i 10,i 0,i 0,i 0,f,i 0,f,f,i 0,i 0,i 0,i 0,f,i 2,i 0,i 0,i 0,i 1,i 3,i 4,i 0,f,i 0,f,f,i 0,i 0,i 0,i 0,f,i 0,i 0,i 0,i 0] 49 0 0 0 true)],
  next:=4,ro:=4,qp:=3,ret:=.slice 97 5 0 5 2 none,
  post:=[(97,.row [i 2,i 0,i 3,i 0,i 2,i 1,i 3,i 1,i 5,i 0,i 0,i 0] 73 5 5 0 false)],next':=144}
def q5i:E2.Fact:={
  f:=11,args:=[.agg [.str [97],.slice 3 0 0 6 17 (some 6)],.slice 4 2 0 3 2 none],
  pre:=[(0,g0),
    (2,g2),
    (3,.row [i 5,i 0,i 0,i 0,f,i 0,f,f,i 2,i 2,i 2,i 2,f,i 0,i 0,i 0,i 0,i 9,i 0,i 0,i 0,f,i 0,f,f,i 0,i 0,i 0,i 0,f,i 0,i 0,i 0,i 0,i 1,i 4,i 4,i 0,f,i 0,f,f,i 0,i 0,i 0,i 0,f,i 0,i 0,i 0,i 0,i 1,i 4,i 4,i 0,f,i 0,f,f,i 0,i 0,i 0,i 0,f,i 0,i 0,i 0,i 0,i 10,i 0,i 0,i 0,f,i 0,f,f,i 0,i 0,i 0,i 0,f,i 2,i 0,i 0,i 0,i 1,i 3,i 4,i 0,f,i 0,f,f,i 0,i 0,i 0,i 0,f,i 0,i 0,i 0,i 0] 49 0 0 0 true),
    (4,.row [i 2,i 1,i 2,i 1,i 4,i 1] 35 2 0 0 false)],
  next:=5,ro:=5,qp:=3,ret:=.tuple [.slice 495 4 0 5 2 none,.agg [i 12,i 1],i 0],
  post:=[(495,.row [i 0,i 1,i 2,i 1,i 4,i 1,i 6,i 1,i 8,i 1] 35 4 0 0 false)],next':=556}
def qxt:E2.Fact:={
  f:=42,args:=[.agg [.str [97],.slice 3 0 0 5 17 (some 5)]],
  pre:=[(0,g0),
    (3,.row [i 5,i 0,i 0,i 0,f,i 0,f,f,i 2,i 2,i 3,i 2,f,i 0,i 0,i 0,i 0,i 1,i 3,i 4,i 0,f,i 0,f,f,i 0,i 0,i 0,i 0,f,i 0,i 0,i 0,i 0,i 1,i 4,i 4,i 0,f,i 0,f,f,i 0,i 0,i 0,i 0,f,i 0,i 0,i 0,i 0,i 1,i 4,i 4,i 0,f,i 0,f,f,i 0,i 0,i 0,i 0,f,i 0,i 0,i 0,i 0,i 1,i 3,i 4,i 0,f,i 0,f,f,i 0,i 0,i 0,i 0,f,i 0,i 0,i 0,i 0] 49 0 0 0 true)],
  next:=4,ro:=4,qp:=3,ret:=.tuple [i 0,i 0],
  post:=[],next':=53}
def q9y:E2.Fact:={
  f:=59,args:=[.agg [.str [97],.slice 3 0 0 5 17 (some 5)]],
  pre:=[(0,g0),
    (2,g2),
    (3,.row [i 5,i 0,i 0,i 0,f,i 0,f,f,i 2,i 2,i 3,i 2,f,i 0,i 0,i 0,i 0,i 1,i 3,i 4,i 0,f,i 0,f,f,i 0,i 0,i 0,i 0,f,i 0,i 0,i 0,i 0,i 1,i 4,i 4,i 0,f,i 0,f,f,i 0,i 0,i 0,i 0,f,i 0,i 0,i 0,i 0,i 1,i 4,i 4,i 0,f,i 0,f,f,i 0,i 0,i 0,i 0,f,i 0,i 0,i 0,i 0,i 1,i 3,i 4,i 0,f,i 0,f,f,i 0,i 0,i 0,i 0,f,i 0,i 0,i 0,i 0] 49 0 0 0 true)],
  next:=4,ro:=4,qp:=3,ret:=.slice 179 0 0 1 5 none,
  post:=[(166,.row [i 1,i 3,i 4,i 0,f,i 0,f,f,i 0,i 0,i 0,i 0,f,i 0,i 0,i 0,i 0,i 1,i 4,i 4,i 0,f,i 0,f,f,i 0,i 0,i 0,i 0,f,i 0,i 0,i 0,i 0,i 1,i 4,i 4,i 0,f,i 0,f,f,i 0,i 0,i 0,i 0,f,i 0,i 0,i 0,i 0,i 1,i 3,i 4,i 0,f,i 0,f,f,i 0,i 0,i 0,i 0,f,i 0,i 0,i 0,i 0] 49 3 0 0 false),
    (179,.row [i 2,i 2,i 3,i 2,.slice 166 3 0 4 17 none] 102 0 0 0 false)],next':=180}
def q9z:E2.Fact:={
  f:=122,args:=[.agg [i 2,i 2,i 3,i 2],.slice 3 3 0 4 17 none,.nils],
  pre:=[(3,.row [i 1,i 3,i 4,i 0,f,i 0,f,f,i 0,i 0,i 0,i 0,f,i 0,i 0,i 0,i 0,i 1,i 4,i 4,i 0,f,i 0,f,f,i 0,i 0,i 0,i 0,f,i 0,i 0,i 0,i 0,i 1,i 4,i 4,i 0,f,i 0,f,f,i 0,i 0,i 0,i 0,f,i 0,i 0,i 0,i 0,i 1,i 3,i 4,i 0,f,i 0,f,f,i 0,i 0,i 0,i 0,f,i 0,i 0,i 0,i 0] 49 3 0 0 false)],
  next:=4,ro:=4,qp:=3,ret:=.tuple [.slice 41 3 0 4 2 none,i 0],
  post:=[(41,.row [i 6,i 1,i 2,i 1,i 2,i 1,i 6,i 1] 35 3 0 0 false)],next':=90}
def q90:E2.Fact:={
  f:=124,args:=[.slice 3 3 0 4 12 none],
  pre:=[(3,.row [i 0,i 3,f,f,f,i 0,i 6,i 1,i 0,i 1,i 0,i 1,i 1,i 4,f,f,f,i 0,i 2,i 1,i 0,i 1,i 0,i 1,i 2,i 4,f,f,f,i 0,i 2,i 1,i 0,i 1,i 0,i 1,i 3,i 3,f,f,f,i 0,i 6,i 1,i 0,i 1,i 0,i 1] 164 3 0 0 false)],
  next:=4,ro:=4,qp:=3,ret:=.tuple [i 0,i 0],
  post:=[],next':=32}
def q91:E2.Fact:={
  f:=124,args:=[.slice 3 0 0 4 12 none],
  pre:=[(3,.row [i 0,i 3,f,f,f,i 0,i 6,i 1,i 0,i 1,i 0,i 1,i 1,i 4,f,f,f,i 0,i 2,i 1,i 0,i 1,i 0,i 1,i 2,i 4,f,f,f,i 0,i 2,i 1,i 0,i 1,i 0,i 1,i 3,i 3,f,f,f,i 0,i 6,i 1,i 0,i 1,i 0,i 1] 164 0 0 0 false)],
  next:=4,ro:=4,qp:=3,ret:=.tuple [i 0,i 0],
  post:=[],next':=32}
def q92:E2.Fact:={
  f:=191,args:=[.agg [.slice 3 0 0 4 12 none],.agg [i 1,i 3,i 0,i 3,f,i 0,i 0],.agg [i 2,i 1]],
  pre:=[(3,.row [i 0,i 3,f,f,f,i 0,i 6,i 1,i 0,i 1,i 0,i 1,i 1,i 4,f,f,f,i 0,i 2,i 1,i 0,i 1,i 0,i 1,i 2,i 4,f,f,f,i 0,i 2,i 1,i 0,i 1,i 0,i 1,i 3,i 3,f,f,f,i 0,i 6,i 1,i 0,i 1,i 0,i 1] 164 0 0 0 false)],
  next:=4,ro:=4,qp:=3,ret:=.tuple [.agg [i 2,i 1],i 0],
  post:=[],next':=78}
def qqy:E2.Fact:={
  f:=171,args:=[.agg [i 2,i 2,i 3,i 2],i 3,.slice 3 0 0 4 12 none],
  pre:=[(3,.row [i 0,i 3,f,f,f,i 0,i 6,i 1,i 0,i 1,i 0,i 1,i 1,i 4,f,f,f,i 0,i 2,i 1,i 0,i 1,i 0,i 1,i 2,i 4,f,f,f,i 0,i 2,i 1,i 0,i 1,i 0,i 1,i 3,i 3,f,f,f,i 0,i 6,i 1,i 0,i 1,i 0,i 1] 164 0 0 0 false)],
  next:=4,ro:=4,qp:=3,ret:=.tuple [.slice 83 2 0 3 7 none,i 0],
  post:=[(83,.row [i 0,i 0,i (-1),i 0,f,i 0,i 1,i 1,i 3,i 0,i 3,f,i 2,i 1,i 4,i 4,i 3,i (-1),t,i 0,i 1] 237 2 2 0 false)],next':=238}
def q2n:E2.Fact:={
  f:=172,args:=[.agg [i 2,i 2,i 3,i 2],i 3,.slice 3 0 0 4 12 none,.nils],
  pre:=[(3,.row [i 0,i 3,f,f,f,i 0,i 6,i 1,i 0,i 1,i 0,i 1,i 1,i 4,f,f,f,i 0,i 2,i 1,i 0,i 1,i 0,i 1,i 2,i 4,f,f,f,i 0,i 2,i 1,i 0,i 1,i 0,i 1,i 3,i 3,f,f,f,i 0,i 6,i 1,i 0,i 1,i 0,i 1] 164 0 0 0 false)],
  next:=4,ro:=4,qp:=3,ret:=.tuple [.slice 310 0 0 1 1 none,i 0],
  post:=[(310,.row [i 0] 3 0 0 0 false)],next':=315}
def qt2:E2.Fact:={
  f:=215,args:=[.ptr 3 0 0 5,.agg [i 1,i 3,i 0,i 3,f,i 2,i 1]],
  pre:=[(3,.row [.slice 4 0 0 4 12 none,i 3,i 2,i 1,.map 5] 249 0 0 0 true),
    (4,.row [i 0,i 3,f,f,f,i 0,i 6,i 1,i 0,i 1,i 0,i 1,i 1,i 4,f,f,f,i 0,i 2,i 1,i 0,i 1,i 0,i 1,i 2,i 4,f,f,f,i 0,i 2,i 1,i 0,i 1,i 0,i 1,i 3,i 3,f,f,f,i 0,i 6,i 1,i 0,i 1,i 0,i 1] 164 0 0 0 false),
    (5,.map [] 0)],
  next:=6,ro:=6,qp:=3,ret:=t,
  post:=[],next':=56}
def qt3:E2.Fact:={
  f:=216,args:=[.ptr 3 0 0 5,.agg [i 1,i 3,i 0,i 3,f,i 2,i 1]],
  pre:=[(3,.row [.slice 4 0 0 4 12 none,i 3,i 2,i 1,.map 5] 249 0 0 0 true),
    (4,.row [i 0,i 3,f,f,f,i 0,i 6,i 1,i 0,i 1,i 0,i 1,i 1,i 4,f,f,f,i 0,i 2,i 1,i 0,i 1,i 0,i 1,i 2,i 4,f,f,f,i 0,i 2,i 1,i 0,i 1,i 0,i 1,i 3,i 3,f,f,f,i 0,i 6,i 1,i 0,i 1,i 0,i 1] 164 0 0 0 false),
    (5,.map [] 0)],
  next:=6,ro:=6,qp:=3,ret:=t,
  post:=[],next':=72}
def q2o:E2.Fact:={
  f:=172,args:=[.agg [i 2,i 2,i 3,i 2],i 3,.slice 3 0 0 4 12 none,.slice 4 0 0 1 1 none],
  pre:=[(3,.row [i 0,i 3,f,f,f,i 0,i 6,i 1,i 0,i 1,i 0,i 1,i 1,i 4,f,f,f,i 0,i 2,i 1,i 0,i 1,i 0,i 1,i 2,i 4,f,f,f,i 0,i 2,i 1,i 0,i 1,i 0,i 1,i 3,i 3,f,f,f,i 0,i 6,i 1,i 0,i 1,i 0,i 1] 164 0 0 0 false),
    (4,.row [i 0] 3 0 0 0 false)],
  next:=5,ro:=5,qp:=3,ret:=.tuple [.slice 559 1 0 2 1 none,i 0],
  post:=[(559,.row [i 3,i 4] 3 1 0 0 false)],next':=562}
def q2p:E2.Fact:={
  f:=175,args:=[.ptr 3 0 0 5,.slice 4 2 0 3 7 none,.slice 5 1 0 2 1 none],
  pre:=[(3,.row [.slice 6 0 0 4 12 none,i 3,i 2,i 1,.map 7] 249 0 0 0 true),
    (4,.row [i 0,i 0,i (-1),i 0,f,i 0,i 1,i 1,i 3,i 0,i 3,f,i 2,i 1,i 4,i 4,i 3,i (-1),t,i 0,i 1] 237 2 2 0 false),
    (5,.row [i 0,i 4] 3 1 0 0 false),
    (6,.row [i 0,i 3,f,f,f,i 0,i 6,i 1,i 0,i 1,i 0,i 1,i 1,i 4,f,f,f,i 0,i 2,i 1,i 0,i 1,i 0,i 1,i 2,i 4,f,f,f,i 0,i 2,i 1,i 0,i 1,i 0,i 1,i 3,i 3,f,f,f,i 0,i 6,i 1,i 0,i 1,i 0,i 1] 164 0 0 0 false),
    (7,.map [] 0)],
  next:=8,ro:=3,qp:=3,ret:=t,
  post:=[(3,.row [.slice 6 0 0 4 12 none,i 3,i 2,i 1,.map 7] 249 0 0 0 true),
    (4,.row [i 0,i 0,i (-1),i 0,f,i 0,i 1,i 1,i 3,i 0,i 3,f,i 2,i 1,i 4,i 4,i 3,i (-1),t,i 0,i 1] 237 2 2 0 false),
    (5,.row [i 0,i 4] 3 1 0 0 false),
    (6,.row [i 0,i 3,f,f,f,i 0,i 6,i 1,i 0,i 1,i 0,i 1,i 1,i 4,f,f,f,i 0,i 2,i 1,i 0,i 1,i 0,i 1,i 2,i 4,f,f,f,i 0,i 4,i 1,i 0,i 1,i 0,i 1,i 3,i 3,f,f,f,i 0,i 6,i 1,i 0,i 1,i 0,i 1] 164 0 0 0 false),
    (7,.map [] 0)],next':=304}
def q2q:E2.Fact:={
  f:=172,args:=[.agg [i 2,i 2,i 3,i 2],i 3,.slice 3 0 0 4 12 none,.slice 4 1 0 2 1 none],
  pre:=[(3,.row [i 0,i 3,f,f,f,i 0,i 6,i 1,i 0,i 1,i 0,i 1,i 1,i 4,f,f,f,i 0,i 2,i 1,i 0,i 1,i 0,i 1,i 2,i 4,f,f,f,i 0,i 2,i 1,i 0,i 1,i 0,i 1,i 3,i 3,f,f,f,i 0,i 6,i 1,i 0,i 1,i 0,i 1] 164 0 0 0 false),
    (4,.row [i 0,i 4] 3 1 0 0 false)],
  next:=5,ro:=5,qp:=3,ret:=.tuple [.slice 603 0 0 1 1 none,i 0],
  post:=[(603,.row [i 0] 3 0 0 0 false)],next':=608}
def q2r:E2.Fact:={
  f:=175,args:=[.ptr 3 0 0 5,.slice 4 2 0 3 7 none,.slice 5 2 0 3 1 none],
  pre:=[(3,.row [.slice 6 0 0 4 12 none,i 3,i 2,i 1,.map 7] 249 0 0 0 true),
    (4,.row [i 0,i 0,i (-1),i 0,f,i 0,i 1,i 1,i 3,i 0,i 3,f,i 2,i 1,i 4,i 4,i 3,i (-1),t,i 0,i 1] 237 2 2 0 false),
    (5,.row [i 0,i 4,i 0] 3 2 0 0 false),
    (6,.row [i 0,i 3,f,f,f,i 0,i 6,i 1,i 0,i 1,i 0,i 1,i 1,i 4,f,f,f,i 0,i 2,i 1,i 0,i 1,i 0,i 1,i 2,i 4,f,f,f,i 0,i 2,i 1,i 0,i 1,i 0,i 1,i 3,i 3,f,f,f,i 0,i 6,i 1,i 0,i 1,i 0,i 1] 164 0 0 0 false),
    (7,.map [] 0)],
  next:=8,ro:=3,qp:=3,ret:=t,
  post:=[(3,.row [.slice 6 0 0 4 12 none,i 3,i 2,i 1,.map 7] 249 0 0 0 true),
    (4,.row [i 0,i 0,i (-1),i 0,f,i 0,i 1,i 1,i 3,i 0,i 3,f,i 2,i 1,i 4,i 4,i 3,i (-1),t,i 0,i 1] 237 2 2 0 false),
    (5,.row [i 0,i 4,i 0] 3 2 0 0 false),
    (6,.row [i 0,i 3,f,f,f,i 0,i 6,i 1,i 0,i 1,i 0,i 1,i 1,i 4,f,f,f,i 0,i 2,i 1,i 0,i 1,i 0,i 1,i 2,i 4,f,f,f,i 0,i 4,i 1,i 0,i 1,i 0,i 1,i 3,i 3,f,f,f,i 0,i 6,i 1,i 0,i 1,i 0,i 1] 164 0 0 0 false),
    (7,.map [] 0)],next':=340}
def q2s:E2.Fact:={
  f:=127,args:=[.ptr 3 0 0 7],
  pre:=[(3,.row [i 2,i 2,i 3,i 2,.slice 4 0 0 1 1 none,.slice 5 0 0 4 12 none,.nils] 190 0 0 0 true),
    (4,.row [i 3] 3 0 0 0 false),
    (5,.row [i 0,i 3,f,f,f,i 0,i 6,i 1,i 0,i 1,i 0,i 1,i 1,i 4,f,f,f,i 0,i 2,i 1,i 0,i 1,i 0,i 1,i 2,i 4,f,f,f,i 0,i 2,i 1,i 0,i 1,i 0,i 1,i 3,i 3,f,f,f,i 0,i 6,i 1,i 0,i 1,i 0,i 1] 164 0 0 0 false)],
  next:=6,ro:=3,qp:=3,ret:=.func (.func 127) [] [],
  post:=[(3,.row [i 2,i 2,i 3,i 2,.slice 4 0 1 0 1 none,.slice 2021 0 0 4 12 none,.slice 2356 0 0 3 1 none] 190 0 0 0 true),
    (4,.row [i 3] 3 0 0 0 false),
    (5,.row [i 0,i 3,f,f,f,i 0,i 6,i 1,i 0,i 1,i 0,i 1,i 1,i 4,f,f,f,i 0,i 2,i 1,i 0,i 1,i 0,i 1,i 2,i 4,f,f,f,i 0,i 2,i 1,i 0,i 1,i 0,i 1,i 3,i 3,f,f,f,i 0,i 6,i 1,i 0,i 1,i 0,i 1] 164 0 0 0 false),
    (2021,.row [i 0,i 3,f,f,f,i 0,i 6,i 1,i 0,i 1,i 0,i 1,i 1,i 4,f,f,f,i 0,i 2,i 1,i 0,i 1,i 0,i 1,i 2,i 4,f,f,f,i 0,i 4,i 1,i 0,i 1,i 0,i 1,i 3,i 3,f,f,f,i 0,i 6,i 1,i 0,i 1,i 0,i 1] 164 0 0 0 false),
    (2356,.row [i 0,i 4,i 0] 3 0 0 0 false)],next':=2357}
def q2t:E2.Fact:={
  f:=78,args:=[.agg [i 2,i 2,i 3,i 2],.slice 3 3 0 4 17 none],
  pre:=[(3,.row [i 1,i 3,i 4,i 0,f,i 0,f,f,i 0,i 0,i 0,i 0,f,i 0,i 0,i 0,i 0,i 1,i 4,i 4,i 0,f,i 0,f,f,i 0,i 0,i 0,i 0,f,i 0,i 0,i 0,i 0,i 1,i 4,i 4,i 0,f,i 0,f,f,i 0,i 0,i 0,i 0,f,i 0,i 0,i 0,i 0,i 1,i 3,i 4,i 0,f,i 0,f,f,i 0,i 0,i 0,i 0,f,i 0,i 0,i 0,i 0] 49 3 0 0 false)],
  next:=4,ro:=4,qp:=3,ret:=.tuple [.agg [.nils,.nils,.slice 2594 0 0 3 1 none,.slice 2598 3 0 4 2 none],i 0],
  post:=[(2594,.row [i 0,i 4,i 0] 3 0 0 0 false),
    (2598,.row [i 6,i 1,i 2,i 1,i 4,i 1,i 6,i 1] 35 3 0 0 false)],next':=2605}
def q2u:E2.Fact:={
  f:=8,args:=[.agg [.str [97],.slice 3 0 0 5 17 (some 5)],.slice 4 3 0 4 2 none],
  pre:=[(0,g0),
    (2,g2),
    (3,.row [i 5,i 0,i 0,i 0,f,i 0,f,f,i 2,i 2,i 3,i 2,f,i 0,i 0,i 0,i 0,i 1,i 3,i 4,i 0,f,i 0,f,f,i 0,i 0,i 0,i 0,f,i 0,i 0,i 0,i 0,i 1,i 4,i 4,i 0,f,i 0,f,f,i 0,i 0,i 0,i 0,f,i 0,i 0,i 0,i 0,i 1,i 4,i 4,i 0,f,i 0,f,f,i 0,i 0,i 0,i 0,f,i 0,i 0,i 0,i 0,i 1,i 3,i 4,i 0,f,i 0,f,f,i 0,i 0,i 0,i 0,f,i 0,i 0,i 0,i 0] 49 0 0 0 true),
    (4,.row [i 6,i 1,i 2,i 1,i 4,i 1,i 6,i 1] 35 3 0 0 false)],
  next:=5,ro:=5,qp:=3,ret:=.tuple [.slice 247 3 0 4 2 none,i 0],
  post:=[(247,.row [i 6,i 1,i 2,i 1,i 4,i 1,i 6,i 1] 35 3 0 0 false)],next':=287}
def q2v:E2.Fact:={
  f:=11,args:=[.agg [.str [97],.slice 3 0 0 5 17 (some 5)],.slice 4 3 0 4 2 none],
  pre:=[(0,g0),
    (2,g2),
    (3,.row [i 5,i 0,i 0,i 0,f,i 0,f,f,i 2,i 2,i 3,i 2,f,i 0,i 0,i 0,i 0,i 1,i 3,i 4,i 0,f,i 0,f,f,i 0,i 0,i 0,i 0,f,i 0,i 0,i 0,i 0,i 1,i 4,i 4,i 0,f,i 0,f,f,i 0,i 0,i 0,i 0,f,i 0,i 0,i 0,i 0,i 1,i 4,i 4,i 0,f,i 0,f,f,i 0,i 0,i 0,i 0,f,i 0,i 0,i 0,i 0,i 1,i 3,i 4,i 0,f,i 0,f,f,i 0,i 0,i 0,i 0,f,i 0,i 0,i 0,i 0] 49 0 0 0 true),
    (4,.row [i 6,i 1,i 2,i 1,i 4,i 1,i 6,i 1] 35 3 0 0 false)],
  next:=5,ro:=5,qp:=3,ret:=.tuple [.slice 425 3 0 4 2 none,.agg [i 18,i 1],i 0],
  post:=[(425,.row [i 0,i 1,i 6,i 1,i 8,i 1,i 12,i 1] 35 3 0 0 false)],next':=471}
def qxs:E2.Fact:={
  f:=16,args:=[.agg [.str [97],.slice 3 0 0 5 17 (some 5)],.nils,.slice 4 0 0 3 1 (some 3),i 18,.slice 5 0 0 4 1 (some 4)],
  pre:=[(0,g0),
    (2,g2),
    (3,.row [i 5,i 0,i 0,i 0,f,i 0,f,f,i 2,i 2,i 3,i 2,f,i 0,i 0,i 0,i 0,i 1,i 3,i 4,i 0,f,i 0,f,f,i 0,i 0,i 0,i 0,f,i 0,i 0,i 0,i 0,i 1,i 4,i 4,i 0,f,i 0,f,f,i 0,i 0,i 0,i 0,f,i 0,i 0,i 0,i 0,i 1,i 4,i 4,i 0,f,i 0,f,f,i 0,i 0,i 0,i 0,f,i 0,i 0,i 0,i 0,i 1,i 3,i 4,i 0,f,i 0,f,f,i 0,i 0,i 0,i 0,f,i 0,i 0,i 0,i 0] 49 0 0 0 true),
    (4,.row [i 0,i 4,i 0] 3 0 0 0 true),
    (5,.row [i 6,i 2,i 4,i 6] 3 0 0 0 true)],
  next:=6,ro:=6,qp:=3,ret:=t,
  post:=[],next':=3423}
end Go.Proofs.YtpofmogdhigakaaGreatDoor.solveAwake
