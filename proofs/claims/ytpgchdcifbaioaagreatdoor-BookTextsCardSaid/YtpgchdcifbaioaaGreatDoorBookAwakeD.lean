import Derived.Test.YtpgchdcifbaioaaGreatDoorBookAwakeGlob
namespace Go.Proofs.YtpgchdcifbaioaaGreatDoor.bookAwake
open Go
set_option maxRecDepth 100000
def zjz:E2.Fact:={
  f:=29,args:=[.agg [.str [97],.slice 7 0 0 17 17 none]],
  pre:=[(0,g0),
    (7,.row [i 7,i 0,i 0,i 0,f,i 0,f,f,i 0,i 0,i 0,i 0,f,i 0,i 0,i 0,i 3,i 5,i 0,i 0,i 0,f,i 0,f,f,i 2,i 2,i 3,i 2,t,i 0,i 0,i 0,i 0,i 1,i 3,i 4,i 0,f,i 0,f,f,i 0,i 0,i 0,i 0,f,i 0,i 0,i 0,i 0,i 1,i 4,i 5,i 0,f,i 0,f,f,i 0,i 0,i 0,i 0,f,i 0,i 0,i 0,i 0,i 1,i 4,i 6,i 0,f,i 0,f,f,i 0,i 0,i 0,i 0,f,i 0,i 0,i 0,i 0,i 2,i 4,i 0,i 0,f,i 0,f,f,i 0,i 0,i 0,i 0,f,i 0,i 0,i 0,i 0,i 1,i 3,i 7,i 0,f,i 0,f,f,i 0,i 0,i 0,i 0,f,i 0,i 0,i 0,i 0,i 1,i 3,i 8,i 0,f,i 0,f,f,i 0,i 0,i 0,i 0,f,i 0,i 0,i 0,i 0,i 1,i 4,i 5,i 0,f,i 0,f,f,i 0,i 0,i 0,i 0,f,i 0,i 0,i 0,i 0,i 1,i 4,i 5,i 0,f,i 0,f,f,i 0,i 0,i 0,i 0,f,i 0,i 0,i 0,i 0,i 1,i 4,i 5,i 0,f,i 0,f,f,i 0,i 0,i 0,i 0,f,i 0,i 0,i 0,i 0,i 1,i 3,i 4,i 0,f,i 0,f,f,i 0,i 0,i 0,i 0,f,i 0,i 0,i 0,i 0,i 1,i 4,i 4,i 0,f,i 0,f,f,i 0,i 0,i 0,i 0,f,i 0,i 0,i 0,i 0,i 1,i 4,i 4,i 0,f,i 0,f,f,i 0,i 0,i 0,i 0,f,i 0,i 0,i 0,i 0,i 1,i 3,i 4,i 0,f,i 0,f,f,i 0,i 0,i 0,i 0,f,i 0,i 0,i 0,i 0,i 2,i 3,i 0,i 0,f,i 0,f,f,i 0,i 0,i 0,i 0,f,i 0,i 0,i 0,i 0,i 1,i 4,i 4,i 0,f,i 0,f,f,i 0,i 0,i 0,i 0,f,i 0,i 0,i 0,i 0] 60 0 0 0 false)],
  next:=8,ro:=8,zm:=7,ret:=.tuple [i 0,i 0],
  post:=[],next':=165}
def zj0:E2.Fact:={
  f:=34,args:=[.slice 7 0 0 17 17 none,i 16,t],
  pre:=[(7,.row [i 7,i 0,i 0,i 0,f,i 0,f,f,i 0,i 0,i 0,i 0,f,i 0,i 0,i 0,i 3,i 5,i 0,i 0,i 0,f,i 0,f,f,i 2,i 2,i 3,i 2,t,i 0,i 0,i 0,i 0,i 1,i 3,i 4,i 0,f,i 0,f,f,i 0,i 0,i 0,i 0,f,i 0,i 0,i 0,i 0,i 1,i 4,i 5,i 0,f,i 0,f,f,i 0,i 0,i 0,i 0,f,i 0,i 0,i 0,i 0,i 1,i 4,i 6,i 0,f,i 0,f,f,i 0,i 0,i 0,i 0,f,i 0,i 0,i 0,i 0,i 2,i 4,i 0,i 0,f,i 0,f,f,i 0,i 0,i 0,i 0,f,i 0,i 0,i 0,i 0,i 1,i 3,i 7,i 0,f,i 0,f,f,i 0,i 0,i 0,i 0,f,i 0,i 0,i 0,i 0,i 1,i 3,i 8,i 0,f,i 0,f,f,i 0,i 0,i 0,i 0,f,i 0,i 0,i 0,i 0,i 1,i 4,i 5,i 0,f,i 0,f,f,i 0,i 0,i 0,i 0,f,i 0,i 0,i 0,i 0,i 1,i 4,i 5,i 0,f,i 0,f,f,i 0,i 0,i 0,i 0,f,i 0,i 0,i 0,i 0,i 1,i 4,i 5,i 0,f,i 0,f,f,i 0,i 0,i 0,i 0,f,i 0,i 0,i 0,i 0,i 1,i 3,i 4,i 0,f,i 0,f,f,i 0,i 0,i 0,i 0,f,i 0,i 0,i 0,i 0,i 1,i 4,i 4,i 0,f,i 0,f,f,i 0,i 0,i 0,i 0,f,i 0,i 0,i 0,i 0,i 1,i 4,i 4,i 0,f,i 0,f,f,i 0,i 0,i 0,i 0,f,i 0,i 0,i 0,i 0,i 1,i 3,i 4,i 0,f,i 0,f,f,i 0,i 0,i 0,i 0,f,i 0,i 0,i 0,i 0,i 2,i 3,i 0,i 0,f,i 0,f,f,i 0,i 0,i 0,i 0,f,i 0,i 0,i 0,i 0,i 1,i 4,i 4,i 0,f,i 0,f,f,i 0,i 0,i 0,i 0,f,i 0,i 0,i 0,i 0] 60 0 0 0 false)],
  next:=8,ro:=8,zm:=7,ret:=i 16,
  post:=[],next':=15}
def zcl:E2.Fact:={
  f:=11,args:=[.agg [.str [97],.slice 7 0 0 17 17 none],i 16,i 1],
  pre:=[(0,g0),
    (7,.row [i 7,i 0,i 0,i 0,f,i 0,f,f,i 0,i 0,i 0,i 0,f,i 0,i 0,i 0,i 3,i 5,i 0,i 0,i 0,f,i 0,f,f,i 2,i 2,i 3,i 2,t,i 0,i 0,i 0,i 0,i 1,i 3,i 4,i 0,f,i 0,f,f,i 0,i 0,i 0,i 0,f,i 0,i 0,i 0,i 0,i 1,i 4,i 5,i 0,f,i 0,f,f,i 0,i 0,i 0,i 0,f,i 0,i 0,i 0,i 0,i 1,i 4,i 6,i 0,f,i 0,f,f,i 0,i 0,i 0,i 0,f,i 0,i 0,i 0,i 0,i 2,i 4,i 0,i 0,f,i 0,f,f,i 0,i 0,i 0,i 0,f,i 0,i 0,i 0,i 0,i 1,i 3,i 7,i 0,f,i 0,f,f,i 0,i 0,i 0,i 0,f,i 0,i 0,i 0,i 0,i 1,i 3,i 8,i 0,f,i 0,f,f,i 0,i 0,i 0,i 0,f,i 0,i 0,i 0,i 0,i 1,i 4,i 5,i 0,f,i 0,f,f,i 0,i 0,i 0,i 0,f,i 0,i 0,i 0,i 0,i 1,i 4,i 5,i 0,f,i 0,f,f,i 0,i 0,i 0,i 0,f,i 0,i 0,i 0,i 0,i 1,i 4,i 5,i 0,f,i 0,f,f,i 0,i 0,i 0,i 0,f,i 0,i 0,i 0,i 0,i 1,i 3,i 4,i 0,f,i 0,f,f,i 0,i 0,i 0,i 0,f,i 0,i 0,i 0,i 0,i 1,i 4,i 4,i 0,f,i 0,f,f,i 0,i 0,i 0,i 0,f,i 0,i 0,i 0,i 0,i 1,i 4,i 4,i 0,f,i 0,f,f,i 0,i 0,i 0,i 0,f,i 0,i 0,i 0,i 0,i 1,i 3,i 4,i 0,f,i 0,f,f,i 0,i 0,i 0,i 0,f,i 0,i 0,i 0,i 0,i 2,i 3,i 0,i 0,f,i 0,f,f,i 0,i 0,i 0,i 0,f,i 0,i 0,i 0,i 0,i 1,i 4,i 4,i 0,f,i 0,f,f,i 0,i 0,i 0,i 0,f,i 0,i 0,i 0,i 0] 60 0 0 0 false)],
  next:=8,ro:=8,zm:=7,ret:=.tuple [.agg [.str [97],.slice 271 1 0 2 1 none],i 0],
  post:=[(265,.row [i 7,i 0,i 0,i 0,f,i 0,f,f,i 0,i 0,i 0,i 0,f,i 0,i 0,i 0,i 3,i 5,i 0,i 0,i 0,f,i 0,f,f,i 2,i 2,i 3,i 2,t,i 0,i 0,i 0,i 0,i 1,i 3,i 4,i 0,f,i 0,f,f,i 0,i 0,i 0,i 0,f,i 0,i 0,i 0,i 0,i 1,i 4,i 5,i 0,f,i 0,f,f,i 0,i 0,i 0,i 0,f,i 0,i 0,i 0,i 0,i 1,i 4,i 6,i 0,f,i 0,f,f,i 0,i 0,i 0,i 0,f,i 0,i 0,i 0,i 0,i 2,i 4,i 0,i 0,f,i 0,f,f,i 0,i 0,i 0,i 0,f,i 0,i 0,i 0,i 0,i 1,i 3,i 7,i 0,f,i 0,f,f,i 0,i 0,i 0,i 0,f,i 0,i 0,i 0,i 0,i 1,i 3,i 8,i 0,f,i 0,f,f,i 0,i 0,i 0,i 0,f,i 0,i 0,i 0,i 0,i 1,i 4,i 5,i 0,f,i 0,f,f,i 0,i 0,i 0,i 0,f,i 0,i 0,i 0,i 0,i 1,i 4,i 5,i 0,f,i 0,f,f,i 0,i 0,i 0,i 0,f,i 0,i 0,i 0,i 0,i 1,i 4,i 5,i 0,f,i 0,f,f,i 0,i 0,i 0,i 0,f,i 0,i 0,i 0,i 0,i 1,i 3,i 4,i 0,f,i 0,f,f,i 0,i 0,i 0,i 0,f,i 0,i 0,i 0,i 0,i 1,i 4,i 4,i 0,f,i 0,f,f,i 0,i 0,i 0,i 0,f,i 0,i 0,i 0,i 0,i 1,i 4,i 4,i 0,f,i 0,f,f,i 0,i 0,i 0,i 0,f,i 0,i 0,i 0,i 0,i 1,i 3,i 4,i 0,f,i 0,f,f,i 0,i 0,i 0,i 0,f,i 0,i 0,i 0,i 0,i 2,i 3,i 0,i 0,f,i 0,f,f,i 0,i 0,i 0,i 0,f,i 0,i 0,i 0,i 0] 60 0 0 0 false),
    (269,.row [.slice 265 0 0 16 17 none,i 0,t,i 4] 41 0 0 0 false),
    (271,.row [.slice 269 0 0 1 4 none,.slice 291 0 0 1 4 none] 38 1 0 0 false),
    (277,.row [i 7,i 0,i 0,i 0,f,i 0,f,f,i 0,i 0,i 0,i 0,f,i 0,i 0,i 0,i 3,i 1,i 4,i 4,i 0,f,i 0,f,f,i 0,i 0,i 0,i 0,f,i 0,i 0,i 0,i 0] 60 1 0 0 false),
    (291,.row [.slice 277 1 0 2 17 none,i 1,f,i 0] 41 0 0 0 false)],next':=293}
def zj1:E2.Fact:={
  f:=29,args:=[.agg [.str [97],.slice 7 1 0 17 17 none]],
  pre:=[(0,g0),
    (7,.row [i 7,i 0,i 0,i 0,f,i 0,f,f,i 0,i 0,i 0,i 0,f,i 0,i 0,i 0,i 3,i 5,i 0,i 0,i 0,f,i 0,f,f,i 2,i 2,i 3,i 2,t,i 0,i 0,i 0,i 0,i 1,i 3,i 4,i 0,f,i 0,f,f,i 0,i 0,i 0,i 0,f,i 0,i 0,i 0,i 0,i 1,i 4,i 5,i 0,f,i 0,f,f,i 0,i 0,i 0,i 0,f,i 0,i 0,i 0,i 0,i 1,i 4,i 6,i 0,f,i 0,f,f,i 0,i 0,i 0,i 0,f,i 0,i 0,i 0,i 0,i 2,i 4,i 0,i 0,f,i 0,f,f,i 0,i 0,i 0,i 0,f,i 0,i 0,i 0,i 0,i 1,i 3,i 7,i 0,f,i 0,f,f,i 0,i 0,i 0,i 0,f,i 0,i 0,i 0,i 0,i 1,i 3,i 8,i 0,f,i 0,f,f,i 0,i 0,i 0,i 0,f,i 0,i 0,i 0,i 0,i 1,i 4,i 5,i 0,f,i 0,f,f,i 0,i 0,i 0,i 0,f,i 0,i 0,i 0,i 0,i 1,i 4,i 5,i 0,f,i 0,f,f,i 0,i 0,i 0,i 0,f,i 0,i 0,i 0,i 0,i 1,i 4,i 5,i 0,f,i 0,f,f,i 0,i 0,i 0,i 0,f,i 0,i 0,i 0,i 0,i 1,i 3,i 4,i 0,f,i 0,f,f,i 0,i 0,i 0,i 0,f,i 0,i 0,i 0,i 0,i 1,i 4,i 4,i 0,f,i 0,f,f,i 0,i 0,i 0,i 0,f,i 0,i 0,i 0,i 0,i 1,i 4,i 4,i 0,f,i 0,f,f,i 0,i 0,i 0,i 0,f,i 0,i 0,i 0,i 0,i 1,i 3,i 4,i 0,f,i 0,f,f,i 0,i 0,i 0,i 0,f,i 0,i 0,i 0,i 0,i 2,i 3,i 0,i 0,f,i 0,f,f,i 0,i 0,i 0,i 0,f,i 0,i 0,i 0,i 0,i 1,i 4,i 4,i 0,f,i 0,f,f,i 0,i 0,i 0,i 0,f,i 0,i 0,i 0,i 0] 60 1 0 0 false)],
  next:=8,ro:=8,zm:=7,ret:=.tuple [i 0,i 0],
  post:=[],next':=165}
def zcm:E2.Fact:={
  f:=43,args:=[.agg [.str [97],.slice 7 1 0 2 1 none]],
  pre:=[(0,g0),
    (7,.row [.slice 8 0 0 1 4 none,.slice 9 0 0 1 4 none] 38 1 0 0 false),
    (8,.row [.slice 10 0 0 16 17 none,i 0,t,i 4] 41 0 0 0 false),
    (9,.row [.slice 11 1 0 2 17 none,i 1,f,i 0] 41 0 0 0 false),
    (10,.row [i 7,i 0,i 0,i 0,f,i 0,f,f,i 0,i 0,i 0,i 0,f,i 0,i 0,i 0,i 3,i 5,i 0,i 0,i 0,f,i 0,f,f,i 2,i 2,i 3,i 2,t,i 0,i 0,i 0,i 0,i 1,i 3,i 4,i 0,f,i 0,f,f,i 0,i 0,i 0,i 0,f,i 0,i 0,i 0,i 0,i 1,i 4,i 5,i 0,f,i 0,f,f,i 0,i 0,i 0,i 0,f,i 0,i 0,i 0,i 0,i 1,i 4,i 6,i 0,f,i 0,f,f,i 0,i 0,i 0,i 0,f,i 0,i 0,i 0,i 0,i 2,i 4,i 0,i 0,f,i 0,f,f,i 0,i 0,i 0,i 0,f,i 0,i 0,i 0,i 0,i 1,i 3,i 7,i 0,f,i 0,f,f,i 0,i 0,i 0,i 0,f,i 0,i 0,i 0,i 0,i 1,i 3,i 8,i 0,f,i 0,f,f,i 0,i 0,i 0,i 0,f,i 0,i 0,i 0,i 0,i 1,i 4,i 5,i 0,f,i 0,f,f,i 0,i 0,i 0,i 0,f,i 0,i 0,i 0,i 0,i 1,i 4,i 5,i 0,f,i 0,f,f,i 0,i 0,i 0,i 0,f,i 0,i 0,i 0,i 0,i 1,i 4,i 5,i 0,f,i 0,f,f,i 0,i 0,i 0,i 0,f,i 0,i 0,i 0,i 0,i 1,i 3,i 4,i 0,f,i 0,f,f,i 0,i 0,i 0,i 0,f,i 0,i 0,i 0,i 0,i 1,i 4,i 4,i 0,f,i 0,f,f,i 0,i 0,i 0,i 0,f,i 0,i 0,i 0,i 0,i 1,i 4,i 4,i 0,f,i 0,f,f,i 0,i 0,i 0,i 0,f,i 0,i 0,i 0,i 0,i 1,i 3,i 4,i 0,f,i 0,f,f,i 0,i 0,i 0,i 0,f,i 0,i 0,i 0,i 0,i 2,i 3,i 0,i 0,f,i 0,f,f,i 0,i 0,i 0,i 0,f,i 0,i 0,i 0,i 0] 60 0 0 0 false),
    (11,.row [i 7,i 0,i 0,i 0,f,i 0,f,f,i 0,i 0,i 0,i 0,f,i 0,i 0,i 0,i 3,i 1,i 4,i 4,i 0,f,i 0,f,f,i 0,i 0,i 0,i 0,f,i 0,i 0,i 0,i 0] 60 1 0 0 false)],
  next:=12,ro:=12,zm:=7,ret:=.tuple [i 0,i 0],
  post:=[],next':=416}
end Go.Proofs.YtpgchdcifbaioaaGreatDoor.bookAwake
