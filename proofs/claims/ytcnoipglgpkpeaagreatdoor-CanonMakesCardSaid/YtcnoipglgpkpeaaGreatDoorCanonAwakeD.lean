import Derived.Test.YtcnoipglgpkpeaaGreatDoorCanonAwakeGlob
namespace Go.Proofs.YtcnoipglgpkpeaaGreatDoor.canonAwake
open Go
set_option maxRecDepth 100000
def qm9:E2.Fact:={
  f:=92,args:=[.agg [.str [97],.slice 4 0 0 5 17 (some 5)]],
  pre:=[(1,g1),
    (4,.row [i 7,i 0,i 0,i 0,f,i 0,f,f,i 0,i 0,i 0,i 0,f,i 0,i 0,i 0,i 3,i 5,i 0,i 0,i 0,f,i 0,f,f,i 2,i 2,i 2,i 2,f,i 0,i 0,i 0,i 0,i 1,i 4,i 4,i 0,f,i 0,f,f,i 0,i 0,i 0,i 0,f,i 0,i 0,i 0,i 0,i 1,i 4,i 5,i 0,f,i 0,f,f,i 0,i 0,i 0,i 0,f,i 0,i 0,i 0,i 0,i 1,i 3,i 6,i 0,f,i 0,f,f,i 0,i 0,i 0,i 0,f,i 0,i 0,i 0,i 0] 128 0 0 0 true)],
  next:=5,ro:=5,zb:=4,ret:=.tuple [i 0,i 0],
  post:=[],next':=54}
def zai:E2.Fact:={
  f:=125,args:=[.agg [.str [97],.slice 4 0 0 5 17 (some 5)]],
  pre:=[(1,g1),
    (3,g3),
    (4,.row [i 7,i 0,i 0,i 0,f,i 0,f,f,i 0,i 0,i 0,i 0,f,i 0,i 0,i 0,i 3,i 5,i 0,i 0,i 0,f,i 0,f,f,i 2,i 2,i 2,i 2,f,i 0,i 0,i 0,i 0,i 1,i 4,i 4,i 0,f,i 0,f,f,i 0,i 0,i 0,i 0,f,i 0,i 0,i 0,i 0,i 1,i 4,i 5,i 0,f,i 0,f,f,i 0,i 0,i 0,i 0,f,i 0,i 0,i 0,i 0,i 1,i 3,i 6,i 0,f,i 0,f,f,i 0,i 0,i 0,i 0,f,i 0,i 0,i 0,i 0] 128 0 0 0 true)],
  next:=5,ro:=5,zb:=4,ret:=.slice 177 0 0 1 5 none,
  post:=[(167,.row [i 1,i 4,i 4,i 0,f,i 0,f,f,i 0,i 0,i 0,i 0,f,i 0,i 0,i 0,i 0,i 1,i 4,i 5,i 0,f,i 0,f,f,i 0,i 0,i 0,i 0,f,i 0,i 0,i 0,i 0,i 1,i 3,i 6,i 0,f,i 0,f,f,i 0,i 0,i 0,i 0,f,i 0,i 0,i 0,i 0] 128 2 0 0 false),
    (177,.row [i 2,i 2,i 2,i 2,.slice 167 2 0 3 17 none] 163 0 0 0 false)],next':=178}
def zaj:E2.Fact:={
  f:=175,args:=[.agg [i 2,i 2,i 2,i 2],.slice 4 2 0 3 17 none,.nils],
  pre:=[(4,.row [i 1,i 4,i 4,i 0,f,i 0,f,f,i 0,i 0,i 0,i 0,f,i 0,i 0,i 0,i 0,i 1,i 4,i 5,i 0,f,i 0,f,f,i 0,i 0,i 0,i 0,f,i 0,i 0,i 0,i 0,i 1,i 3,i 6,i 0,f,i 0,f,f,i 0,i 0,i 0,i 0,f,i 0,i 0,i 0,i 0] 128 2 0 0 false)],
  next:=5,ro:=5,zb:=4,ret:=.tuple [.slice 37 2 0 3 2 none,i 0],
  post:=[(37,.row [i 2,i 1,i 2,i 1,i 4,i 1] 26 2 0 0 false)],next':=71}
def zak:E2.Fact:={
  f:=159,args:=[.agg [i 2,i 2,i 2,i 2],.slice 4 2 0 3 12 none],
  pre:=[(4,.row [i 0,i 4,f,f,f,i 0,i 2,i 1,i 0,i 1,i 0,i 1,i 1,i 4,f,f,f,i 0,i 2,i 1,i 0,i 1,i 0,i 1,i 2,i 3,f,f,f,i 0,i 4,i 1,i 0,i 1,i 0,i 1] 227 2 0 0 false)],
  next:=5,ro:=5,zb:=4,ret:=.tuple [.nils,.slice 48 0 0 3 12 none,i 0],
  post:=[(48,.row [i 0,i 4,f,f,f,i 0,i 2,i 1,i 0,i 1,i 0,i 1,i 1,i 4,f,f,f,i 0,i 2,i 1,i 0,i 1,i 0,i 1,i 2,i 3,f,f,f,i 0,i 4,i 1,i 0,i 1,i 0,i 1] 227 0 0 0 false)],next':=50}
def zal:E2.Fact:={
  f:=136,args:=[.agg [i 2,i 2,i 2,i 2],.slice 4 2 0 3 17 none],
  pre:=[(4,.row [i 1,i 4,i 4,i 0,f,i 0,f,f,i 0,i 0,i 0,i 0,f,i 0,i 0,i 0,i 0,i 1,i 4,i 5,i 0,f,i 0,f,f,i 0,i 0,i 0,i 0,f,i 0,i 0,i 0,i 0,i 1,i 3,i 6,i 0,f,i 0,f,f,i 0,i 0,i 0,i 0,f,i 0,i 0,i 0,i 0] 128 2 0 0 false)],
  next:=5,ro:=5,zb:=4,ret:=.tuple [.agg [.nils,.nils,.nils,.slice 204 2 0 3 2 none],i 0],
  post:=[(204,.row [i 2,i 1,i 2,i 1,i 4,i 1] 26 2 0 0 false)],next':=209}
def q4x:E2.Fact:={
  f:=128,args:=[.agg [.str [97],.slice 4 0 0 5 17 (some 5)],.slice 5 0 0 3 2 none],
  pre:=[(1,g1),
    (3,g3),
    (4,.row [i 7,i 0,i 0,i 0,f,i 0,f,f,i 0,i 0,i 0,i 0,f,i 0,i 0,i 0,i 3,i 5,i 0,i 0,i 0,f,i 0,f,f,i 2,i 2,i 2,i 2,f,i 0,i 0,i 0,i 0,i 1,i 4,i 4,i 0,f,i 0,f,f,i 0,i 0,i 0,i 0,f,i 0,i 0,i 0,i 0,i 1,i 4,i 5,i 0,f,i 0,f,f,i 0,i 0,i 0,i 0,f,i 0,i 0,i 0,i 0,i 1,i 3,i 6,i 0,f,i 0,f,f,i 0,i 0,i 0,i 0,f,i 0,i 0,i 0,i 0] 128 0 0 0 true),
    (5,.row [i 2,i 1,i 2,i 1,i 4,i 1] 26 0 0 0 false)],
  next:=6,ro:=6,zb:=4,ret:=.tuple [.slice 245 2 0 3 2 none,i 0],
  post:=[(245,.row [i 2,i 1,i 2,i 1,i 4,i 1] 26 2 0 0 false)],next':=272}
def zam:E2.Fact:={
  f:=127,args:=[.agg [.str [97],.slice 4 0 0 5 17 (some 5)],.slice 5 0 0 3 2 none],
  pre:=[(1,g1),
    (3,g3),
    (4,.row [i 7,i 0,i 0,i 0,f,i 0,f,f,i 0,i 0,i 0,i 0,f,i 0,i 0,i 0,i 3,i 5,i 0,i 0,i 0,f,i 0,f,f,i 2,i 2,i 2,i 2,f,i 0,i 0,i 0,i 0,i 1,i 4,i 4,i 0,f,i 0,f,f,i 0,i 0,i 0,i 0,f,i 0,i 0,i 0,i 0,i 1,i 4,i 5,i 0,f,i 0,f,f,i 0,i 0,i 0,i 0,f,i 0,i 0,i 0,i 0,i 1,i 3,i 6,i 0,f,i 0,f,f,i 0,i 0,i 0,i 0,f,i 0,i 0,i 0,i 0] 128 0 0 0 true),
    (5,.row [i 2,i 1,i 2,i 1,i 4,i 1] 26 0 0 0 false)],
  next:=6,ro:=6,zb:=4,ret:=.tuple [.slice 409 2 0 3 2 none,.agg [i 8,i 1],i 0],
  post:=[(409,.row [i 0,i 1,i 2,i 1,i 4,i 1] 26 2 0 0 false)],next':=440}
def zan:E2.Fact:={
  f:=132,args:=[.agg [.str [97],.slice 4 0 0 5 17 (some 5)]],
  pre:=[(1,g1),
    (3,g3),
    (4,.row [i 7,i 0,i 0,i 0,f,i 0,f,f,i 0,i 0,i 0,i 0,f,i 0,i 0,i 0,i 3,i 5,i 0,i 0,i 0,f,i 0,f,f,i 2,i 2,i 2,i 2,f,i 0,i 0,i 0,i 0,i 1,i 4,i 4,i 0,f,i 0,f,f,i 0,i 0,i 0,i 0,f,i 0,i 0,i 0,i 0,i 1,i 4,i 5,i 0,f,i 0,f,f,i 0,i 0,i 0,i 0,f,i 0,i 0,i 0,i 0,i 1,i 3,i 6,i 0,f,i 0,f,f,i 0,i 0,i 0,i 0,f,i 0,i 0,i 0,i 0] 128 0 0 0 true)],
  next:=5,ro:=5,zb:=4,ret:=.tuple [.slice 219 4 0 3 2 none,i 0],
  post:=[(219,.row [i 2,i 0,i 3,i 0,i 4,i 0,i 0,i 0,i 0,i 0] 187 4 4 0 false)],next':=238}
def zao:E2.Fact:={
  f:=117,args:=[.agg [.str [97],.slice 4 0 0 5 17 (some 5)],.slice 5 0 0 3 2 none],
  pre:=[(1,g1),
    (3,g3),
    (4,.row [i 7,i 0,i 0,i 0,f,i 0,f,f,i 0,i 0,i 0,i 0,f,i 0,i 0,i 0,i 3,i 5,i 0,i 0,i 0,f,i 0,f,f,i 2,i 2,i 2,i 2,f,i 0,i 0,i 0,i 0,i 1,i 4,i 4,i 0,f,i 0,f,f,i 0,i 0,i 0,i 0,f,i 0,i 0,i 0,i 0,i 1,i 4,i 5,i 0,f,i 0,f,f,i 0,i 0,i 0,i 0,f,i 0,i 0,i 0,i 0,i 1,i 3,i 6,i 0,f,i 0,f,f,i 0,i 0,i 0,i 0,f,i 0,i 0,i 0,i 0] 128 0 0 0 true),
    (5,.row [i 2,i 1,i 2,i 1,i 4,i 1] 26 0 0 0 false)],
  next:=6,ro:=6,zb:=4,ret:=.tuple [.slice 1149 2 0 3 10 none,i 0],
  post:=[(1149,.row [i 0,i 1,i 2,i 1,i 0,i 4,i 0,f,i 2,i 0,i 2,i 1,i 2,i 1,i 1,i 4,i 0,f,i 3,i 0,i 4,i 1,i 4,i 1,i 2,i 4,i 0,f,i 4,i 0] 38 2 0 0 false)],next':=1154}
def zap:E2.Fact:={
  f:=22,args:=[.slice 4 2 0 3 10 none],
  pre:=[(4,.row [i 0,i 1,i 2,i 1,i 0,i 4,i 0,f,i 2,i 0,i 2,i 1,i 2,i 1,i 1,i 4,i 0,f,i 3,i 0,i 4,i 1,i 4,i 1,i 2,i 4,i 0,f,i 4,i 0] 38 2 0 0 false)],
  next:=5,ro:=5,zb:=4,ret:=.tuple [i 0,i 0],
  post:=[],next':=64}
def q06:E2.Fact:={
  f:=22,args:=[.slice 4 0 0 3 10 none],
  pre:=[(4,.row [i 0,i 1,i 2,i 1,i 0,i 4,i 0,f,i 2,i 0,i 2,i 1,i 2,i 1,i 1,i 4,i 0,f,i 3,i 0,i 4,i 1,i 4,i 1,i 2,i 4,i 0,f,i 4,i 0] 38 0 0 0 false)],
  next:=5,ro:=5,zb:=4,ret:=.tuple [i 0,i 0],
  post:=[],next':=64}
def q07:E2.Fact:={
  f:=87,args:=[.func (.func 111) [] [.ptr 4 0 0 1],.slice 5 0 0 3 10 none],
  pre:=[(4,.row [.func (.func 85) [] [.ptr 6 0 0 1]] 121 0 0 0 true),
    (5,.row [i 0,i 1,i 2,i 1,i 0,i 4,i 0,f,i 2,i 0,i 2,i 1,i 2,i 1,i 1,i 4,i 0,f,i 3,i 0,i 4,i 1,i 4,i 1,i 2,i 4,i 0,f,i 4,i 0] 38 0 0 0 false),
    (6,.row [i 4] 3 0 0 0 true)],
  next:=7,ro:=7,zb:=4,ret:=.tuple [.slice 8 0 0 3 10 none,i 0],
  post:=[(8,.row [i 0,i 1,i 2,i 1,i 4,i 4,i 0,f,i 2,i 0,i 2,i 1,i 2,i 1,i 5,i 4,i 0,f,i 3,i 0,i 4,i 1,i 4,i 1,i 6,i 4,i 0,f,i 4,i 0] 38 0 0 0 false)],next':=85}
def q08:E2.Fact:={
  f:=22,args:=[.slice 4 0 0 3 10 none],
  pre:=[(4,.row [i 0,i 1,i 2,i 1,i 4,i 4,i 0,f,i 2,i 0,i 2,i 1,i 2,i 1,i 5,i 4,i 0,f,i 3,i 0,i 4,i 1,i 4,i 1,i 6,i 4,i 0,f,i 4,i 0] 38 0 0 0 false)],
  next:=5,ro:=5,zb:=4,ret:=.tuple [i 0,i 0],
  post:=[],next':=64}
def q09:E2.Fact:={
  f:=87,args:=[.func (.func 89) [] [.ptr 4 0 0 2],.slice 5 0 0 3 10 none],
  pre:=[(4,.row [i 1,i 1] 26 0 0 0 true),
    (5,.row [i 0,i 1,i 2,i 1,i 4,i 4,i 0,f,i 2,i 0,i 2,i 1,i 2,i 1,i 5,i 4,i 0,f,i 3,i 0,i 4,i 1,i 4,i 1,i 6,i 4,i 0,f,i 4,i 0] 38 0 0 0 false)],
  next:=6,ro:=6,zb:=4,ret:=.tuple [.slice 7 0 0 3 10 none,i 0],
  post:=[(7,.row [i 0,i 1,i 2,i 1,i 4,i 4,i 0,f,i 2,i 0,i 2,i 1,i 2,i 1,i 5,i 4,i 0,f,i 3,i 0,i 4,i 1,i 4,i 1,i 6,i 4,i 0,f,i 4,i 0] 38 0 0 0 false)],next':=87}
def qvc:E2.Fact:={
  f:=54,args:=[.agg [.str [97],.slice 4 0 0 5 17 (some 5)],.agg [i 0,i 1,i 4,f,f,i 1,i 1,i 0,i 0,i 0,i 0]],
  pre:=[(1,g1),
    (3,g3),
    (4,.row [i 7,i 0,i 0,i 0,f,i 0,f,f,i 0,i 0,i 0,i 0,f,i 0,i 0,i 0,i 3,i 5,i 0,i 0,i 0,f,i 0,f,f,i 2,i 2,i 2,i 2,f,i 0,i 0,i 0,i 0,i 1,i 4,i 4,i 0,f,i 0,f,f,i 0,i 0,i 0,i 0,f,i 0,i 0,i 0,i 0,i 1,i 4,i 5,i 0,f,i 0,f,f,i 0,i 0,i 0,i 0,f,i 0,i 0,i 0,i 0,i 1,i 3,i 6,i 0,f,i 0,f,f,i 0,i 0,i 0,i 0,f,i 0,i 0,i 0,i 0] 128 0 0 0 true)],
  next:=5,ro:=5,zb:=4,ret:=.tuple [.slice 2025 0 0 3 10 none,.agg [i 0,i 0]],
  post:=[(2025,.row [i 0,i 1,i 2,i 1,i 4,i 4,i 0,f,i 2,i 0,i 2,i 1,i 2,i 1,i 5,i 4,i 0,f,i 3,i 0,i 4,i 1,i 4,i 1,i 6,i 4,i 0,f,i 4,i 0] 38 0 0 0 false)],next':=2106}
def qke:E2.Fact:={
  f:=92,args:=[.agg [.str [97],.slice 4 0 0 5 17 none]],
  pre:=[(1,g1),
    (4,.row [i 7,i 0,i 0,i 0,f,i 0,f,f,i 0,i 0,i 0,i 0,f,i 0,i 0,i 0,i 3,i 5,i 0,i 0,i 0,f,i 0,f,f,i 2,i 2,i 3,i 2,f,i 0,i 0,i 0,i 0,i 1,i 4,i 4,i 0,f,i 0,f,f,i 0,i 0,i 0,i 0,f,i 0,i 0,i 0,i 0,i 1,i 4,i 5,i 0,f,i 0,f,f,i 0,i 0,i 0,i 0,f,i 0,i 0,i 0,i 0,i 1,i 3,i 6,i 0,f,i 0,f,f,i 0,i 0,i 0,i 0,f,i 0,i 0,i 0,i 0] 128 0 0 0 false)],
  next:=5,ro:=5,zb:=4,ret:=.tuple [i 0,i 0],
  post:=[],next':=54}
def q1a:E2.Fact:={
  f:=125,args:=[.agg [.str [97],.slice 4 0 0 5 17 none]],
  pre:=[(1,g1),
    (3,g3),
    (4,.row [i 7,i 0,i 0,i 0,f,i 0,f,f,i 0,i 0,i 0,i 0,f,i 0,i 0,i 0,i 3,i 5,i 0,i 0,i 0,f,i 0,f,f,i 2,i 2,i 3,i 2,f,i 0,i 0,i 0,i 0,i 1,i 4,i 4,i 0,f,i 0,f,f,i 0,i 0,i 0,i 0,f,i 0,i 0,i 0,i 0,i 1,i 4,i 5,i 0,f,i 0,f,f,i 0,i 0,i 0,i 0,f,i 0,i 0,i 0,i 0,i 1,i 3,i 6,i 0,f,i 0,f,f,i 0,i 0,i 0,i 0,f,i 0,i 0,i 0,i 0] 128 0 0 0 false)],
  next:=5,ro:=5,zb:=4,ret:=.slice 177 0 0 1 5 none,
  post:=[(167,.row [i 1,i 4,i 4,i 0,f,i 0,f,f,i 0,i 0,i 0,i 0,f,i 0,i 0,i 0,i 0,i 1,i 4,i 5,i 0,f,i 0,f,f,i 0,i 0,i 0,i 0,f,i 0,i 0,i 0,i 0,i 1,i 3,i 6,i 0,f,i 0,f,f,i 0,i 0,i 0,i 0,f,i 0,i 0,i 0,i 0] 128 2 0 0 false),
    (177,.row [i 2,i 2,i 3,i 2,.slice 167 2 0 3 17 none] 163 0 0 0 false)],next':=178}
def q1b:E2.Fact:={
  f:=175,args:=[.agg [i 2,i 2,i 3,i 2],.slice 4 2 0 3 17 none,.nils],
  pre:=[(4,.row [i 1,i 4,i 4,i 0,f,i 0,f,f,i 0,i 0,i 0,i 0,f,i 0,i 0,i 0,i 0,i 1,i 4,i 5,i 0,f,i 0,f,f,i 0,i 0,i 0,i 0,f,i 0,i 0,i 0,i 0,i 1,i 3,i 6,i 0,f,i 0,f,f,i 0,i 0,i 0,i 0,f,i 0,i 0,i 0,i 0] 128 2 0 0 false)],
  next:=5,ro:=5,zb:=4,ret:=.tuple [.slice 37 2 0 3 2 none,i 0],
  post:=[(37,.row [i 2,i 1,i 2,i 1,i 6,i 1] 26 2 0 0 false)],next':=71}
def q1c:E2.Fact:={
  f:=239,args:=[.agg [.slice 4 0 0 3 12 none],.agg [i 0,i 2,i (-1),i 2,f,i 0,i 0],.agg [i 2,i 1]],
  pre:=[(4,.row [i 0,i 4,f,f,f,i 0,i 2,i 1,i 0,i 1,i 0,i 1,i 1,i 4,f,f,f,i 0,i 2,i 1,i 0,i 1,i 0,i 1,i 2,i 3,f,f,f,i 0,i 6,i 1,i 0,i 1,i 0,i 1] 227 0 0 0 false)],
  next:=5,ro:=5,zb:=4,ret:=.tuple [.agg [i 2,i 1],i 0],
  post:=[],next':=67}
def qqs:E2.Fact:={
  f:=222,args:=[.agg [i 2,i 2,i 3,i 2],i 3,.slice 4 0 0 3 12 none],
  pre:=[(4,.row [i 0,i 4,f,f,f,i 0,i 2,i 1,i 0,i 1,i 0,i 1,i 1,i 4,f,f,f,i 0,i 2,i 1,i 0,i 1,i 0,i 1,i 2,i 3,f,f,f,i 0,i 6,i 1,i 0,i 1,i 0,i 1] 227 0 0 0 false)],
  next:=5,ro:=5,zb:=4,ret:=.tuple [.slice 79 1 0 2 7 none,i 0],
  post:=[(79,.row [i 0,i 2,i (-1),i 2,f,i 2,i 1,i 3,i 3,i 2,i (-1),t,i 0,i 1] 309 1 1 0 false)],next':=181}
def qqt:E2.Fact:={
  f:=268,args:=[.ptr 4 0 0 5,.agg [i 0,i 2,i (-1),i 2,f,i 2,i 1]],
  pre:=[(4,.row [.slice 5 0 0 3 12 none,i 3,i 2,i 1,.map 6] 320 0 0 0 true),
    (5,.row [i 0,i 4,f,f,f,i 0,i 2,i 1,i 0,i 1,i 0,i 1,i 1,i 4,f,f,f,i 0,i 2,i 1,i 0,i 1,i 0,i 1,i 2,i 3,f,f,f,i 0,i 6,i 1,i 0,i 1,i 0,i 1] 227 0 0 0 false),
    (6,.map [] 0)],
  next:=7,ro:=7,zb:=4,ret:=t,
  post:=[],next':=73}
def q1d:E2.Fact:={
  f:=223,args:=[.agg [i 2,i 2,i 3,i 2],i 3,.slice 4 0 0 3 12 none,.slice 5 0 0 1 1 none],
  pre:=[(4,.row [i 0,i 4,f,f,f,i 0,i 2,i 1,i 0,i 1,i 0,i 1,i 1,i 4,f,f,f,i 0,i 2,i 1,i 0,i 1,i 0,i 1,i 2,i 3,f,f,f,i 0,i 6,i 1,i 0,i 1,i 0,i 1] 227 0 0 0 false),
    (5,.row [i 4] 3 0 0 0 false)],
  next:=6,ro:=6,zb:=4,ret:=.tuple [.slice 341 0 0 1 1 none,i 0],
  post:=[(341,.row [i 0] 3 0 0 0 false)],next':=346}
def q1e:E2.Fact:={
  f:=201,args:=[.agg [i 2,i 2,i 3,i 2],i 3,.slice 4 0 0 3 12 none],
  pre:=[(4,.row [i 0,i 4,f,f,f,i 0,i 2,i 1,i 0,i 1,i 0,i 1,i 1,i 4,f,f,f,i 0,i 2,i 1,i 0,i 1,i 0,i 1,i 2,i 3,f,f,f,i 0,i 6,i 1,i 0,i 1,i 0,i 1] 227 0 0 0 false)],
  next:=5,ro:=5,zb:=4,ret:=.tuple [.slice 492 1 0 2 1 none,i 0],
  post:=[(492,.row [i 4,i 0] 3 1 0 0 false)],next':=843}
def q1f:E2.Fact:={
  f:=226,args:=[.ptr 4 0 0 5,.slice 5 1 0 2 7 none,.slice 6 1 0 2 1 none],
  pre:=[(4,.row [.slice 7 0 0 3 12 none,i 3,i 2,i 1,.map 8] 320 0 0 0 true),
    (5,.row [i 0,i 2,i (-1),i 2,f,i 2,i 1,i 3,i 3,i 2,i (-1),t,i 0,i 1] 309 1 1 0 false),
    (6,.row [i 4,i 0] 3 1 0 0 false),
    (7,.row [i 0,i 4,f,f,f,i 0,i 2,i 1,i 0,i 1,i 0,i 1,i 1,i 4,f,f,f,i 0,i 2,i 1,i 0,i 1,i 0,i 1,i 2,i 3,f,f,f,i 0,i 6,i 1,i 0,i 1,i 0,i 1] 227 0 0 0 false),
    (8,.map [] 0)],
  next:=9,ro:=4,zb:=4,ret:=t,
  post:=[(4,.row [.slice 7 0 0 3 12 none,i 3,i 2,i 1,.map 8] 320 0 0 0 true),
    (5,.row [i 0,i 2,i (-1),i 2,f,i 2,i 1,i 3,i 3,i 2,i (-1),t,i 0,i 1] 309 1 1 0 false),
    (6,.row [i 4,i 0] 3 1 0 0 false),
    (7,.row [i 0,i 4,f,f,f,i 0,i 2,i 1,i 0,i 1,i 0,i 1,i 1,i 4,f,f,f,i 0,i 4,i 1,i 0,i 1,i 0,i 1,i 2,i 3,f,f,f,i 0,i 6,i 1,i 0,i 1,i 0,i 1] 227 0 0 0 false),
    (8,.map [] 0)],next':=136}
def q1g:E2.Fact:={
  f:=159,args:=[.agg [i 2,i 2,i 3,i 2],.slice 4 2 0 3 12 none],
  pre:=[(4,.row [i 0,i 4,f,f,f,i 0,i 2,i 1,i 0,i 1,i 0,i 1,i 1,i 4,f,f,f,i 0,i 2,i 1,i 0,i 1,i 0,i 1,i 2,i 3,f,f,f,i 0,i 6,i 1,i 0,i 1,i 0,i 1] 227 2 0 0 false)],
  next:=5,ro:=5,zb:=4,ret:=.tuple [.slice 1232 0 0 2 1 none,.slice 1102 0 0 3 12 none,i 0],
  post:=[(1102,.row [i 0,i 4,f,f,f,i 0,i 2,i 1,i 0,i 1,i 0,i 1,i 1,i 4,f,f,f,i 0,i 4,i 1,i 0,i 1,i 0,i 1,i 2,i 3,f,f,f,i 0,i 6,i 1,i 0,i 1,i 0,i 1] 227 0 0 0 false),
    (1232,.row [i 4,i 0] 3 0 0 0 false)],next':=1233}
def q1h:E2.Fact:={
  f:=136,args:=[.agg [i 2,i 2,i 3,i 2],.slice 4 2 0 3 17 none],
  pre:=[(4,.row [i 1,i 4,i 4,i 0,f,i 0,f,f,i 0,i 0,i 0,i 0,f,i 0,i 0,i 0,i 0,i 1,i 4,i 5,i 0,f,i 0,f,f,i 0,i 0,i 0,i 0,f,i 0,i 0,i 0,i 0,i 1,i 3,i 6,i 0,f,i 0,f,f,i 0,i 0,i 0,i 0,f,i 0,i 0,i 0,i 0] 128 2 0 0 false)],
  next:=5,ro:=5,zb:=4,ret:=.tuple [.agg [.nils,.nils,.slice 1383 0 0 2 1 none,.slice 1387 2 0 3 2 none],i 0],
  post:=[(1383,.row [i 4,i 0] 3 0 0 0 false),
    (1387,.row [i 2,i 1,i 4,i 1,i 6,i 1] 26 2 0 0 false)],next':=1392}
def qvd:E2.Fact:={
  f:=128,args:=[.agg [.str [97],.slice 4 0 0 5 17 none],.slice 5 0 0 3 2 none],
  pre:=[(1,g1),
    (3,g3),
    (4,.row [i 7,i 0,i 0,i 0,f,i 0,f,f,i 0,i 0,i 0,i 0,f,i 0,i 0,i 0,i 3,i 5,i 0,i 0,i 0,f,i 0,f,f,i 2,i 2,i 3,i 2,f,i 0,i 0,i 0,i 0,i 1,i 4,i 4,i 0,f,i 0,f,f,i 0,i 0,i 0,i 0,f,i 0,i 0,i 0,i 0,i 1,i 4,i 5,i 0,f,i 0,f,f,i 0,i 0,i 0,i 0,f,i 0,i 0,i 0,i 0,i 1,i 3,i 6,i 0,f,i 0,f,f,i 0,i 0,i 0,i 0,f,i 0,i 0,i 0,i 0] 128 0 0 0 false),
    (5,.row [i 2,i 1,i 4,i 1,i 6,i 1] 26 0 0 0 false)],
  next:=6,ro:=6,zb:=4,ret:=.tuple [.slice 245 2 0 3 2 none,i 0],
  post:=[(245,.row [i 2,i 1,i 4,i 1,i 6,i 1] 26 2 0 0 false)],next':=272}
def q1i:E2.Fact:={
  f:=127,args:=[.agg [.str [97],.slice 4 0 0 5 17 none],.slice 5 0 0 3 2 none],
  pre:=[(1,g1),
    (3,g3),
    (4,.row [i 7,i 0,i 0,i 0,f,i 0,f,f,i 0,i 0,i 0,i 0,f,i 0,i 0,i 0,i 3,i 5,i 0,i 0,i 0,f,i 0,f,f,i 2,i 2,i 3,i 2,f,i 0,i 0,i 0,i 0,i 1,i 4,i 4,i 0,f,i 0,f,f,i 0,i 0,i 0,i 0,f,i 0,i 0,i 0,i 0,i 1,i 4,i 5,i 0,f,i 0,f,f,i 0,i 0,i 0,i 0,f,i 0,i 0,i 0,i 0,i 1,i 3,i 6,i 0,f,i 0,f,f,i 0,i 0,i 0,i 0,f,i 0,i 0,i 0,i 0] 128 0 0 0 false),
    (5,.row [i 2,i 1,i 4,i 1,i 6,i 1] 26 0 0 0 false)],
  next:=6,ro:=6,zb:=4,ret:=.tuple [.slice 409 2 0 3 2 none,.agg [i 12,i 1],i 0],
  post:=[(409,.row [i 0,i 1,i 2,i 1,i 6,i 1] 26 2 0 0 false)],next':=440}
def q1j:E2.Fact:={
  f:=132,args:=[.agg [.str [97],.slice 4 0 0 5 17 none]],
  pre:=[(1,g1),
    (3,g3),
    (4,.row [i 7,i 0,i 0,i 0,f,i 0,f,f,i 0,i 0,i 0,i 0,f,i 0,i 0,i 0,i 3,i 5,i 0,i 0,i 0,f,i 0,f,f,i 2,i 2,i 3,i 2,f,i 0,i 0,i 0,i 0,i 1,i 4,i 4,i 0,f,i 0,f,f,i 0,i 0,i 0,i 0,f,i 0,i 0,i 0,i 0,i 1,i 4,i 5,i 0,f,i 0,f,f,i 0,i 0,i 0,i 0,f,i 0,i 0,i 0,i 0,i 1,i 3,i 6,i 0,f,i 0,f,f,i 0,i 0,i 0,i 0,f,i 0,i 0,i 0,i 0] 128 0 0 0 false)],
  next:=5,ro:=5,zb:=4,ret:=.tuple [.slice 219 4 0 3 2 none,i 0],
  post:=[(219,.row [i 2,i 0,i 3,i 0,i 4,i 0,i 0,i 0,i 0,i 0] 187 4 4 0 false)],next':=238}
def q1k:E2.Fact:={
  f:=117,args:=[.agg [.str [97],.slice 4 0 0 5 17 none],.slice 5 0 0 3 2 none],
  pre:=[(1,g1),
    (3,g3),
    (4,.row [i 7,i 0,i 0,i 0,f,i 0,f,f,i 0,i 0,i 0,i 0,f,i 0,i 0,i 0,i 3,i 5,i 0,i 0,i 0,f,i 0,f,f,i 2,i 2,i 3,i 2,f,i 0,i 0,i 0,i 0,i 1,i 4,i 4,i 0,f,i 0,f,f,i 0,i 0,i 0,i 0,f,i 0,i 0,i 0,i 0,i 1,i 4,i 5,i 0,f,i 0,f,f,i 0,i 0,i 0,i 0,f,i 0,i 0,i 0,i 0,i 1,i 3,i 6,i 0,f,i 0,f,f,i 0,i 0,i 0,i 0,f,i 0,i 0,i 0,i 0] 128 0 0 0 false),
    (5,.row [i 2,i 1,i 4,i 1,i 6,i 1] 26 0 0 0 false)],
  next:=6,ro:=6,zb:=4,ret:=.tuple [.slice 1149 2 0 3 10 none,i 0],
  post:=[(1149,.row [i 0,i 1,i 2,i 1,i 0,i 4,i 0,f,i 2,i 0,i 2,i 1,i 4,i 1,i 1,i 4,i 0,f,i 3,i 0,i 6,i 1,i 6,i 1,i 2,i 4,i 0,f,i 4,i 0] 38 2 0 0 false)],next':=1154}
def q1l:E2.Fact:={
  f:=22,args:=[.slice 4 2 0 3 10 none],
  pre:=[(4,.row [i 0,i 1,i 2,i 1,i 0,i 4,i 0,f,i 2,i 0,i 2,i 1,i 4,i 1,i 1,i 4,i 0,f,i 3,i 0,i 6,i 1,i 6,i 1,i 2,i 4,i 0,f,i 4,i 0] 38 2 0 0 false)],
  next:=5,ro:=5,zb:=4,ret:=.tuple [i 0,i 0],
  post:=[],next':=64}
def q1m:E2.Fact:={
  f:=22,args:=[.slice 4 0 0 3 10 none],
  pre:=[(4,.row [i 0,i 1,i 2,i 1,i 0,i 4,i 0,f,i 2,i 0,i 2,i 1,i 4,i 1,i 1,i 4,i 0,f,i 3,i 0,i 6,i 1,i 6,i 1,i 2,i 4,i 0,f,i 4,i 0] 38 0 0 0 false)],
  next:=5,ro:=5,zb:=4,ret:=.tuple [i 0,i 0],
  post:=[],next':=64}
def q1n:E2.Fact:={
  f:=87,args:=[.func (.func 111) [] [.ptr 4 0 0 1],.slice 5 0 0 3 10 none],
  pre:=[(4,.row [.func (.func 85) [] [.ptr 6 0 0 1]] 121 0 0 0 true),
    (5,.row [i 0,i 1,i 2,i 1,i 0,i 4,i 0,f,i 2,i 0,i 2,i 1,i 4,i 1,i 1,i 4,i 0,f,i 3,i 0,i 6,i 1,i 6,i 1,i 2,i 4,i 0,f,i 4,i 0] 38 0 0 0 false),
    (6,.row [i 0] 3 0 0 0 true)],
  next:=7,ro:=7,zb:=4,ret:=.tuple [.slice 8 0 0 3 10 none,i 0],
  post:=[(8,.row [i 0,i 1,i 2,i 1,i 0,i 4,i 0,f,i 2,i 0,i 2,i 1,i 4,i 1,i 1,i 4,i 0,f,i 3,i 0,i 6,i 1,i 6,i 1,i 2,i 4,i 0,f,i 4,i 0] 38 0 0 0 false)],next':=85}
def q1o:E2.Fact:={
  f:=87,args:=[.func (.func 89) [] [.ptr 4 0 0 2],.slice 5 0 0 3 10 none],
  pre:=[(4,.row [i 1,i 1] 26 0 0 0 true),
    (5,.row [i 0,i 1,i 2,i 1,i 0,i 4,i 0,f,i 2,i 0,i 2,i 1,i 4,i 1,i 1,i 4,i 0,f,i 3,i 0,i 6,i 1,i 6,i 1,i 2,i 4,i 0,f,i 4,i 0] 38 0 0 0 false)],
  next:=6,ro:=6,zb:=4,ret:=.tuple [.slice 7 0 0 3 10 none,i 0],
  post:=[(7,.row [i 0,i 1,i 2,i 1,i 0,i 4,i 0,f,i 2,i 0,i 2,i 1,i 4,i 1,i 1,i 4,i 0,f,i 3,i 0,i 6,i 1,i 6,i 1,i 2,i 4,i 0,f,i 4,i 0] 38 0 0 0 false)],next':=87}
def qve:E2.Fact:={
  f:=54,args:=[.agg [.str [97],.slice 4 0 0 5 17 (some 5)],.agg [i 0,i 1,i 0,f,f,i 1,i 1,i 2,i 2,i 3,i 2]],
  pre:=[(1,g1),
    (3,g3),
    (4,.row [i 7,i 0,i 0,i 0,f,i 0,f,f,i 0,i 0,i 0,i 0,f,i 0,i 0,i 0,i 3,i 5,i 0,i 0,i 0,f,i 0,f,f,i 2,i 2,i 2,i 2,f,i 0,i 0,i 0,i 0,i 1,i 4,i 4,i 0,f,i 0,f,f,i 0,i 0,i 0,i 0,f,i 0,i 0,i 0,i 0,i 1,i 4,i 5,i 0,f,i 0,f,f,i 0,i 0,i 0,i 0,f,i 0,i 0,i 0,i 0,i 1,i 3,i 6,i 0,f,i 0,f,f,i 0,i 0,i 0,i 0,f,i 0,i 0,i 0,i 0] 128 0 0 0 true)],
  next:=5,ro:=5,zb:=4,ret:=.tuple [.slice 3221 0 0 3 10 none,.agg [i 0,i 0]],
  post:=[(3221,.row [i 0,i 1,i 2,i 1,i 0,i 4,i 0,f,i 2,i 0,i 2,i 1,i 4,i 1,i 1,i 4,i 0,f,i 3,i 0,i 6,i 1,i 6,i 1,i 2,i 4,i 0,f,i 4,i 0] 38 0 0 0 false)],next':=3302}
end Go.Proofs.YtcnoipglgpkpeaaGreatDoor.canonAwake
