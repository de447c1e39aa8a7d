import Derived.Test.YtpbliaccnbgapaaGreatDoorEventKnownGlob
namespace Go.Proofs.YtpbliaccnbgapaaGreatDoor.eventKnown
open Go
set_option maxRecDepth 100000
def qh6:E2.Fact:={
 f:=122,args:=[.agg [.str [97],.slice 9 2 0 5 17 none]],
 pre:=[(1,g1),
  (9,.row [i 7,i 0,i 0,i 0,f,i 0,f,f,i 0,i 0,i 0,i 0,f,i 0,i 0,i 0,i 3,i 5,i 0,i 0,i 0,f,i 0,f,f,i 2,i 2,i 2,i 2,f,i 0,i 0,i 0,i 0,i 1,i 4,i 4,i 0,f,i 0,f,f,i 0,i 0,i 0,i 0,f,i 0,i 0,i 0,i 0,i 1,i 4,i 5,i 0,f,i 0,f,f,i 0,i 0,i 0,i 0,f,i 0,i 0,i 0,i 0,i 1,i 3,i 6,i 0,f,i 0,f,f,i 0,i 0,i 0,i 0,f,i 0,i 0,i 0,i 0] 93 2 0 0 false)],
 next:=10,ro:=10,qy:=9,ret:=.tuple [i 0,i 0],
 post:=[],next':=59}
def q4n:E2.Fact:={
 f:=116,args:=[.agg [.str [97],.slice 9 2 0 5 17 none]],
 pre:=[(1,g1),
  (8,g8),
  (9,.row [i 7,i 0,i 0,i 0,f,i 0,f,f,i 0,i 0,i 0,i 0,f,i 0,i 0,i 0,i 3,i 5,i 0,i 0,i 0,f,i 0,f,f,i 2,i 2,i 2,i 2,f,i 0,i 0,i 0,i 0,i 1,i 4,i 4,i 0,f,i 0,f,f,i 0,i 0,i 0,i 0,f,i 0,i 0,i 0,i 0,i 1,i 4,i 5,i 0,f,i 0,f,f,i 0,i 0,i 0,i 0,f,i 0,i 0,i 0,i 0,i 1,i 3,i 6,i 0,f,i 0,f,f,i 0,i 0,i 0,i 0,f,i 0,i 0,i 0,i 0] 93 2 0 0 false)],
 next:=10,ro:=10,qy:=9,ret:=.slice 182 0 0 1 5 none,
 post:=[(172,.row [i 1,i 4,i 4,i 0,f,i 0,f,f,i 0,i 0,i 0,i 0,f,i 0,i 0,i 0,i 0,i 1,i 4,i 5,i 0,f,i 0,f,f,i 0,i 0,i 0,i 0,f,i 0,i 0,i 0,i 0,i 1,i 3,i 6,i 0,f,i 0,f,f,i 0,i 0,i 0,i 0,f,i 0,i 0,i 0,i 0] 93 2 0 0 false),
  (182,.row [i 2,i 2,i 2,i 2,.slice 172 2 0 3 17 none] 184 0 0 0 false)],next':=183}
def q93:E2.Fact:={
 f:=187,args:=[.agg [i 2,i 2,i 2,i 2],.slice 9 2 0 3 17 none,.nils],
 pre:=[(9,.row [i 1,i 4,i 4,i 0,f,i 0,f,f,i 0,i 0,i 0,i 0,f,i 0,i 0,i 0,i 0,i 1,i 4,i 5,i 0,f,i 0,f,f,i 0,i 0,i 0,i 0,f,i 0,i 0,i 0,i 0,i 1,i 3,i 6,i 0,f,i 0,f,f,i 0,i 0,i 0,i 0,f,i 0,i 0,i 0,i 0] 93 2 0 0 false)],
 next:=10,ro:=10,qy:=9,ret:=.tuple [.slice 42 2 0 3 2 none,i 0],
 post:=[(42,.row [i 2,i 1,i 2,i 1,i 4,i 1] 39 2 0 0 false)],next':=76}
def q94:E2.Fact:={
 f:=167,args:=[.agg [i 2,i 2,i 2,i 2],.slice 9 2 0 3 12 none],
 pre:=[(9,.row [i 0,i 4,f,f,f,i 0,i 2,i 1,i 0,i 1,i 0,i 1,i 1,i 4,f,f,f,i 0,i 2,i 1,i 0,i 1,i 0,i 1,i 2,i 3,f,f,f,i 0,i 4,i 1,i 0,i 1,i 0,i 1] 251 2 0 0 false)],
 next:=10,ro:=10,qy:=9,ret:=.tuple [.nils,.slice 53 0 0 3 12 none,i 0],
 post:=[(53,.row [i 0,i 4,f,f,f,i 0,i 2,i 1,i 0,i 1,i 0,i 1,i 1,i 4,f,f,f,i 0,i 2,i 1,i 0,i 1,i 0,i 1,i 2,i 3,f,f,f,i 0,i 4,i 1,i 0,i 1,i 0,i 1] 251 0 0 0 false)],next':=55}
def qy9:E2.Fact:={
 f:=140,args:=[.agg [i 2,i 2,i 2,i 2],.slice 9 2 0 3 17 none],
 pre:=[(9,.row [i 1,i 4,i 4,i 0,f,i 0,f,f,i 0,i 0,i 0,i 0,f,i 0,i 0,i 0,i 0,i 1,i 4,i 5,i 0,f,i 0,f,f,i 0,i 0,i 0,i 0,f,i 0,i 0,i 0,i 0,i 1,i 3,i 6,i 0,f,i 0,f,f,i 0,i 0,i 0,i 0,f,i 0,i 0,i 0,i 0] 93 2 0 0 false)],
 next:=10,ro:=10,qy:=9,ret:=.tuple [.agg [.nils,.nils,.nils,.slice 209 2 0 3 2 none],i 0],
 post:=[(209,.row [i 2,i 1,i 2,i 1,i 4,i 1] 39 2 0 0 false)],next':=214}
def q4o:E2.Fact:={
 f:=53,args:=[.agg [.str [97],.slice 9 2 0 5 17 none],.slice 10 0 0 3 2 none],
 pre:=[(1,g1),
  (8,g8),
  (9,.row [i 7,i 0,i 0,i 0,f,i 0,f,f,i 0,i 0,i 0,i 0,f,i 0,i 0,i 0,i 3,i 5,i 0,i 0,i 0,f,i 0,f,f,i 2,i 2,i 2,i 2,f,i 0,i 0,i 0,i 0,i 1,i 4,i 4,i 0,f,i 0,f,f,i 0,i 0,i 0,i 0,f,i 0,i 0,i 0,i 0,i 1,i 4,i 5,i 0,f,i 0,f,f,i 0,i 0,i 0,i 0,f,i 0,i 0,i 0,i 0,i 1,i 3,i 6,i 0,f,i 0,f,f,i 0,i 0,i 0,i 0,f,i 0,i 0,i 0,i 0] 93 2 0 0 false),
  (10,.row [i 2,i 1,i 2,i 1,i 4,i 1] 39 0 0 0 false)],
 next:=11,ro:=11,qy:=9,ret:=.tuple [.slice 250 2 0 3 2 none,i 0],
 post:=[(250,.row [i 2,i 1,i 2,i 1,i 4,i 1] 39 2 0 0 false)],next':=277}
def q95:E2.Fact:={
 f:=52,args:=[.agg [.str [97],.slice 9 2 0 5 17 none],.slice 10 0 0 3 2 none],
 pre:=[(1,g1),
  (8,g8),
  (9,.row [i 7,i 0,i 0,i 0,f,i 0,f,f,i 0,i 0,i 0,i 0,f,i 0,i 0,i 0,i 3,i 5,i 0,i 0,i 0,f,i 0,f,f,i 2,i 2,i 2,i 2,f,i 0,i 0,i 0,i 0,i 1,i 4,i 4,i 0,f,i 0,f,f,i 0,i 0,i 0,i 0,f,i 0,i 0,i 0,i 0,i 1,i 4,i 5,i 0,f,i 0,f,f,i 0,i 0,i 0,i 0,f,i 0,i 0,i 0,i 0,i 1,i 3,i 6,i 0,f,i 0,f,f,i 0,i 0,i 0,i 0,f,i 0,i 0,i 0,i 0] 93 2 0 0 false),
  (10,.row [i 2,i 1,i 2,i 1,i 4,i 1] 39 0 0 0 false)],
 next:=11,ro:=11,qy:=9,ret:=.tuple [.slice 414 2 0 3 2 none,.agg [i 8,i 1],i 0],
 post:=[(414,.row [i 0,i 1,i 2,i 1,i 4,i 1] 39 2 0 0 false)],next':=445}
def q4p:E2.Fact:={
 f:=57,args:=[.agg [.str [97],.slice 9 2 0 5 17 none]],
 pre:=[(1,g1),
  (8,g8),
  (9,.row [i 7,i 0,i 0,i 0,f,i 0,f,f,i 0,i 0,i 0,i 0,f,i 0,i 0,i 0,i 3,i 5,i 0,i 0,i 0,f,i 0,f,f,i 2,i 2,i 2,i 2,f,i 0,i 0,i 0,i 0,i 1,i 4,i 4,i 0,f,i 0,f,f,i 0,i 0,i 0,i 0,f,i 0,i 0,i 0,i 0,i 1,i 4,i 5,i 0,f,i 0,f,f,i 0,i 0,i 0,i 0,f,i 0,i 0,i 0,i 0,i 1,i 3,i 6,i 0,f,i 0,f,f,i 0,i 0,i 0,i 0,f,i 0,i 0,i 0,i 0] 93 2 0 0 false)],
 next:=10,ro:=10,qy:=9,ret:=.tuple [.slice 224 4 0 3 2 none,i 0],
 post:=[(224,.row [i 2,i 0,i 3,i 0,i 4,i 0,i 0,i 0,i 0,i 0] 122 4 4 0 false)],next':=243}
def q4q:E2.Fact:={
 f:=19,args:=[.agg [.str [97],.slice 9 2 0 5 17 none],.slice 10 0 0 3 2 none],
 pre:=[(1,g1),
  (8,g8),
  (9,.row [i 7,i 0,i 0,i 0,f,i 0,f,f,i 0,i 0,i 0,i 0,f,i 0,i 0,i 0,i 3,i 5,i 0,i 0,i 0,f,i 0,f,f,i 2,i 2,i 2,i 2,f,i 0,i 0,i 0,i 0,i 1,i 4,i 4,i 0,f,i 0,f,f,i 0,i 0,i 0,i 0,f,i 0,i 0,i 0,i 0,i 1,i 4,i 5,i 0,f,i 0,f,f,i 0,i 0,i 0,i 0,f,i 0,i 0,i 0,i 0,i 1,i 3,i 6,i 0,f,i 0,f,f,i 0,i 0,i 0,i 0,f,i 0,i 0,i 0,i 0] 93 2 0 0 false),
  (10,.row [i 2,i 1,i 2,i 1,i 4,i 1] 39 0 0 0 false)],
 next:=11,ro:=11,qy:=9,ret:=.tuple [.slice 1154 2 0 3 10 none,i 0],
 post:=[(1154,.row [i 0,i 1,i 2,i 1,i 0,i 4,i 0,f,i 2,i 0,i 2,i 1,i 2,i 1,i 1,i 4,i 0,f,i 3,i 0,i 4,i 1,i 4,i 1,i 2,i 4,i 0,f,i 4,i 0] 43 2 0 0 false)],next':=1159}
def qpf:E2.Fact:={
 f:=22,args:=[.slice 9 0 0 3 10 (some 3)],
 pre:=[(9,.row [i 0,i 1,i 2,i 1,i 0,i 4,i 0,f,i 2,i 0,i 2,i 1,i 2,i 1,i 1,i 4,i 0,f,i 3,i 0,i 4,i 1,i 4,i 1,i 2,i 4,i 0,f,i 4,i 0] 43 0 0 0 true)],
 next:=10,ro:=10,qy:=9,ret:=.tuple [i 0,i 0],
 post:=[],next':=69}
def q1e:E2.Fact:={
 f:=53,args:=[.agg [.str [97],.slice 9 2 0 5 17 none],.slice 10 0 0 3 2 (some 3)],
 pre:=[(1,g1),
  (8,g8),
  (9,.row [i 7,i 0,i 0,i 0,f,i 0,f,f,i 0,i 0,i 0,i 0,f,i 0,i 0,i 0,i 3,i 5,i 0,i 0,i 0,f,i 0,f,f,i 2,i 2,i 2,i 2,f,i 0,i 0,i 0,i 0,i 1,i 4,i 4,i 0,f,i 0,f,f,i 0,i 0,i 0,i 0,f,i 0,i 0,i 0,i 0,i 1,i 4,i 5,i 0,f,i 0,f,f,i 0,i 0,i 0,i 0,f,i 0,i 0,i 0,i 0,i 1,i 3,i 6,i 0,f,i 0,f,f,i 0,i 0,i 0,i 0,f,i 0,i 0,i 0,i 0] 93 2 0 0 false),
  (10,.row [i 2,i 1,i 0,i 1,i 4,i 1] 39 0 0 0 true)],
 next:=11,ro:=11,qy:=9,ret:=.tuple [.slice 250 2 0 3 2 none,i 0],
 post:=[(250,.row [i 2,i 1,i 0,i 1,i 4,i 1] 39 2 0 0 false)],next':=277}
def qva:E2.Fact:={
 f:=52,args:=[.agg [.str [97],.slice 9 2 0 5 17 none],.slice 10 0 0 3 2 (some 3)],
 pre:=[(1,g1),
  (8,g8),
  (9,.row [i 7,i 0,i 0,i 0,f,i 0,f,f,i 0,i 0,i 0,i 0,f,i 0,i 0,i 0,i 3,i 5,i 0,i 0,i 0,f,i 0,f,f,i 2,i 2,i 2,i 2,f,i 0,i 0,i 0,i 0,i 1,i 4,i 4,i 0,f,i 0,f,f,i 0,i 0,i 0,i 0,f,i 0,i 0,i 0,i 0,i 1,i 4,i 5,i 0,f,i 0,f,f,i 0,i 0,i 0,i 0,f,i 0,i 0,i 0,i 0,i 1,i 3,i 6,i 0,f,i 0,f,f,i 0,i 0,i 0,i 0,f,i 0,i 0,i 0,i 0] 93 2 0 0 false),
  (10,.row [i 2,i 1,i 0,i 1,i 4,i 1] 39 0 0 0 true)],
 next:=11,ro:=11,qy:=9,ret:=.tuple [.slice 414 2 0 3 2 none,.agg [i 6,i 1],i 0],
 post:=[(414,.row [i 0,i 1,i 2,i 1,i 2,i 1] 39 2 0 0 false)],next':=445}
def qnz:E2.Fact:={
 f:=122,args:=[.agg [.str [97],.slice 9 1 0 4 17 none]],
 pre:=[(1,g1),
  (9,.row [i 5,i 0,i 0,i 0,f,i 0,f,f,i 2,i 2,i 2,i 2,f,i 0,i 0,i 0,i 0,i 1,i 4,i 4,i 0,f,i 0,f,f,i 0,i 0,i 0,i 0,f,i 0,i 0,i 0,i 0,i 1,i 4,i 5,i 0,f,i 0,f,f,i 0,i 0,i 0,i 0,f,i 0,i 0,i 0,i 0,i 1,i 3,i 6,i 0,f,i 0,f,f,i 0,i 0,i 0,i 0,f,i 0,i 0,i 0,i 0] 93 1 0 0 false)],
 next:=10,ro:=10,qy:=9,ret:=.tuple [i 0,i 0],
 post:=[],next':=50}
def q1f:E2.Fact:={
 f:=116,args:=[.agg [.str [97],.slice 9 1 0 4 17 none]],
 pre:=[(1,g1),
  (8,g8),
  (9,.row [i 5,i 0,i 0,i 0,f,i 0,f,f,i 2,i 2,i 2,i 2,f,i 0,i 0,i 0,i 0,i 1,i 4,i 4,i 0,f,i 0,f,f,i 0,i 0,i 0,i 0,f,i 0,i 0,i 0,i 0,i 1,i 4,i 5,i 0,f,i 0,f,f,i 0,i 0,i 0,i 0,f,i 0,i 0,i 0,i 0,i 1,i 3,i 6,i 0,f,i 0,f,f,i 0,i 0,i 0,i 0,f,i 0,i 0,i 0,i 0] 93 1 0 0 false)],
 next:=10,ro:=10,qy:=9,ret:=.slice 160 0 0 1 5 none,
 post:=[(150,.row [i 1,i 4,i 4,i 0,f,i 0,f,f,i 0,i 0,i 0,i 0,f,i 0,i 0,i 0,i 0,i 1,i 4,i 5,i 0,f,i 0,f,f,i 0,i 0,i 0,i 0,f,i 0,i 0,i 0,i 0,i 1,i 3,i 6,i 0,f,i 0,f,f,i 0,i 0,i 0,i 0,f,i 0,i 0,i 0,i 0] 93 2 0 0 false),
  (160,.row [i 2,i 2,i 2,i 2,.slice 150 2 0 3 17 none] 184 0 0 0 false)],next':=161}
def qvb:E2.Fact:={
 f:=53,args:=[.agg [.str [97],.slice 9 1 0 4 17 none],.slice 10 0 0 3 2 none],
 pre:=[(1,g1),
  (8,g8),
  (9,.row [i 5,i 0,i 0,i 0,f,i 0,f,f,i 2,i 2,i 2,i 2,f,i 0,i 0,i 0,i 0,i 1,i 4,i 4,i 0,f,i 0,f,f,i 0,i 0,i 0,i 0,f,i 0,i 0,i 0,i 0,i 1,i 4,i 5,i 0,f,i 0,f,f,i 0,i 0,i 0,i 0,f,i 0,i 0,i 0,i 0,i 1,i 3,i 6,i 0,f,i 0,f,f,i 0,i 0,i 0,i 0,f,i 0,i 0,i 0,i 0] 93 1 0 0 false),
  (10,.row [i 2,i 1,i 2,i 1,i 4,i 1] 39 0 0 0 false)],
 next:=11,ro:=11,qy:=9,ret:=.tuple [.slice 215 2 0 3 2 none,i 0],
 post:=[(215,.row [i 2,i 1,i 2,i 1,i 4,i 1] 39 2 0 0 false)],next':=242}
def q1g:E2.Fact:={
 f:=52,args:=[.agg [.str [97],.slice 9 1 0 4 17 none],.slice 10 0 0 3 2 none],
 pre:=[(1,g1),
  (8,g8),
  (9,.row [i 5,i 0,i 0,i 0,f,i 0,f,f,i 2,i 2,i 2,i 2,f,i 0,i 0,i 0,i 0,i 1,i 4,i 4,i 0,f,i 0,f,f,i 0,i 0,i 0,i 0,f,i 0,i 0,i 0,i 0,i 1,i 4,i 5,i 0,f,i 0,f,f,i 0,i 0,i 0,i 0,f,i 0,i 0,i 0,i 0,i 1,i 3,i 6,i 0,f,i 0,f,f,i 0,i 0,i 0,i 0,f,i 0,i 0,i 0,i 0] 93 1 0 0 false),
  (10,.row [i 2,i 1,i 2,i 1,i 4,i 1] 39 0 0 0 false)],
 next:=11,ro:=11,qy:=9,ret:=.tuple [.slice 362 2 0 3 2 none,.agg [i 8,i 1],i 0],
 post:=[(362,.row [i 0,i 1,i 2,i 1,i 4,i 1] 39 2 0 0 false)],next':=393}
def qvc:E2.Fact:={
 f:=40,args:=[.agg [.str [97],.slice 9 1 0 4 17 none]],
 pre:=[(1,g1),
  (8,g8),
  (9,.row [i 5,i 0,i 0,i 0,f,i 0,f,f,i 2,i 2,i 2,i 2,f,i 0,i 0,i 0,i 0,i 1,i 4,i 4,i 0,f,i 0,f,f,i 0,i 0,i 0,i 0,f,i 0,i 0,i 0,i 0,i 1,i 4,i 5,i 0,f,i 0,f,f,i 0,i 0,i 0,i 0,f,i 0,i 0,i 0,i 0,i 1,i 3,i 6,i 0,f,i 0,f,f,i 0,i 0,i 0,i 0,f,i 0,i 0,i 0,i 0] 93 1 0 0 false)],
 next:=10,ro:=10,qy:=9,ret:=.tuple [.nils,.agg [i 9,i 0]],
 post:=[],next':=1272}
def qvd:E2.Fact:={
 f:=53,args:=[.agg [.str [97],.slice 9 2 0 5 17 none],.slice 10 0 0 3 2 (some 3)],
 pre:=[(1,g1),
  (8,g8),
  (9,.row [i 7,i 0,i 0,i 0,f,i 0,f,f,i 0,i 0,i 0,i 0,f,i 0,i 0,i 0,i 3,i 5,i 0,i 0,i 0,f,i 0,f,f,i 2,i 2,i 2,i 2,f,i 0,i 0,i 0,i 0,i 1,i 4,i 4,i 0,f,i 0,f,f,i 0,i 0,i 0,i 0,f,i 0,i 0,i 0,i 0,i 1,i 4,i 5,i 0,f,i 0,f,f,i 0,i 0,i 0,i 0,f,i 0,i 0,i 0,i 0,i 1,i 3,i 6,i 0,f,i 0,f,f,i 0,i 0,i 0,i 0,f,i 0,i 0,i 0,i 0] 93 2 0 0 false),
  (10,.row [i 2,i 1,i 2,i 1,i 4,i 1] 39 0 0 0 true)],
 next:=11,ro:=11,qy:=9,ret:=.tuple [.slice 250 2 0 3 2 none,i 0],
 post:=[(250,.row [i 2,i 1,i 2,i 1,i 4,i 1] 39 2 0 0 false)],next':=277}
def q1h:E2.Fact:={
 f:=52,args:=[.agg [.str [97],.slice 9 2 0 5 17 none],.slice 10 0 0 3 2 (some 3)],
 pre:=[(1,g1),
  (8,g8),
  (9,.row [i 7,i 0,i 0,i 0,f,i 0,f,f,i 0,i 0,i 0,i 0,f,i 0,i 0,i 0,i 3,i 5,i 0,i 0,i 0,f,i 0,f,f,i 2,i 2,i 2,i 2,f,i 0,i 0,i 0,i 0,i 1,i 4,i 4,i 0,f,i 0,f,f,i 0,i 0,i 0,i 0,f,i 0,i 0,i 0,i 0,i 1,i 4,i 5,i 0,f,i 0,f,f,i 0,i 0,i 0,i 0,f,i 0,i 0,i 0,i 0,i 1,i 3,i 6,i 0,f,i 0,f,f,i 0,i 0,i 0,i 0,f,i 0,i 0,i 0,i 0] 93 2 0 0 false),
  (10,.row [i 2,i 1,i 2,i 1,i 4,i 1] 39 0 0 0 true)],
 next:=11,ro:=11,qy:=9,ret:=.tuple [.slice 414 2 0 3 2 none,.agg [i 8,i 1],i 0],
 post:=[(414,.row [i 0,i 1,i 2,i 1,i 4,i 1] 39 2 0 0 false)],next':=445}
def qve:E2.Fact:={
 f:=19,args:=[.agg [.str [97],.slice 9 2 0 5 17 none],.slice 10 0 0 3 2 (some 3)],
 pre:=[(1,g1),
  (8,g8),
  (9,.row [i 7,i 0,i 0,i 0,f,i 0,f,f,i 0,i 0,i 0,i 0,f,i 0,i 0,i 0,i 3,i 5,i 0,i 0,i 0,f,i 0,f,f,i 2,i 2,i 2,i 2,f,i 0,i 0,i 0,i 0,i 1,i 4,i 4,i 0,f,i 0,f,f,i 0,i 0,i 0,i 0,f,i 0,i 0,i 0,i 0,i 1,i 4,i 5,i 0,f,i 0,f,f,i 0,i 0,i 0,i 0,f,i 0,i 0,i 0,i 0,i 1,i 3,i 6,i 0,f,i 0,f,f,i 0,i 0,i 0,i 0,f,i 0,i 0,i 0,i 0] 93 2 0 0 false),
  (10,.row [i 2,i 1,i 2,i 1,i 4,i 1] 39 0 0 0 true)],
 next:=11,ro:=11,qy:=9,ret:=.tuple [.slice 1154 2 0 3 10 none,i 0],
 post:=[(1154,.row [i 0,i 1,i 2,i 1,i 0,i 4,i 0,f,i 2,i 0,i 2,i 1,i 2,i 1,i 1,i 4,i 0,f,i 3,i 0,i 4,i 1,i 4,i 1,i 2,i 4,i 0,f,i 4,i 0] 43 2 0 0 false)],next':=1159}
def qvf:E2.Fact:={
 f:=6,args:=[.slice 9 0 0 3 10 (some 3)],
 pre:=[(9,.row [i 0,i 1,i 2,i 1,i 0,i 4,i 0,f,i 2,i 0,i 2,i 1,i 2,i 1,i 1,i 4,i 0,f,i 3,i 0,i 4,i 1,i 4,i 1,i 2,i 4,i 0,f,i 4,i 0] 43 0 0 0 true)],
 next:=10,ro:=10,qy:=9,ret:=.tuple [.str [110,111,116,101,32,99,52,32,50,32,50,32,48,10,110,111,116,101,32,100,52,32,50,32,51,32,48,10,110,111,116,101,32,101,52,32,52,32,52,32,48,10],i 0],
 post:=[],next':=104}
def qvg:E2.Fact:={
 f:=14,args:=[.slice 9 0 0 3 10 (some 3),.agg [i 3,i 1]],
 pre:=[(9,.row [i 0,i 1,i 2,i 1,i 0,i 4,i 0,f,i 2,i 0,i 2,i 1,i 2,i 1,i 1,i 4,i 0,f,i 3,i 0,i 4,i 1,i 4,i 1,i 2,i 4,i 0,f,i 4,i 0] 43 0 0 0 true)],
 next:=10,ro:=10,qy:=9,ret:=.tuple [i 1,i 0],
 post:=[],next':=118}
def qlk:E2.Fact:={
 f:=122,args:=[.agg [.str [97],.slice 9 2 0 6 17 none]],
 pre:=[(1,g1),
  (9,.row [i 7,i 0,i 0,i 0,f,i 0,f,f,i 0,i 0,i 0,i 0,f,i 0,i 0,i 0,i 3,i 5,i 0,i 0,i 0,f,i 0,f,f,i 2,i 2,i 2,i 2,f,i 0,i 0,i 0,i 0,i 9,i 0,i 0,i 0,f,i 0,f,f,i 0,i 0,i 0,i 0,f,i 0,i 0,i 0,i 0,i 1,i 4,i 4,i 0,f,i 0,f,f,i 0,i 0,i 0,i 0,f,i 0,i 0,i 0,i 0,i 2,i 4,i 0,i 0,f,i 0,f,f,i 0,i 0,i 0,i 0,f,i 0,i 0,i 0,i 0,i 10,i 0,i 0,i 0,f,i 0,f,f,i 0,i 0,i 0,i 0,f,i 2,i 0,i 0,i 0] 93 2 0 0 false)],
 next:=10,ro:=10,qy:=9,ret:=.tuple [i 0,i 0],
 post:=[],next':=68}
def q1i:E2.Fact:={
 f:=116,args:=[.agg [.str [97],.slice 9 2 0 6 17 none]],
 pre:=[(1,g1),
  (8,g8),
  (9,.row [i 7,i 0,i 0,i 0,f,i 0,f,f,i 0,i 0,i 0,i 0,f,i 0,i 0,i 0,i 3,i 5,i 0,i 0,i 0,f,i 0,f,f,i 2,i 2,i 2,i 2,f,i 0,i 0,i 0,i 0,i 9,i 0,i 0,i 0,f,i 0,f,f,i 0,i 0,i 0,i 0,f,i 0,i 0,i 0,i 0,i 1,i 4,i 4,i 0,f,i 0,f,f,i 0,i 0,i 0,i 0,f,i 0,i 0,i 0,i 0,i 2,i 4,i 0,i 0,f,i 0,f,f,i 0,i 0,i 0,i 0,f,i 0,i 0,i 0,i 0,i 10,i 0,i 0,i 0,f,i 0,f,f,i 0,i 0,i 0,i 0,f,i 2,i 0,i 0,i 0] 93 2 0 0 false)],
 next:=10,ro:=10,qy:=9,ret:=.slice 201 0 0 1 5 none,
 post:=[(194,.row [i 1,i 4,i 4,i 0,f,i 0,f,f,i 0,i 0,i 0,i 0,f,i 0,i 0,i 0,i 0,i 2,i 4,i 0,i 0,f,i 0,f,f,i 0,i 0,i 0,i 0,f,i 0,i 0,i 0,i 0] 93 1 0 0 false),
  (201,.row [i 2,i 2,i 2,i 2,.slice 194 1 0 2 17 none] 184 0 0 0 false)],next':=202}
def q1j:E2.Fact:={
 f:=166,args:=[.agg [i 2,i 2,i 2,i 2],.slice 9 1 0 2 17 none,.nils,.nils],
 pre:=[(9,.row [i 1,i 4,i 4,i 0,f,i 0,f,f,i 0,i 0,i 0,i 0,f,i 0,i 0,i 0,i 0,i 2,i 4,i 0,i 0,f,i 0,f,f,i 0,i 0,i 0,i 0,f,i 0,i 0,i 0,i 0] 93 1 0 0 false)],
 next:=10,ro:=10,qy:=9,ret:=.tuple [.slice 86 1 0 2 12 none,i 0],
 post:=[(86,.row [i 0,i 4,f,f,f,i 0,i 2,i 1,i 0,i 1,i 0,i 1,i 1,i 4,t,f,t,i 0,i 2,i 1,i 0,i 1,i 0,i 1] 251 1 0 0 false)],next':=90}
def q1k:E2.Fact:={
 f:=140,args:=[.agg [i 2,i 2,i 2,i 2],.slice 9 1 0 2 17 none],
 pre:=[(9,.row [i 1,i 4,i 4,i 0,f,i 0,f,f,i 0,i 0,i 0,i 0,f,i 0,i 0,i 0,i 0,i 2,i 4,i 0,i 0,f,i 0,f,f,i 0,i 0,i 0,i 0,f,i 0,i 0,i 0,i 0] 93 1 0 0 false)],
 next:=10,ro:=10,qy:=9,ret:=.tuple [.agg [.nils,.nils,.nils,.slice 167 1 0 2 2 none],i 0],
 post:=[(167,.row [i 2,i 1,i 2,i 1] 39 1 0 0 false)],next':=170}
def qvh:E2.Fact:={
 f:=53,args:=[.agg [.str [97],.slice 9 2 0 6 17 none],.slice 10 0 0 2 2 none],
 pre:=[(1,g1),
  (8,g8),
  (9,.row [i 7,i 0,i 0,i 0,f,i 0,f,f,i 0,i 0,i 0,i 0,f,i 0,i 0,i 0,i 3,i 5,i 0,i 0,i 0,f,i 0,f,f,i 2,i 2,i 2,i 2,f,i 0,i 0,i 0,i 0,i 9,i 0,i 0,i 0,f,i 0,f,f,i 0,i 0,i 0,i 0,f,i 0,i 0,i 0,i 0,i 1,i 4,i 4,i 0,f,i 0,f,f,i 0,i 0,i 0,i 0,f,i 0,i 0,i 0,i 0,i 2,i 4,i 0,i 0,f,i 0,f,f,i 0,i 0,i 0,i 0,f,i 0,i 0,i 0,i 0,i 10,i 0,i 0,i 0,f,i 0,f,f,i 0,i 0,i 0,i 0,f,i 2,i 0,i 0,i 0] 93 2 0 0 false),
  (10,.row [i 2,i 1,i 2,i 1] 39 0 0 0 false)],
 next:=11,ro:=11,qy:=9,ret:=.tuple [.slice 285 1 0 2 2 none,i 0],
 post:=[(285,.row [i 2,i 1,i 2,i 1] 39 1 0 0 false)],next':=299}
def qvi:E2.Fact:={
 f:=96,args:=[.agg [.str [97],.slice 9 2 0 6 17 none]],
 pre:=[(1,g1),
  (9,.row [i 7,i 0,i 0,i 0,f,i 0,f,f,i 0,i 0,i 0,i 0,f,i 0,i 0,i 0,i 3,i 5,i 0,i 0,i 0,f,i 0,f,f,i 2,i 2,i 2,i 2,f,i 0,i 0,i 0,i 0,i 9,i 0,i 0,i 0,f,i 0,f,f,i 0,i 0,i 0,i 0,f,i 0,i 0,i 0,i 0,i 1,i 4,i 4,i 0,f,i 0,f,f,i 0,i 0,i 0,i 0,f,i 0,i 0,i 0,i 0,i 2,i 4,i 0,i 0,f,i 0,f,f,i 0,i 0,i 0,i 0,f,i 0,i 0,i 0,i 0,i 10,i 0,i 0,i 0,f,i 0,f,f,i 0,i 0,i 0,i 0,f,i 2,i 0,i 0,i 0] 93 2 0 0 false)],
 next:=10,ro:=10,qy:=9,ret:=.slice 103 5 0 4 2 none,
 post:=[(103,.row [i 3,i 0,i 4,i 0,i 3,i 1,i 4,i 1,i 0,i 0,i 0,i 0] 122 5 5 0 false)],next':=150}
def q1l:E2.Fact:={
 f:=52,args:=[.agg [.str [97],.slice 9 2 0 6 17 none],.slice 10 0 0 2 2 none],
 pre:=[(1,g1),
  (8,g8),
  (9,.row [i 7,i 0,i 0,i 0,f,i 0,f,f,i 0,i 0,i 0,i 0,f,i 0,i 0,i 0,i 3,i 5,i 0,i 0,i 0,f,i 0,f,f,i 2,i 2,i 2,i 2,f,i 0,i 0,i 0,i 0,i 9,i 0,i 0,i 0,f,i 0,f,f,i 0,i 0,i 0,i 0,f,i 0,i 0,i 0,i 0,i 1,i 4,i 4,i 0,f,i 0,f,f,i 0,i 0,i 0,i 0,f,i 0,i 0,i 0,i 0,i 2,i 4,i 0,i 0,f,i 0,f,f,i 0,i 0,i 0,i 0,f,i 0,i 0,i 0,i 0,i 10,i 0,i 0,i 0,f,i 0,f,f,i 0,i 0,i 0,i 0,f,i 2,i 0,i 0,i 0] 93 2 0 0 false),
  (10,.row [i 2,i 1,i 2,i 1] 39 0 0 0 false)],
 next:=11,ro:=11,qy:=9,ret:=.tuple [.slice 482 3 0 4 2 none,.agg [i 8,i 1],i 0],
 post:=[(482,.row [i 0,i 1,i 2,i 1,i 4,i 1,i 6,i 1] 39 3 0 0 false)],next':=528}
def q1m:E2.Fact:={
 f:=19,args:=[.agg [.str [97],.slice 9 2 0 6 17 none],.slice 10 0 0 2 2 none],
 pre:=[(1,g1),
  (8,g8),
  (9,.row [i 7,i 0,i 0,i 0,f,i 0,f,f,i 0,i 0,i 0,i 0,f,i 0,i 0,i 0,i 3,i 5,i 0,i 0,i 0,f,i 0,f,f,i 2,i 2,i 2,i 2,f,i 0,i 0,i 0,i 0,i 9,i 0,i 0,i 0,f,i 0,f,f,i 0,i 0,i 0,i 0,f,i 0,i 0,i 0,i 0,i 1,i 4,i 4,i 0,f,i 0,f,f,i 0,i 0,i 0,i 0,f,i 0,i 0,i 0,i 0,i 2,i 4,i 0,i 0,f,i 0,f,f,i 0,i 0,i 0,i 0,f,i 0,i 0,i 0,i 0,i 10,i 0,i 0,i 0,f,i 0,f,f,i 0,i 0,i 0,i 0,f,i 2,i 0,i 0,i 0] 93 2 0 0 false),
  (10,.row [i 2,i 1,i 2,i 1] 39 0 0 0 false)],
 next:=11,ro:=11,qy:=9,ret:=.tuple [.slice 1347 3 0 4 10 none,i 0],
 post:=[(1347,.row [i 0,i 1,i 2,i 1,i 0,i 4,i 0,f,i 3,i 0,i 2,i 1,i 2,i 1,i 0,i 0,i 0,t,i 4,i 0,i 4,i 1,i 2,i 1,i 0,i 4,i 0,f,i 3,i 1,i 6,i 1,i 2,i 1,i 0,i 0,i 0,t,i 4,i 1] 43 3 0 0 false)],next':=1354}
def qvj:E2.Fact:={
 f:=40,args:=[.agg [.str [97],.slice 9 2 0 6 17 none]],
 pre:=[(1,g1),
  (8,g8),
  (9,.row [i 7,i 0,i 0,i 0,f,i 0,f,f,i 0,i 0,i 0,i 0,f,i 0,i 0,i 0,i 3,i 5,i 0,i 0,i 0,f,i 0,f,f,i 2,i 2,i 2,i 2,f,i 0,i 0,i 0,i 0,i 9,i 0,i 0,i 0,f,i 0,f,f,i 0,i 0,i 0,i 0,f,i 0,i 0,i 0,i 0,i 1,i 4,i 4,i 0,f,i 0,f,f,i 0,i 0,i 0,i 0,f,i 0,i 0,i 0,i 0,i 2,i 4,i 0,i 0,f,i 0,f,f,i 0,i 0,i 0,i 0,f,i 0,i 0,i 0,i 0,i 10,i 0,i 0,i 0,f,i 0,f,f,i 0,i 0,i 0,i 0,f,i 2,i 0,i 0,i 0] 93 2 0 0 false)],
 next:=10,ro:=10,qy:=9,ret:=.tuple [.slice 1882 3 0 4 10 none,.agg [i 0,i 0]],
 post:=[(1882,.row [i 0,i 1,i 2,i 1,i 0,i 4,i 0,f,i 3,i 0,i 2,i 1,i 2,i 1,i 0,i 0,i 0,t,i 4,i 0,i 4,i 1,i 2,i 1,i 0,i 4,i 0,f,i 3,i 1,i 6,i 1,i 2,i 1,i 0,i 0,i 0,t,i 4,i 1] 43 3 0 0 false)],next':=1889}
def qll:E2.Fact:={
 f:=122,args:=[.agg [.str [97],.slice 9 0 0 7 17 (some 7)]],
 pre:=[(1,g1),
  (9,.row [i 7,i 0,i 0,i 0,f,i 0,f,f,i 0,i 0,i 0,i 0,f,i 0,i 0,i 0,i 3,i 8,i 0,i 0,i 0,f,i 0,f,f,i 0,i 0,i 0,i 0,f,i 1,i 0,i 0,i 0,i 5,i 0,i 0,i 0,f,i 0,f,f,i 2,i 2,i 2,i 2,f,i 0,i 0,i 0,i 0,i 1,i 4,i 3,i 0,f,i 0,f,f,i 0,i 0,i 0,i 0,f,i 0,i 0,i 0,i 0,i 1,i 4,i 3,i 2,f,i 0,f,f,i 0,i 0,i 0,i 0,f,i 0,i 0,i 0,i 0,i 7,i 0,i 0,i 0,f,i 0,f,f,i 0,i 0,i 0,i 0,f,i 0,i 0,i 4,i 2,i 1,i 4,i 3,i 0,f,i 0,f,f,i 0,i 0,i 0,i 0,f,i 0,i 0,i 0,i 0] 93 0 0 0 true)],
 next:=10,ro:=10,qy:=9,ret:=.tuple [i 0,i 0],
 post:=[],next':=77}
def q1n:E2.Fact:={
 f:=116,args:=[.agg [.str [97],.slice 9 0 0 7 17 (some 7)]],
 pre:=[(1,g1),
  (8,g8),
  (9,.row [i 7,i 0,i 0,i 0,f,i 0,f,f,i 0,i 0,i 0,i 0,f,i 0,i 0,i 0,i 3,i 8,i 0,i 0,i 0,f,i 0,f,f,i 0,i 0,i 0,i 0,f,i 1,i 0,i 0,i 0,i 5,i 0,i 0,i 0,f,i 0,f,f,i 2,i 2,i 2,i 2,f,i 0,i 0,i 0,i 0,i 1,i 4,i 3,i 0,f,i 0,f,f,i 0,i 0,i 0,i 0,f,i 0,i 0,i 0,i 0,i 1,i 4,i 3,i 2,f,i 0,f,f,i 0,i 0,i 0,i 0,f,i 0,i 0,i 0,i 0,i 7,i 0,i 0,i 0,f,i 0,f,f,i 0,i 0,i 0,i 0,f,i 0,i 0,i 4,i 2,i 1,i 4,i 3,i 0,f,i 0,f,f,i 0,i 0,i 0,i 0,f,i 0,i 0,i 0,i 0] 93 0 0 0 true)],
 next:=10,ro:=10,qy:=9,ret:=.slice 227 0 0 1 5 none,
 post:=[(216,.row [i 1,i 4,i 3,i 0,f,i 0,f,f,i 0,i 0,i 0,i 0,f,i 0,i 0,i 0,i 0,i 1,i 4,i 3,i 2,f,i 0,f,f,i 0,i 0,i 0,i 0,f,i 0,i 0,i 0,i 0,i 1,i 4,i 3,i 0,f,i 0,f,f,i 0,i 0,i 0,i 0,f,i 0,i 0,i 0,i 0] 93 2 0 0 false),
  (227,.row [i 2,i 2,i 2,i 2,.slice 216 2 0 3 17 none] 184 0 0 0 false)],next':=228}
def q1o:E2.Fact:={
 f:=166,args:=[.agg [i 2,i 2,i 2,i 2],.slice 9 2 0 3 17 none,.nils,.nils],
 pre:=[(9,.row [i 1,i 4,i 3,i 0,f,i 0,f,f,i 0,i 0,i 0,i 0,f,i 0,i 0,i 0,i 0,i 1,i 4,i 3,i 2,f,i 0,f,f,i 0,i 0,i 0,i 0,f,i 0,i 0,i 0,i 0,i 1,i 4,i 3,i 0,f,i 0,f,f,i 0,i 0,i 0,i 0,f,i 0,i 0,i 0,i 0] 93 2 0 0 false)],
 next:=10,ro:=10,qy:=9,ret:=.tuple [.slice 109 2 0 3 12 none,i 0],
 post:=[(109,.row [i 0,i 4,f,f,f,i 0,i 2,i 1,i 0,i 1,i 0,i 1,i 1,i 4,f,f,f,i 0,i 2,i 1,i 0,i 1,i 0,i 1,i 2,i 4,f,f,f,i 0,i 2,i 1,i 0,i 1,i 0,i 1] 251 2 0 0 false)],next':=116}
def q1p:E2.Fact:={
 f:=167,args:=[.agg [i 2,i 2,i 2,i 2],.slice 9 2 0 3 12 none],
 pre:=[(9,.row [i 0,i 4,f,f,f,i 0,i 2,i 1,i 0,i 1,i 0,i 1,i 1,i 4,f,f,f,i 0,i 2,i 1,i 0,i 1,i 0,i 1,i 2,i 4,f,f,f,i 0,i 2,i 1,i 0,i 1,i 0,i 1] 251 2 0 0 false)],
 next:=10,ro:=10,qy:=9,ret:=.tuple [.nils,.slice 53 0 0 3 12 none,i 0],
 post:=[(53,.row [i 0,i 4,f,f,f,i 0,i 2,i 1,i 0,i 1,i 0,i 1,i 1,i 4,f,f,f,i 0,i 2,i 1,i 0,i 1,i 0,i 1,i 2,i 4,f,f,f,i 0,i 2,i 1,i 0,i 1,i 0,i 1] 251 0 0 0 false)],next':=55}
def qvk:E2.Fact:={
 f:=83,args:=[.agg [.str [97],.slice 9 0 0 7 17 (some 7)]],
 pre:=[(1,g1),
  (8,g8),
  (9,.row [i 7,i 0,i 0,i 0,f,i 0,f,f,i 0,i 0,i 0,i 0,f,i 0,i 0,i 0,i 3,i 8,i 0,i 0,i 0,f,i 0,f,f,i 0,i 0,i 0,i 0,f,i 1,i 0,i 0,i 0,i 5,i 0,i 0,i 0,f,i 0,f,f,i 2,i 2,i 2,i 2,f,i 0,i 0,i 0,i 0,i 1,i 4,i 3,i 0,f,i 0,f,f,i 0,i 0,i 0,i 0,f,i 0,i 0,i 0,i 0,i 1,i 4,i 3,i 2,f,i 0,f,f,i 0,i 0,i 0,i 0,f,i 0,i 0,i 0,i 0,i 7,i 0,i 0,i 0,f,i 0,f,f,i 0,i 0,i 0,i 0,f,i 0,i 0,i 4,i 2,i 1,i 4,i 3,i 0,f,i 0,f,f,i 0,i 0,i 0,i 0,f,i 0,i 0,i 0,i 0] 93 0 0 0 true)],
 next:=10,ro:=10,qy:=9,ret:=.tuple [.agg [.nils,.nils,.nils,.slice 626 0 0 3 2 none],.agg [i 0,i 0]],
 post:=[(626,.row [i 2,i 1,i 2,i 1,i 2,i 1] 39 0 0 0 false)],next':=627}
def qvl:E2.Fact:={
 f:=53,args:=[.agg [.str [97],.slice 9 0 0 7 17 (some 7)],.slice 10 0 0 3 2 none],
 pre:=[(1,g1),
  (8,g8),
  (9,.row [i 7,i 0,i 0,i 0,f,i 0,f,f,i 0,i 0,i 0,i 0,f,i 0,i 0,i 0,i 3,i 8,i 0,i 0,i 0,f,i 0,f,f,i 0,i 0,i 0,i 0,f,i 1,i 0,i 0,i 0,i 5,i 0,i 0,i 0,f,i 0,f,f,i 2,i 2,i 2,i 2,f,i 0,i 0,i 0,i 0,i 1,i 4,i 3,i 0,f,i 0,f,f,i 0,i 0,i 0,i 0,f,i 0,i 0,i 0,i 0,i 1,i 4,i 3,i 2,f,i 0,f,f,i 0,i 0,i 0,i 0,f,i 0,i 0,i 0,i 0,i 7,i 0,i 0,i 0,f,i 0,f,f,i 0,i 0,i 0,i 0,f,i 0,i 0,i 4,i 2,i 1,i 4,i 3,i 0,f,i 0,f,f,i 0,i 0,i 0,i 0,f,i 0,i 0,i 0,i 0] 93 0 0 0 true),
  (10,.row [i 2,i 1,i 2,i 1,i 2,i 1] 39 0 0 0 false)],
 next:=11,ro:=11,qy:=9,ret:=.tuple [.slice 320 2 0 3 2 none,i 0],
 post:=[(320,.row [i 2,i 1,i 2,i 1,i 2,i 1] 39 2 0 0 false)],next':=347}
def qvm:E2.Fact:={
 f:=96,args:=[.agg [.str [97],.slice 9 0 0 7 17 (some 7)]],
 pre:=[(1,g1),
  (9,.row [i 7,i 0,i 0,i 0,f,i 0,f,f,i 0,i 0,i 0,i 0,f,i 0,i 0,i 0,i 3,i 8,i 0,i 0,i 0,f,i 0,f,f,i 0,i 0,i 0,i 0,f,i 1,i 0,i 0,i 0,i 5,i 0,i 0,i 0,f,i 0,f,f,i 2,i 2,i 2,i 2,f,i 0,i 0,i 0,i 0,i 1,i 4,i 3,i 0,f,i 0,f,f,i 0,i 0,i 0,i 0,f,i 0,i 0,i 0,i 0,i 1,i 4,i 3,i 2,f,i 0,f,f,i 0,i 0,i 0,i 0,f,i 0,i 0,i 0,i 0,i 7,i 0,i 0,i 0,f,i 0,f,f,i 0,i 0,i 0,i 0,f,i 0,i 0,i 4,i 2,i 1,i 4,i 3,i 0,f,i 0,f,f,i 0,i 0,i 0,i 0,f,i 0,i 0,i 0,i 0] 93 0 0 0 true)],
 next:=10,ro:=10,qy:=9,ret:=.slice 108 6 0 3 2 none,
 post:=[(108,.row [i 3,i 0,i 4,i 0,i 6,i 0,i 0,i 0,i 0,i 0,i 0,i 0,i 0,i 0] 122 6 6 0 false)],next':=135}
def q1q:E2.Fact:={
 f:=52,args:=[.agg [.str [97],.slice 9 0 0 7 17 (some 7)],.slice 10 0 0 3 2 none],
 pre:=[(1,g1),
  (8,g8),
  (9,.row [i 7,i 0,i 0,i 0,f,i 0,f,f,i 0,i 0,i 0,i 0,f,i 0,i 0,i 0,i 3,i 8,i 0,i 0,i 0,f,i 0,f,f,i 0,i 0,i 0,i 0,f,i 1,i 0,i 0,i 0,i 5,i 0,i 0,i 0,f,i 0,f,f,i 2,i 2,i 2,i 2,f,i 0,i 0,i 0,i 0,i 1,i 4,i 3,i 0,f,i 0,f,f,i 0,i 0,i 0,i 0,f,i 0,i 0,i 0,i 0,i 1,i 4,i 3,i 2,f,i 0,f,f,i 0,i 0,i 0,i 0,f,i 0,i 0,i 0,i 0,i 7,i 0,i 0,i 0,f,i 0,f,f,i 0,i 0,i 0,i 0,f,i 0,i 0,i 4,i 2,i 1,i 4,i 3,i 0,f,i 0,f,f,i 0,i 0,i 0,i 0,f,i 0,i 0,i 0,i 0] 93 0 0 0 true),
  (10,.row [i 2,i 1,i 2,i 1,i 2,i 1] 39 0 0 0 false)],
 next:=11,ro:=11,qy:=9,ret:=.tuple [.slice 518 2 0 3 2 none,.agg [i 6,i 1],i 0],
 post:=[(518,.row [i 0,i 1,i 2,i 1,i 4,i 1] 39 2 0 0 false)],next':=549}
def qvn:E2.Fact:={
 f:=19,args:=[.agg [.str [97],.slice 9 0 0 7 17 (some 7)],.slice 10 0 0 3 2 none],
 pre:=[(1,g1),
  (8,g8),
  (9,.row [i 7,i 0,i 0,i 0,f,i 0,f,f,i 0,i 0,i 0,i 0,f,i 0,i 0,i 0,i 3,i 8,i 0,i 0,i 0,f,i 0,f,f,i 0,i 0,i 0,i 0,f,i 1,i 0,i 0,i 0,i 5,i 0,i 0,i 0,f,i 0,f,f,i 2,i 2,i 2,i 2,f,i 0,i 0,i 0,i 0,i 1,i 4,i 3,i 0,f,i 0,f,f,i 0,i 0,i 0,i 0,f,i 0,i 0,i 0,i 0,i 1,i 4,i 3,i 2,f,i 0,f,f,i 0,i 0,i 0,i 0,f,i 0,i 0,i 0,i 0,i 7,i 0,i 0,i 0,f,i 0,f,f,i 0,i 0,i 0,i 0,f,i 0,i 0,i 4,i 2,i 1,i 4,i 3,i 0,f,i 0,f,f,i 0,i 0,i 0,i 0,f,i 0,i 0,i 0,i 0] 93 0 0 0 true),
  (10,.row [i 2,i 1,i 2,i 1,i 2,i 1] 39 0 0 0 false)],
 next:=11,ro:=11,qy:=9,ret:=.tuple [.slice 1456 2 0 3 10 none,i 0],
 post:=[(1456,.row [i 0,i 1,i 2,i 1,i 6,i 3,i (-1),f,i 3,i 0,i 2,i 1,i 2,i 1,i 6,i 3,i 0,f,i 4,i 0,i 4,i 1,i 2,i 1,i 5,i 4,i 0,f,i 6,i 0] 43 2 0 0 false)],next':=1461}
def qvo:E2.Fact:={
 f:=9,args:=[.str [114,101,115,116,32,51,47,50,32,48,32,48,10]],
 pre:=[],
 next:=9,ro:=9,qy:=9,ret:=.tuple [.slice 68 0 0 1 10 none,.agg [i 0,i 0]],
 post:=[(68,.row [i 0,i 1,i 3,i 2,i 0,i 0,i 0,t,i 0,i 0] 43 0 0 0 false)],next':=69}
def qvp:E2.Fact:={
 f:=14,args:=[.slice 9 0 0 3 10 (some 3),.agg [i 0,i 1]],
 pre:=[(9,.row [i 0,i 1,i 2,i 1,i 0,i 4,i 0,f,i 2,i 0,i 2,i 1,i 2,i 1,i 1,i 4,i 0,f,i 3,i 0,i 4,i 1,i 4,i 1,i 2,i 4,i 0,f,i 4,i 0] 43 0 0 0 true)],
 next:=10,ro:=10,qy:=9,ret:=.tuple [i 0,i 0],
 post:=[],next':=118}
def qvq:E2.Fact:={
 f:=14,args:=[.slice 9 0 0 3 10 (some 3),.agg [i 4,i 1]],
 pre:=[(9,.row [i 0,i 1,i 2,i 1,i 0,i 4,i 0,f,i 2,i 0,i 2,i 1,i 2,i 1,i 1,i 4,i 0,f,i 3,i 0,i 4,i 1,i 4,i 1,i 2,i 4,i 0,f,i 4,i 0] 43 0 0 0 true)],
 next:=10,ro:=10,qy:=9,ret:=.tuple [i 2,i 0],
 post:=[],next':=118}
def qvr:E2.Fact:={
 f:=9,args:=[.str [114,101,115,116,32,48,32,48,32,48,10]],
 pre:=[],
 next:=9,ro:=9,qy:=9,ret:=.tuple [.nils,.agg [i 3,i 5]],
 post:=[],next':=54}
def qvs:E2.Fact:={
 f:=9,args:=[.str [110,111,116,101,32,104,52,32,50,32,48,32,48,10]],
 pre:=[],
 next:=9,ro:=9,qy:=9,ret:=.tuple [.nils,.agg [i 3,i 5]],
 post:=[],next':=57}
end Go.Proofs.YtpbliaccnbgapaaGreatDoor.eventKnown
