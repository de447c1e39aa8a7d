import Derived.Test.YtcnoipglgpkpeaaGreatDoorM6
namespace Go.Proofs.YtcnoipglgpkpeaaGreatDoor
open Go Go.E2 Go.E3
set_option maxRecDepth 100000
structure Time where
  N:Int
  D:Int
instance:Inhabited Time:=⟨⟨0,0⟩⟩
structure Event where
  AtN:Int
  AtD:Int
  DurN:Int
  DurD:Int
  PitchStep:Int
  PitchOctave:Int
  PitchAlter:Int
  Rest:Bool
  Sign:Int
  Pass:Int
instance:Inhabited Event:=⟨⟨0,0,0,0,0,0,0,false,0,0⟩⟩
def KT:Nat->Type
  | 0=>UInt8
  | 1=>Int
  | 2=>ZB
  | 9=>Time
  | 11=>Event
  | _=>Unit
def zfs:(c:Nat)->KT c
  | 0=>(default:UInt8)
  | 1=>(default:Int)
  | 2=>(default:ZB)
  | 3=>()
  | 4=>()
  | 5=>()
  | 6=>()
  | 7=>()
  | 8=>()
  | 9=>(default:Time)
  | 10=>()
  | 11=>(default:Event)
  | _+12=>()
def qgs:(c:Nat)->KT c->List (PV KT)
  | 0,n=>[.int .u8 none ((UInt8.toNat n:Nat):Int)]
  | 1,x=>[.int .i64 none x]
  | 2,x=>[.str x]
  | 3,_=>[]
  | 4,_=>[]
  | 5,_=>[]
  | 6,_=>[]
  | 7,_=>[]
  | 8,_=>[]
  | 9,x=>[.int .i64 none (Time.N x),.int .i64 none (Time.D x)]
  | 10,_=>[]
  | 11,x=>[.int .i64 none (Event.AtN x),.int .i64 none (Event.AtD x),.int .i64 none (Event.DurN x),.int .i64 none (Event.DurD x),.int .i64 none (Event.PitchStep x),.int .i64 none (Event.PitchOctave x),.int .i64 none (Event.PitchAlter x),.sb 0 false (Event.Rest x) (Event.Rest x=true) (Event.Rest x=false),.int .i64 none (Event.Sign x),.int .i64 none (Event.Pass x)]
  | _+12,_=>[]
def q9s (cs:List (PV KT)):Option (Prop×UInt8):=match cs with
  | [p]=>(ql1 .u8 p).map fun n=>(0<=n/\n<=255,UInt8.ofNat (Int.toNat n))
  | _=>none
def q9u (cs:List (PV KT)):Option (Prop×Int):=match cs with
  | [p0]=>(ql1 .i64 p0).bind fun a0=>some (True,a0)
  | _=>none
def q9w (cs:List (PV KT)):Option (Prop×ZB):=match cs with
  | [p0]=>(zd8 p0).bind fun a0=>some (True,a0)
  | _=>none
def q9y (cs:List (PV KT)):Option (Prop×Time):=match cs with
  | [p0,p1]=>(ql1 .i64 p0).bind fun a0=>(ql1 .i64 p1).bind fun a1=>some (True,Time.mk a0 a1)
  | _=>none
def q2e (cs:List (PV KT)):Option (Prop×Event):=match cs with
  | [p0,p1,p2,p3,p4,p5,p6,p7,p8,p9]=>(ql1 .i64 p0).bind fun a0=>(ql1 .i64 p1).bind fun a1=>(ql1 .i64 p2).bind fun a2=>(ql1 .i64 p3).bind fun a3=>(ql1 .i64 p4).bind fun a4=>(ql1 .i64 p5).bind fun a5=>(ql1 .i64 p6).bind fun a6=>(zd7 p7).bind fun a7=>(ql1 .i64 p8).bind fun a8=>(ql1 .i64 p9).bind fun a9=>some (True,Event.mk a0 a1 a2 a3 a4 a5 a6 a7 a8 a9)
  | _=>none
def zgk:(c:Nat)->List (PV KT)->Option (Prop×KT c)
  | 0,cs=>q9s cs
  | 1,cs=>q9u cs
  | 2,cs=>q9w cs
  | 3,_=>none
  | 4,_=>none
  | 5,_=>none
  | 6,_=>none
  | 7,_=>none
  | 8,_=>none
  | 9,cs=>q9y cs
  | 10,_=>none
  | 11,cs=>q2e cs
  | _+12,_=>none
def XK:Codecs KT:={dflt:=zfs,u8:=rfl,cells:=qgs,pack:=zgk}
def szK:Nat->Nat
  | 0=>1
  | 1=>1
  | 2=>1
  | 9=>2
  | 11=>10
  | _=>0
theorem zhq:∀ c x,(XK.cells c x).length=szK c
  | 0,x=>rfl
  | 1,x=>rfl
  | 2,x=>rfl
  | 3,x=>rfl
  | 4,x=>rfl
  | 5,x=>rfl
  | 6,x=>rfl
  | 7,x=>rfl
  | 8,x=>rfl
  | 9,x=>rfl
  | 10,x=>rfl
  | 11,x=>rfl
  | _+12,x=>rfl
theorem zhs:∀ c x,(XK.cells c x).all ku=true
  | 0,x=>rfl
  | 1,x=>rfl
  | 2,x=>rfl
  | 3,x=>rfl
  | 4,x=>rfl
  | 5,x=>rfl
  | 6,x=>rfl
  | 7,x=>rfl
  | 8,x=>rfl
  | 9,x=>rfl
  | 10,x=>rfl
  | 11,x=>rfl
  | _+12,x=>rfl
theorem ze7:∀ c x p,p ∈ XK.cells c x->Plain p
  | 0,x,p,h=>zg (ps:=qgs 0 x) rfl p h
  | 1,x,p,h=>zg (ps:=qgs 1 x) rfl p h
  | 2,x,p,h=>zg (ps:=qgs 2 x) rfl p h
  | 3,x,p,h=>by cases h
  | 4,x,p,h=>by cases h
  | 5,x,p,h=>by cases h
  | 6,x,p,h=>by cases h
  | 7,x,p,h=>by cases h
  | 8,x,p,h=>by cases h
  | 9,x,p,h=>zg (ps:=qgs 9 x) rfl p h
  | 10,x,p,h=>by cases h
  | 11,x,p,h=>zg (ps:=qgs 11 x) rfl p h
  | _+12,x,p,h=>by cases h
theorem q9t (cs:List (PV KT)) (pre:Prop) (x:UInt8) (h:q9s cs=some (pre,x)) (hp:pre) (w:Wd) (vs:List V) (r:qo XK szK w cs vs):qo XK szK w (qgs 0 x) vs:=by
  unfold q9s at h
  split at h
  . obtain ⟨n,h0,h1⟩:=zM.1 h
    simp only [zP] at h1
    obtain ⟨rfl,rfl⟩:=h1
    refine qam (fun v hv=>?_) (fun us hr=>hr) r
    have:=qbg h0 hv
    have e:((UInt8.toNat (UInt8.ofNat (Int.toNat n)):Nat):Int)=n:=by
      obtain ⟨h2,h3⟩:=hp
      have:(UInt8.ofNat (Int.toNat n)).toNat=Int.toNat n:=by
        rw [UInt8.toNat_ofNat']
        exact Nat.mod_eq_of_lt (by omega)
      rw [this]
      omega
    show Rep XK szK w (.int .u8 none ((UInt8.toNat (UInt8.ofNat (Int.toNat n)):Nat):Int)) v
    rw [e]
    exact this
  . cases h
theorem q9v (cs:List (PV KT)) (pre:Prop) (x:Int) (h:q9u cs=some (pre,x)) (hp:pre) (w:Wd) (vs:List V) (r:qo XK szK w cs vs):qo XK szK w (qgs 1 x) vs:=by
  unfold q9u at h
  split at h
  . obtain ⟨a0,h0,h⟩:=zI.1 h
    cases h
    exact qam (fun v hv=>qbg h0 hv) (fun us hr=>hr) r
  . cases h
theorem q9x (cs:List (PV KT)) (pre:Prop) (x:ZB) (h:q9w cs=some (pre,x)) (hp:pre) (w:Wd) (vs:List V) (r:qo XK szK w cs vs):qo XK szK w (qgs 2 x) vs:=by
  unfold q9w at h
  split at h
  . obtain ⟨a0,h0,h⟩:=zI.1 h
    cases h
    exact qam (fun v hv=>q8l h0 hv) (fun us hr=>hr) r
  . cases h
theorem q9z (cs:List (PV KT)) (pre:Prop) (x:Time) (h:q9y cs=some (pre,x)) (hp:pre) (w:Wd) (vs:List V) (r:qo XK szK w cs vs):qo XK szK w (qgs 9 x) vs:=by
  unfold q9y at h
  split at h
  . obtain ⟨a0,h0,h⟩:=zI.1 h
    obtain ⟨a1,h1,h⟩:=zI.1 h
    cases h
    exact qam (fun v hv=>qbg h0 hv) (fun us hr=>qam (fun v hv=>qbg h1 hv) (fun us hr=>hr) hr) r
  . cases h
theorem q6e (cs:List (PV KT)) (pre:Prop) (x:Event) (h:q2e cs=some (pre,x)) (hp:pre) (w:Wd) (vs:List V) (r:qo XK szK w cs vs):qo XK szK w (qgs 11 x) vs:=by
  unfold q2e at h
  split at h
  . obtain ⟨a0,h0,h⟩:=zI.1 h
    obtain ⟨a1,h1,h⟩:=zI.1 h
    obtain ⟨a2,h2,h⟩:=zI.1 h
    obtain ⟨a3,h3,h⟩:=zI.1 h
    obtain ⟨a4,h4,h⟩:=zI.1 h
    obtain ⟨a5,h5,h⟩:=zI.1 h
    obtain ⟨a6,h6,h⟩:=zI.1 h
    obtain ⟨a7,h7,h⟩:=zI.1 h
    obtain ⟨a8,h8,h⟩:=zI.1 h
    obtain ⟨a9,h9,h⟩:=zI.1 h
    cases h
    exact qam (fun v hv=>qbg h0 hv) (fun us hr=>qam (fun v hv=>qbg h1 hv) (fun us hr=>qam (fun v hv=>qbg h2 hv) (fun us hr=>qam (fun v hv=>qbg h3 hv) (fun us hr=>qam (fun v hv=>qbg h4 hv) (fun us hr=>qam (fun v hv=>qbg h5 hv) (fun us hr=>qam (fun v hv=>qbg h6 hv) (fun us hr=>qam (fun v hv=>q8k h7 hv) (fun us hr=>qam (fun v hv=>qbg h8 hv) (fun us hr=>qam (fun v hv=>qbg h9 hv) (fun us hr=>hr) hr) hr) hr) hr) hr) hr) hr) hr) hr) r
  . cases h
theorem ze6:∀ c cs pre x,XK.pack c cs=some (pre,x)->pre->∀ w vs,qo XK szK w cs vs->qo XK szK w (XK.cells c x) vs
  | 0,cs,pre,x,h,hp,w,vs,r=>q9t cs pre x h hp w vs r
  | 1,cs,pre,x,h,hp,w,vs,r=>q9v cs pre x h hp w vs r
  | 2,cs,pre,x,h,hp,w,vs,r=>q9x cs pre x h hp w vs r
  | 3,cs,pre,x,h,hp,w,vs,r=>by cases h
  | 4,cs,pre,x,h,hp,w,vs,r=>by cases h
  | 5,cs,pre,x,h,hp,w,vs,r=>by cases h
  | 6,cs,pre,x,h,hp,w,vs,r=>by cases h
  | 7,cs,pre,x,h,hp,w,vs,r=>by cases h
  | 8,cs,pre,x,h,hp,w,vs,r=>by cases h
  | 9,cs,pre,x,h,hp,w,vs,r=>q9z cs pre x h hp w vs r
  | 10,cs,pre,x,h,hp,w,vs,r=>by cases h
  | 11,cs,pre,x,h,hp,w,vs,r=>q6e cs pre x h hp w vs r
  | _+12,cs,pre,x,h,hp,w,vs,r=>by cases h
end Go.Proofs.YtcnoipglgpkpeaaGreatDoor
