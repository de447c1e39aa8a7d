import Derived.Test.YtpbliaccnbgapaaGreatDoorM6
namespace Go.Proofs.YtpbliaccnbgapaaGreatDoor
open Go Go.E2 Go.E3
set_option maxRecDepth 100000
structure Word where
  At:Int
  Text:ZB
  Quoted:Bool
instance:Inhabited Word:=⟨⟨0,[],false⟩⟩
structure Row where
  At:Int
  Words:List Word
instance:Inhabited Row:=⟨⟨0,[]⟩⟩
structure Time where
  N:Int
  D:Int
instance:Inhabited Time:=⟨⟨0,0⟩⟩
structure Event where
  AtN:Int
  AtD:Int
  DurN:Int
  DurD:Int
  PitchStep:Int
  PitchOctave:Int
  PitchAlter:Int
  Rest:Bool
  Sign:Int
  Pass:Int
instance:Inhabited Event:=⟨⟨0,0,0,0,0,0,0,false,0,0⟩⟩
def KT:Nat->Type
  | 0=>UInt8
  | 1=>Int
  | 2=>ZB
  | 5=>Word
  | 6=>Row
  | 9=>Time
  | 11=>Event
  | _=>Unit
def zqa:(c:Nat)->KT c
  | 0=>(default:UInt8)
  | 1=>(default:Int)
  | 2=>(default:ZB)
  | 3=>()
  | 4=>()
  | 5=>(default:Word)
  | 6=>(default:Row)
  | 7=>()
  | 8=>()
  | 9=>(default:Time)
  | 10=>()
  | 11=>(default:Event)
  | _+12=>()
def qeq:(c:Nat)->KT c->List (PV KT)
  | 0,n=>[.int .u8 none ((UInt8.toNat n:Nat):Int)]
  | 1,x=>[.int .i64 none x]
  | 2,x=>[.str x]
  | 3,_=>[]
  | 4,_=>[]
  | 5,x=>[.int .i64 none (Word.At x),.str (Word.Text x),.sb 0 false (Word.Quoted x) (Word.Quoted x=true) (Word.Quoted x=false)]
  | 6,x=>[.int .i64 none (Row.At x),.list 5 (Row.Words x) none]
  | 7,_=>[]
  | 8,_=>[]
  | 9,x=>[.int .i64 none (Time.N x),.int .i64 none (Time.D x)]
  | 10,_=>[]
  | 11,x=>[.int .i64 none (Event.AtN x),.int .i64 none (Event.AtD x),.int .i64 none (Event.DurN x),.int .i64 none (Event.DurD x),.int .i64 none (Event.PitchStep x),.int .i64 none (Event.PitchOctave x),.int .i64 none (Event.PitchAlter x),.sb 0 false (Event.Rest x) (Event.Rest x=true) (Event.Rest x=false),.int .i64 none (Event.Sign x),.int .i64 none (Event.Pass x)]
  | _+12,_=>[]
def zh0 (cs:List (PV KT)):Option (Prop×UInt8):=match cs with
  | [p]=>(qlq .u8 p).map fun n=>(0<=n/\n<=255,UInt8.ofNat (Int.toNat n))
  | _=>none
def zh2 (cs:List (PV KT)):Option (Prop×Int):=match cs with
  | [p0]=>(qlq .i64 p0).bind fun a0=>some (True,a0)
  | _=>none
def zh4 (cs:List (PV KT)):Option (Prop×ZB):=match cs with
  | [p0]=>(zk8 p0).bind fun a0=>some (True,a0)
  | _=>none
def zh6 (cs:List (PV KT)):Option (Prop×Word):=match cs with
  | [p0,p1,p2]=>(qlq .i64 p0).bind fun a0=>(zk8 p1).bind fun a1=>(zk7 p2).bind fun a2=>some (True,Word.mk a0 a1 a2)
  | _=>none
def zh8 (cs:List (PV KT)):Option (Prop×Row):=match cs with
  | [p0,p1]=>(qlq .i64 p0).bind fun a0=>(zoa (K:=KT) 5 p1).bind fun a1=>some (True,Row.mk a0 a1)
  | _=>none
def zia (cs:List (PV KT)):Option (Prop×Time):=match cs with
  | [p0,p1]=>(qlq .i64 p0).bind fun a0=>(qlq .i64 p1).bind fun a1=>some (True,Time.mk a0 a1)
  | _=>none
def q8j (cs:List (PV KT)):Option (Prop×Event):=match cs with
  | [p0,p1,p2,p3,p4,p5,p6,p7,p8,p9]=>(qlq .i64 p0).bind fun a0=>(qlq .i64 p1).bind fun a1=>(qlq .i64 p2).bind fun a2=>(qlq .i64 p3).bind fun a3=>(qlq .i64 p4).bind fun a4=>(qlq .i64 p5).bind fun a5=>(qlq .i64 p6).bind fun a6=>(zk7 p7).bind fun a7=>(qlq .i64 p8).bind fun a8=>(qlq .i64 p9).bind fun a9=>some (True,Event.mk a0 a1 a2 a3 a4 a5 a6 a7 a8 a9)
  | _=>none
def zq7:(c:Nat)->List (PV KT)->Option (Prop×KT c)
  | 0,cs=>zh0 cs
  | 1,cs=>zh2 cs
  | 2,cs=>zh4 cs
  | 3,_=>none
  | 4,_=>none
  | 5,cs=>zh6 cs
  | 6,cs=>zh8 cs
  | 7,_=>none
  | 8,_=>none
  | 9,cs=>zia cs
  | 10,_=>none
  | 11,cs=>q8j cs
  | _+12,_=>none
def XK:Codecs KT:={dflt:=zqa,u8:=rfl,cells:=qeq,pack:=zq7}
def szK:Nat->Nat
  | 0=>1
  | 1=>1
  | 2=>1
  | 5=>3
  | 6=>2
  | 9=>2
  | 11=>10
  | _=>0
theorem zsn:∀ c x,(XK.cells c x).length=szK c
  | 0,x=>rfl
  | 1,x=>rfl
  | 2,x=>rfl
  | 3,x=>rfl
  | 4,x=>rfl
  | 5,x=>rfl
  | 6,x=>rfl
  | 7,x=>rfl
  | 8,x=>rfl
  | 9,x=>rfl
  | 10,x=>rfl
  | 11,x=>rfl
  | _+12,x=>rfl
theorem zsr:∀ c x,(XK.cells c x).all qar=true
  | 0,x=>rfl
  | 1,x=>rfl
  | 2,x=>rfl
  | 3,x=>rfl
  | 4,x=>rfl
  | 5,x=>rfl
  | 6,x=>rfl
  | 7,x=>rfl
  | 8,x=>rfl
  | 9,x=>rfl
  | 10,x=>rfl
  | 11,x=>rfl
  | _+12,x=>rfl
theorem zpl:∀ c x p,p ∈ XK.cells c x->Plain p
  | 0,x,p,h=>zg (ps:=qeq 0 x) rfl p h
  | 1,x,p,h=>zg (ps:=qeq 1 x) rfl p h
  | 2,x,p,h=>zg (ps:=qeq 2 x) rfl p h
  | 3,x,p,h=>by cases h
  | 4,x,p,h=>by cases h
  | 5,x,p,h=>zg (ps:=qeq 5 x) rfl p h
  | 6,x,p,h=>zg (ps:=qeq 6 x) rfl p h
  | 7,x,p,h=>by cases h
  | 8,x,p,h=>by cases h
  | 9,x,p,h=>zg (ps:=qeq 9 x) rfl p h
  | 10,x,p,h=>by cases h
  | 11,x,p,h=>zg (ps:=qeq 11 x) rfl p h
  | _+12,x,p,h=>by cases h
theorem zh1 (cs:List (PV KT)) (pre:Prop) (x:UInt8) (h:zh0 cs=some (pre,x)) (hp:pre) (w:Wd) (vs:List V) (r:qq XK szK w cs vs):qq XK szK w (qeq 0 x) vs:=by
  unfold zh0 at h
  split at h
  . obtain ⟨n,h0,h1⟩:=zM.1 h
    simp only [zP] at h1
    obtain ⟨rfl,rfl⟩:=h1
    refine j6 (fun v hv=>?_) (fun us hr=>hr) r
    have:=qbl h0 hv
    have e:((UInt8.toNat (UInt8.ofNat (Int.toNat n)):Nat):Int)=n:=by
      obtain ⟨h2,h3⟩:=hp
      have:(UInt8.ofNat (Int.toNat n)).toNat=Int.toNat n:=by
        rw [UInt8.toNat_ofNat']
        exact Nat.mod_eq_of_lt (by omega)
      rw [this]
      omega
    show Rep XK szK w (.int .u8 none ((UInt8.toNat (UInt8.ofNat (Int.toNat n)):Nat):Int)) v
    rw [e]
    exact this
  . cases h
theorem zh3 (cs:List (PV KT)) (pre:Prop) (x:Int) (h:zh2 cs=some (pre,x)) (hp:pre) (w:Wd) (vs:List V) (r:qq XK szK w cs vs):qq XK szK w (qeq 1 x) vs:=by
  unfold zh2 at h
  split at h
  . obtain ⟨a0,h0,h⟩:=zI.1 h
    cases h
    exact j6 (fun v hv=>qbl h0 hv) (fun us hr=>hr) r
  . cases h
theorem zh5 (cs:List (PV KT)) (pre:Prop) (x:ZB) (h:zh4 cs=some (pre,x)) (hp:pre) (w:Wd) (vs:List V) (r:qq XK szK w cs vs):qq XK szK w (qeq 2 x) vs:=by
  unfold zh4 at h
  split at h
  . obtain ⟨a0,h0,h⟩:=zI.1 h
    cases h
    exact j6 (fun v hv=>q40 h0 hv) (fun us hr=>hr) r
  . cases h
theorem zh7 (cs:List (PV KT)) (pre:Prop) (x:Word) (h:zh6 cs=some (pre,x)) (hp:pre) (w:Wd) (vs:List V) (r:qq XK szK w cs vs):qq XK szK w (qeq 5 x) vs:=by
  unfold zh6 at h
  split at h
  . obtain ⟨a0,h0,h⟩:=zI.1 h
    obtain ⟨a1,h1,h⟩:=zI.1 h
    obtain ⟨a2,h2,h⟩:=zI.1 h
    cases h
    exact j6 (fun v hv=>qbl h0 hv) (fun us hr=>j6 (fun v hv=>q40 h1 hv) (fun us hr=>j6 (fun v hv=>q4z h2 hv) (fun us hr=>hr) hr) hr) r
  . cases h
theorem zh9 (cs:List (PV KT)) (pre:Prop) (x:Row) (h:zh8 cs=some (pre,x)) (hp:pre) (w:Wd) (vs:List V) (r:qq XK szK w cs vs):qq XK szK w (qeq 6 x) vs:=by
  unfold zh8 at h
  split at h
  . obtain ⟨a0,h0,h⟩:=zI.1 h
    obtain ⟨a1,h1,h⟩:=zI.1 h
    cases h
    exact j6 (fun v hv=>qbl h0 hv) (fun us hr=>j6 (fun v hv=>zcy h1 hv) (fun us hr=>hr) hr) r
  . cases h
theorem zib (cs:List (PV KT)) (pre:Prop) (x:Time) (h:zia cs=some (pre,x)) (hp:pre) (w:Wd) (vs:List V) (r:qq XK szK w cs vs):qq XK szK w (qeq 9 x) vs:=by
  unfold zia at h
  split at h
  . obtain ⟨a0,h0,h⟩:=zI.1 h
    obtain ⟨a1,h1,h⟩:=zI.1 h
    cases h
    exact j6 (fun v hv=>qbl h0 hv) (fun us hr=>j6 (fun v hv=>qbl h1 hv) (fun us hr=>hr) hr) r
  . cases h
theorem zdq (cs:List (PV KT)) (pre:Prop) (x:Event) (h:q8j cs=some (pre,x)) (hp:pre) (w:Wd) (vs:List V) (r:qq XK szK w cs vs):qq XK szK w (qeq 11 x) vs:=by
  unfold q8j at h
  split at h
  . obtain ⟨a0,h0,h⟩:=zI.1 h
    obtain ⟨a1,h1,h⟩:=zI.1 h
    obtain ⟨a2,h2,h⟩:=zI.1 h
    obtain ⟨a3,h3,h⟩:=zI.1 h
    obtain ⟨a4,h4,h⟩:=zI.1 h
    obtain ⟨a5,h5,h⟩:=zI.1 h
    obtain ⟨a6,h6,h⟩:=zI.1 h
    obtain ⟨a7,h7,h⟩:=zI.1 h
    obtain ⟨a8,h8,h⟩:=zI.1 h
    obtain ⟨a9,h9,h⟩:=zI.1 h
    cases h
    exact j6 (fun v hv=>qbl h0 hv) (fun us hr=>j6 (fun v hv=>qbl h1 hv) (fun us hr=>j6 (fun v hv=>qbl h2 hv) (fun us hr=>j6 (fun v hv=>qbl h3 hv) (fun us hr=>j6 (fun v hv=>qbl h4 hv) (fun us hr=>j6 (fun v hv=>qbl h5 hv) (fun us hr=>j6 (fun v hv=>qbl h6 hv) (fun us hr=>j6 (fun v hv=>q4z h7 hv) (fun us hr=>j6 (fun v hv=>qbl h8 hv) (fun us hr=>j6 (fun v hv=>qbl h9 hv) (fun us hr=>hr) hr) hr) hr) hr) hr) hr) hr) hr) hr) r
  . cases h
theorem zpg:∀ c cs pre x,XK.pack c cs=some (pre,x)->pre->∀ w vs,qq XK szK w cs vs->qq XK szK w (XK.cells c x) vs
  | 0,cs,pre,x,h,hp,w,vs,r=>zh1 cs pre x h hp w vs r
  | 1,cs,pre,x,h,hp,w,vs,r=>zh3 cs pre x h hp w vs r
  | 2,cs,pre,x,h,hp,w,vs,r=>zh5 cs pre x h hp w vs r
  | 3,cs,pre,x,h,hp,w,vs,r=>by cases h
  | 4,cs,pre,x,h,hp,w,vs,r=>by cases h
  | 5,cs,pre,x,h,hp,w,vs,r=>zh7 cs pre x h hp w vs r
  | 6,cs,pre,x,h,hp,w,vs,r=>zh9 cs pre x h hp w vs r
  | 7,cs,pre,x,h,hp,w,vs,r=>by cases h
  | 8,cs,pre,x,h,hp,w,vs,r=>by cases h
  | 9,cs,pre,x,h,hp,w,vs,r=>zib cs pre x h hp w vs r
  | 10,cs,pre,x,h,hp,w,vs,r=>by cases h
  | 11,cs,pre,x,h,hp,w,vs,r=>zdq cs pre x h hp w vs r
  | _+12,cs,pre,x,h,hp,w,vs,r=>by cases h
end Go.Proofs.YtpbliaccnbgapaaGreatDoor
