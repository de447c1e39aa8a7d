import Derived.Test.YtcnoipglgpkpeaaGreatDoorM6
namespace Go.Proofs.YtcnoipglgpkpeaaGreatDoor
open Go Go.E2 Go.E3
set_option maxRecDepth 100000
structure Time where
  N:Int
  D:Int
instance:Inhabited Time:=⟨⟨0,0⟩⟩
structure Event where
  AtN:Int
  AtD:Int
  DurN:Int
  DurD:Int
  PitchStep:Int
  PitchOctave:Int
  PitchAlter:Int
  Rest:Bool
  Sign:Int
  Pass:Int
instance:Inhabited Event:=⟨⟨0,0,0,0,0,0,0,false,0,0⟩⟩
structure Canon where
  DelayN:Int
  DelayD:Int
  Steps:Int
  Mirror:Bool
  Retro:Bool
  FactorN:Int
  FactorD:Int
  MensMax:Int
  MensMod:Int
  MensTem:Int
  MensPro:Int
instance:Inhabited Canon:=⟨⟨0,0,0,false,false,0,0,0,0,0,0⟩⟩
def KT:Nat->Type
  | 0=>UInt8
  | 1=>Int
  | 2=>ZB
  | 9=>Time
  | 11=>Event
  | 25=>Canon
  | _=>Unit
def zku:(c:Nat)->KT c
  | 0=>(default:UInt8)
  | 1=>(default:Int)
  | 2=>(default:ZB)
  | 3=>()
  | 4=>()
  | 5=>()
  | 6=>()
  | 7=>()
  | 8=>()
  | 9=>(default:Time)
  | 10=>()
  | 11=>(default:Event)
  | 12=>()
  | 13=>()
  | 14=>()
  | 15=>()
  | 16=>()
  | 17=>()
  | 18=>()
  | 19=>()
  | 20=>()
  | 21=>()
  | 22=>()
  | 23=>()
  | 24=>()
  | 25=>(default:Canon)
  | _+26=>()
def qfn:(c:Nat)->KT c->List (PV KT)
  | 0,n=>[.int .u8 none ((UInt8.toNat n:Nat):Int)]
  | 1,x=>[.int .i64 none x]
  | 2,x=>[.str x]
  | 3,_=>[]
  | 4,_=>[]
  | 5,_=>[]
  | 6,_=>[]
  | 7,_=>[]
  | 8,_=>[]
  | 9,x=>[.int .i64 none (Time.N x),.int .i64 none (Time.D x)]
  | 10,_=>[]
  | 11,x=>[.int .i64 none (Event.AtN x),.int .i64 none (Event.AtD x),.int .i64 none (Event.DurN x),.int .i64 none (Event.DurD x),.int .i64 none (Event.PitchStep x),.int .i64 none (Event.PitchOctave x),.int .i64 none (Event.PitchAlter x),.sb 0 false (Event.Rest x) (Event.Rest x=true) (Event.Rest x=false),.int .i64 none (Event.Sign x),.int .i64 none (Event.Pass x)]
  | 12,_=>[]
  | 13,_=>[]
  | 14,_=>[]
  | 15,_=>[]
  | 16,_=>[]
  | 17,_=>[]
  | 18,_=>[]
  | 19,_=>[]
  | 20,_=>[]
  | 21,_=>[]
  | 22,_=>[]
  | 23,_=>[]
  | 24,_=>[]
  | 25,x=>[.int .i64 none (Canon.DelayN x),.int .i64 none (Canon.DelayD x),.int .i64 none (Canon.Steps x),.sb 0 false (Canon.Mirror x) (Canon.Mirror x=true) (Canon.Mirror x=false),.sb 0 false (Canon.Retro x) (Canon.Retro x=true) (Canon.Retro x=false),.int .i64 none (Canon.FactorN x),.int .i64 none (Canon.FactorD x),.int .i64 none (Canon.MensMax x),.int .i64 none (Canon.MensMod x),.int .i64 none (Canon.MensTem x),.int .i64 none (Canon.MensPro x)]
  | _+26,_=>[]
def zdm (cs:List (PV KT)):Option (Prop×UInt8):=match cs with
  | [p]=>(qg4 .u8 p).map fun n=>(0<=n/\n<=255,UInt8.ofNat (Int.toNat n))
  | _=>none
def zdo (cs:List (PV KT)):Option (Prop×Int):=match cs with
  | [p0]=>(qg4 .i64 p0).bind fun a0=>some (True,a0)
  | _=>none
def zdq (cs:List (PV KT)):Option (Prop×ZB):=match cs with
  | [p0]=>(zi3 p0).bind fun a0=>some (True,a0)
  | _=>none
def zds (cs:List (PV KT)):Option (Prop×Time):=match cs with
  | [p0,p1]=>(qg4 .i64 p0).bind fun a0=>(qg4 .i64 p1).bind fun a1=>some (True,Time.mk a0 a1)
  | _=>none
def q5f (cs:List (PV KT)):Option (Prop×Event):=match cs with
  | [p0,p1,p2,p3,p4,p5,p6,p7,p8,p9]=>(qg4 .i64 p0).bind fun a0=>(qg4 .i64 p1).bind fun a1=>(qg4 .i64 p2).bind fun a2=>(qg4 .i64 p3).bind fun a3=>(qg4 .i64 p4).bind fun a4=>(qg4 .i64 p5).bind fun a5=>(qg4 .i64 p6).bind fun a6=>(zcc p7).bind fun a7=>(qg4 .i64 p8).bind fun a8=>(qg4 .i64 p9).bind fun a9=>some (True,Event.mk a0 a1 a2 a3 a4 a5 a6 a7 a8 a9)
  | _=>none
def q5g (cs:List (PV KT)):Option (Prop×Canon):=match cs with
  | [p0,p1,p2,p3,p4,p5,p6,p7,p8,p9,p10]=>(qg4 .i64 p0).bind fun a0=>(qg4 .i64 p1).bind fun a1=>(qg4 .i64 p2).bind fun a2=>(zcc p3).bind fun a3=>(zcc p4).bind fun a4=>(qg4 .i64 p5).bind fun a5=>(qg4 .i64 p6).bind fun a6=>(qg4 .i64 p7).bind fun a7=>(qg4 .i64 p8).bind fun a8=>(qg4 .i64 p9).bind fun a9=>(qg4 .i64 p10).bind fun a10=>some (True,Canon.mk a0 a1 a2 a3 a4 a5 a6 a7 a8 a9 a10)
  | _=>none
def zlp:(c:Nat)->List (PV KT)->Option (Prop×KT c)
  | 0,cs=>zdm cs
  | 1,cs=>zdo cs
  | 2,cs=>zdq cs
  | 3,_=>none
  | 4,_=>none
  | 5,_=>none
  | 6,_=>none
  | 7,_=>none
  | 8,_=>none
  | 9,cs=>zds cs
  | 10,_=>none
  | 11,cs=>q5f cs
  | 12,_=>none
  | 13,_=>none
  | 14,_=>none
  | 15,_=>none
  | 16,_=>none
  | 17,_=>none
  | 18,_=>none
  | 19,_=>none
  | 20,_=>none
  | 21,_=>none
  | 22,_=>none
  | 23,_=>none
  | 24,_=>none
  | 25,cs=>q5g cs
  | _+26,_=>none
def XK:Codecs KT:={dflt:=zku,u8:=rfl,cells:=qfn,pack:=zlp}
def szK:Nat->Nat
  | 0=>1
  | 1=>1
  | 2=>1
  | 9=>2
  | 11=>10
  | 25=>11
  | _=>0
theorem zmz:∀ c x,(XK.cells c x).length=szK c
  | 0,x=>rfl
  | 1,x=>rfl
  | 2,x=>rfl
  | 3,x=>rfl
  | 4,x=>rfl
  | 5,x=>rfl
  | 6,x=>rfl
  | 7,x=>rfl
  | 8,x=>rfl
  | 9,x=>rfl
  | 10,x=>rfl
  | 11,x=>rfl
  | 12,x=>rfl
  | 13,x=>rfl
  | 14,x=>rfl
  | 15,x=>rfl
  | 16,x=>rfl
  | 17,x=>rfl
  | 18,x=>rfl
  | 19,x=>rfl
  | 20,x=>rfl
  | 21,x=>rfl
  | 22,x=>rfl
  | 23,x=>rfl
  | 24,x=>rfl
  | 25,x=>rfl
  | _+26,x=>rfl
theorem zm1:∀ c x,(XK.cells c x).all ja=true
  | 0,x=>rfl
  | 1,x=>rfl
  | 2,x=>rfl
  | 3,x=>rfl
  | 4,x=>rfl
  | 5,x=>rfl
  | 6,x=>rfl
  | 7,x=>rfl
  | 8,x=>rfl
  | 9,x=>rfl
  | 10,x=>rfl
  | 11,x=>rfl
  | 12,x=>rfl
  | 13,x=>rfl
  | 14,x=>rfl
  | 15,x=>rfl
  | 16,x=>rfl
  | 17,x=>rfl
  | 18,x=>rfl
  | 19,x=>rfl
  | 20,x=>rfl
  | 21,x=>rfl
  | 22,x=>rfl
  | 23,x=>rfl
  | 24,x=>rfl
  | 25,x=>rfl
  | _+26,x=>rfl
theorem zj5:∀ c x p,p ∈ XK.cells c x->Plain p
  | 0,x,p,h=>qx (ps:=qfn 0 x) rfl p h
  | 1,x,p,h=>qx (ps:=qfn 1 x) rfl p h
  | 2,x,p,h=>qx (ps:=qfn 2 x) rfl p h
  | 3,x,p,h=>by cases h
  | 4,x,p,h=>by cases h
  | 5,x,p,h=>by cases h
  | 6,x,p,h=>by cases h
  | 7,x,p,h=>by cases h
  | 8,x,p,h=>by cases h
  | 9,x,p,h=>qx (ps:=qfn 9 x) rfl p h
  | 10,x,p,h=>by cases h
  | 11,x,p,h=>qx (ps:=qfn 11 x) rfl p h
  | 12,x,p,h=>by cases h
  | 13,x,p,h=>by cases h
  | 14,x,p,h=>by cases h
  | 15,x,p,h=>by cases h
  | 16,x,p,h=>by cases h
  | 17,x,p,h=>by cases h
  | 18,x,p,h=>by cases h
  | 19,x,p,h=>by cases h
  | 20,x,p,h=>by cases h
  | 21,x,p,h=>by cases h
  | 22,x,p,h=>by cases h
  | 23,x,p,h=>by cases h
  | 24,x,p,h=>by cases h
  | 25,x,p,h=>qx (ps:=qfn 25 x) rfl p h
  | _+26,x,p,h=>by cases h
theorem zdn (cs:List (PV KT)) (pre:Prop) (x:UInt8) (h:zdm cs=some (pre,x)) (hp:pre) (w:Wd) (vs:List V) (r:qn XK szK w cs vs):qn XK szK w (qfn 0 x) vs:=by
  unfold zdm at h
  split at h
  . obtain ⟨n,h0,h1⟩:=zM.1 h
    simp only [zP] at h1
    obtain ⟨rfl,rfl⟩:=h1
    refine z9 (fun v hv=>?_) (fun us hr=>hr) r
    have:=ku h0 hv
    have e:((UInt8.toNat (UInt8.ofNat (Int.toNat n)):Nat):Int)=n:=by
      obtain ⟨h2,h3⟩:=hp
      have:(UInt8.ofNat (Int.toNat n)).toNat=Int.toNat n:=by
        rw [UInt8.toNat_ofNat']
        exact Nat.mod_eq_of_lt (by omega)
      rw [this]
      omega
    show Rep XK szK w (.int .u8 none ((UInt8.toNat (UInt8.ofNat (Int.toNat n)):Nat):Int)) v
    rw [e]
    exact this
  . cases h
theorem zdp (cs:List (PV KT)) (pre:Prop) (x:Int) (h:zdo cs=some (pre,x)) (hp:pre) (w:Wd) (vs:List V) (r:qn XK szK w cs vs):qn XK szK w (qfn 1 x) vs:=by
  unfold zdo at h
  split at h
  . obtain ⟨a0,h0,h⟩:=zI.1 h
    cases h
    exact z9 (fun v hv=>ku h0 hv) (fun us hr=>hr) r
  . cases h
theorem zdr (cs:List (PV KT)) (pre:Prop) (x:ZB) (h:zdq cs=some (pre,x)) (hp:pre) (w:Wd) (vs:List V) (r:qn XK szK w cs vs):qn XK szK w (qfn 2 x) vs:=by
  unfold zdq at h
  split at h
  . obtain ⟨a0,h0,h⟩:=zI.1 h
    cases h
    exact z9 (fun v hv=>zcd h0 hv) (fun us hr=>hr) r
  . cases h
theorem zdt (cs:List (PV KT)) (pre:Prop) (x:Time) (h:zds cs=some (pre,x)) (hp:pre) (w:Wd) (vs:List V) (r:qn XK szK w cs vs):qn XK szK w (qfn 9 x) vs:=by
  unfold zds at h
  split at h
  . obtain ⟨a0,h0,h⟩:=zI.1 h
    obtain ⟨a1,h1,h⟩:=zI.1 h
    cases h
    exact z9 (fun v hv=>ku h0 hv) (fun us hr=>z9 (fun v hv=>ku h1 hv) (fun us hr=>hr) hr) r
  . cases h
theorem q92 (cs:List (PV KT)) (pre:Prop) (x:Event) (h:q5f cs=some (pre,x)) (hp:pre) (w:Wd) (vs:List V) (r:qn XK szK w cs vs):qn XK szK w (qfn 11 x) vs:=by
  unfold q5f at h
  split at h
  . obtain ⟨a0,h0,h⟩:=zI.1 h
    obtain ⟨a1,h1,h⟩:=zI.1 h
    obtain ⟨a2,h2,h⟩:=zI.1 h
    obtain ⟨a3,h3,h⟩:=zI.1 h
    obtain ⟨a4,h4,h⟩:=zI.1 h
    obtain ⟨a5,h5,h⟩:=zI.1 h
    obtain ⟨a6,h6,h⟩:=zI.1 h
    obtain ⟨a7,h7,h⟩:=zI.1 h
    obtain ⟨a8,h8,h⟩:=zI.1 h
    obtain ⟨a9,h9,h⟩:=zI.1 h
    cases h
    exact z9 (fun v hv=>ku h0 hv) (fun us hr=>z9 (fun v hv=>ku h1 hv) (fun us hr=>z9 (fun v hv=>ku h2 hv) (fun us hr=>z9 (fun v hv=>ku h3 hv) (fun us hr=>z9 (fun v hv=>ku h4 hv) (fun us hr=>z9 (fun v hv=>ku h5 hv) (fun us hr=>z9 (fun v hv=>ku h6 hv) (fun us hr=>z9 (fun v hv=>qt0 h7 hv) (fun us hr=>z9 (fun v hv=>ku h8 hv) (fun us hr=>z9 (fun v hv=>ku h9 hv) (fun us hr=>hr) hr) hr) hr) hr) hr) hr) hr) hr) hr) r
  . cases h
theorem q93 (cs:List (PV KT)) (pre:Prop) (x:Canon) (h:q5g cs=some (pre,x)) (hp:pre) (w:Wd) (vs:List V) (r:qn XK szK w cs vs):qn XK szK w (qfn 25 x) vs:=by
  unfold q5g at h
  split at h
  . obtain ⟨a0,h0,h⟩:=zI.1 h
    obtain ⟨a1,h1,h⟩:=zI.1 h
    obtain ⟨a2,h2,h⟩:=zI.1 h
    obtain ⟨a3,h3,h⟩:=zI.1 h
    obtain ⟨a4,h4,h⟩:=zI.1 h
    obtain ⟨a5,h5,h⟩:=zI.1 h
    obtain ⟨a6,h6,h⟩:=zI.1 h
    obtain ⟨a7,h7,h⟩:=zI.1 h
    obtain ⟨a8,h8,h⟩:=zI.1 h
    obtain ⟨a9,h9,h⟩:=zI.1 h
    obtain ⟨a10,h10,h⟩:=zI.1 h
    cases h
    exact z9 (fun v hv=>ku h0 hv) (fun us hr=>z9 (fun v hv=>ku h1 hv) (fun us hr=>z9 (fun v hv=>ku h2 hv) (fun us hr=>z9 (fun v hv=>qt0 h3 hv) (fun us hr=>z9 (fun v hv=>qt0 h4 hv) (fun us hr=>z9 (fun v hv=>ku h5 hv) (fun us hr=>z9 (fun v hv=>ku h6 hv) (fun us hr=>z9 (fun v hv=>ku h7 hv) (fun us hr=>z9 (fun v hv=>ku h8 hv) (fun us hr=>z9 (fun v hv=>ku h9 hv) (fun us hr=>z9 (fun v hv=>ku h10 hv) (fun us hr=>hr) hr) hr) hr) hr) hr) hr) hr) hr) hr) hr) r
  . cases h
theorem zj4:∀ c cs pre x,XK.pack c cs=some (pre,x)->pre->∀ w vs,qn XK szK w cs vs->qn XK szK w (XK.cells c x) vs
  | 0,cs,pre,x,h,hp,w,vs,r=>zdn cs pre x h hp w vs r
  | 1,cs,pre,x,h,hp,w,vs,r=>zdp cs pre x h hp w vs r
  | 2,cs,pre,x,h,hp,w,vs,r=>zdr cs pre x h hp w vs r
  | 3,cs,pre,x,h,hp,w,vs,r=>by cases h
  | 4,cs,pre,x,h,hp,w,vs,r=>by cases h
  | 5,cs,pre,x,h,hp,w,vs,r=>by cases h
  | 6,cs,pre,x,h,hp,w,vs,r=>by cases h
  | 7,cs,pre,x,h,hp,w,vs,r=>by cases h
  | 8,cs,pre,x,h,hp,w,vs,r=>by cases h
  | 9,cs,pre,x,h,hp,w,vs,r=>zdt cs pre x h hp w vs r
  | 10,cs,pre,x,h,hp,w,vs,r=>by cases h
  | 11,cs,pre,x,h,hp,w,vs,r=>q92 cs pre x h hp w vs r
  | 12,cs,pre,x,h,hp,w,vs,r=>by cases h
  | 13,cs,pre,x,h,hp,w,vs,r=>by cases h
  | 14,cs,pre,x,h,hp,w,vs,r=>by cases h
  | 15,cs,pre,x,h,hp,w,vs,r=>by cases h
  | 16,cs,pre,x,h,hp,w,vs,r=>by cases h
  | 17,cs,pre,x,h,hp,w,vs,r=>by cases h
  | 18,cs,pre,x,h,hp,w,vs,r=>by cases h
  | 19,cs,pre,x,h,hp,w,vs,r=>by cases h
  | 20,cs,pre,x,h,hp,w,vs,r=>by cases h
  | 21,cs,pre,x,h,hp,w,vs,r=>by cases h
  | 22,cs,pre,x,h,hp,w,vs,r=>by cases h
  | 23,cs,pre,x,h,hp,w,vs,r=>by cases h
  | 24,cs,pre,x,h,hp,w,vs,r=>by cases h
  | 25,cs,pre,x,h,hp,w,vs,r=>q93 cs pre x h hp w vs r
  | _+26,cs,pre,x,h,hp,w,vs,r=>by cases h
end Go.Proofs.YtcnoipglgpkpeaaGreatDoor
