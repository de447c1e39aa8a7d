import Derived.Test.YtcnoipglgpkpeaaGreatDoorM6
namespace Go.Proofs.YtcnoipglgpkpeaaGreatDoor
open Go Go.E2 Go.E3
set_option maxRecDepth 100000
structure Time where
  N:Int
  D:Int
instance:Inhabited Time:=⟨⟨0,0⟩⟩
structure Event where
  AtN:Int
  AtD:Int
  DurN:Int
  DurD:Int
  PitchStep:Int
  PitchOctave:Int
  PitchAlter:Int
  Rest:Bool
  Sign:Int
  Pass:Int
instance:Inhabited Event:=⟨⟨0,0,0,0,0,0,0,false,0,0⟩⟩
structure Canon where
  DelayN:Int
  DelayD:Int
  Steps:Int
  Mirror:Bool
  Retro:Bool
  FactorN:Int
  FactorD:Int
  MensMax:Int
  MensMod:Int
  MensTem:Int
  MensPro:Int
instance:Inhabited Canon:=⟨⟨0,0,0,false,false,0,0,0,0,0,0⟩⟩
def KT:Nat->Type
  | 0=>UInt8
  | 1=>Int
  | 2=>ZB
  | 9=>Time
  | 11=>Event
  | 25=>Canon
  | _=>Unit
def zqm:(c:Nat)->KT c
  | 0=>(default:UInt8)
  | 1=>(default:Int)
  | 2=>(default:ZB)
  | 3=>()
  | 4=>()
  | 5=>()
  | 6=>()
  | 7=>()
  | 8=>()
  | 9=>(default:Time)
  | 10=>()
  | 11=>(default:Event)
  | 12=>()
  | 13=>()
  | 14=>()
  | 15=>()
  | 16=>()
  | 17=>()
  | 18=>()
  | 19=>()
  | 20=>()
  | 21=>()
  | 22=>()
  | 23=>()
  | 24=>()
  | 25=>(default:Canon)
  | _+26=>()
def qf0:(c:Nat)->KT c->List (PV KT)
  | 0,n=>[.int .u8 none ((UInt8.toNat n:Nat):Int)]
  | 1,x=>[.int .i64 none x]
  | 2,x=>[.str x]
  | 3,_=>[]
  | 4,_=>[]
  | 5,_=>[]
  | 6,_=>[]
  | 7,_=>[]
  | 8,_=>[]
  | 9,x=>[.int .i64 none (Time.N x),.int .i64 none (Time.D x)]
  | 10,_=>[]
  | 11,x=>[.int .i64 none (Event.AtN x),.int .i64 none (Event.AtD x),.int .i64 none (Event.DurN x),.int .i64 none (Event.DurD x),.int .i64 none (Event.PitchStep x),.int .i64 none (Event.PitchOctave x),.int .i64 none (Event.PitchAlter x),.sb 0 false (Event.Rest x) (Event.Rest x=true) (Event.Rest x=false),.int .i64 none (Event.Sign x),.int .i64 none (Event.Pass x)]
  | 12,_=>[]
  | 13,_=>[]
  | 14,_=>[]
  | 15,_=>[]
  | 16,_=>[]
  | 17,_=>[]
  | 18,_=>[]
  | 19,_=>[]
  | 20,_=>[]
  | 21,_=>[]
  | 22,_=>[]
  | 23,_=>[]
  | 24,_=>[]
  | 25,x=>[.int .i64 none (Canon.DelayN x),.int .i64 none (Canon.DelayD x),.int .i64 none (Canon.Steps x),.sb 0 false (Canon.Mirror x) (Canon.Mirror x=true) (Canon.Mirror x=false),.sb 0 false (Canon.Retro x) (Canon.Retro x=true) (Canon.Retro x=false),.int .i64 none (Canon.FactorN x),.int .i64 none (Canon.FactorD x),.int .i64 none (Canon.MensMax x),.int .i64 none (Canon.MensMod x),.int .i64 none (Canon.MensTem x),.int .i64 none (Canon.MensPro x)]
  | _+26,_=>[]
def zio (cs:List (PV KT)):Option (Prop×UInt8):=match cs with
  | [p]=>(qhm .u8 p).map fun n=>(0<=n/\n<=255,UInt8.ofNat (Int.toNat n))
  | _=>none
def zir (cs:List (PV KT)):Option (Prop×Int):=match cs with
  | [p0]=>(qhm .i64 p0).bind fun a0=>some (True,a0)
  | _=>none
def zit (cs:List (PV KT)):Option (Prop×ZB):=match cs with
  | [p0]=>(zo2 p0).bind fun a0=>some (True,a0)
  | _=>none
def ziv (cs:List (PV KT)):Option (Prop×Time):=match cs with
  | [p0,p1]=>(qhm .i64 p0).bind fun a0=>(qhm .i64 p1).bind fun a1=>some (True,Time.mk a0 a1)
  | _=>none
def q80 (cs:List (PV KT)):Option (Prop×Event):=match cs with
  | [p0,p1,p2,p3,p4,p5,p6,p7,p8,p9]=>(qhm .i64 p0).bind fun a0=>(qhm .i64 p1).bind fun a1=>(qhm .i64 p2).bind fun a2=>(qhm .i64 p3).bind fun a3=>(qhm .i64 p4).bind fun a4=>(qhm .i64 p5).bind fun a5=>(qhm .i64 p6).bind fun a6=>(zhe p7).bind fun a7=>(qhm .i64 p8).bind fun a8=>(qhm .i64 p9).bind fun a9=>some (True,Event.mk a0 a1 a2 a3 a4 a5 a6 a7 a8 a9)
  | _=>none
def q81 (cs:List (PV KT)):Option (Prop×Canon):=match cs with
  | [p0,p1,p2,p3,p4,p5,p6,p7,p8,p9,p10]=>(qhm .i64 p0).bind fun a0=>(qhm .i64 p1).bind fun a1=>(qhm .i64 p2).bind fun a2=>(zhe p3).bind fun a3=>(zhe p4).bind fun a4=>(qhm .i64 p5).bind fun a5=>(qhm .i64 p6).bind fun a6=>(qhm .i64 p7).bind fun a7=>(qhm .i64 p8).bind fun a8=>(qhm .i64 p9).bind fun a9=>(qhm .i64 p10).bind fun a10=>some (True,Canon.mk a0 a1 a2 a3 a4 a5 a6 a7 a8 a9 a10)
  | _=>none
def zra:(c:Nat)->List (PV KT)->Option (Prop×KT c)
  | 0,cs=>zio cs
  | 1,cs=>zir cs
  | 2,cs=>zit cs
  | 3,_=>none
  | 4,_=>none
  | 5,_=>none
  | 6,_=>none
  | 7,_=>none
  | 8,_=>none
  | 9,cs=>ziv cs
  | 10,_=>none
  | 11,cs=>q80 cs
  | 12,_=>none
  | 13,_=>none
  | 14,_=>none
  | 15,_=>none
  | 16,_=>none
  | 17,_=>none
  | 18,_=>none
  | 19,_=>none
  | 20,_=>none
  | 21,_=>none
  | 22,_=>none
  | 23,_=>none
  | 24,_=>none
  | 25,cs=>q81 cs
  | _+26,_=>none
def XK:Codecs KT:={dflt:=zqm,u8:=rfl,cells:=qf0,pack:=zra}
def szK:Nat->Nat
  | 0=>1
  | 1=>1
  | 2=>1
  | 9=>2
  | 11=>10
  | 25=>11
  | _=>0
theorem zsh:∀ c x,(XK.cells c x).length=szK c
  | 0,x=>rfl
  | 1,x=>rfl
  | 2,x=>rfl
  | 3,x=>rfl
  | 4,x=>rfl
  | 5,x=>rfl
  | 6,x=>rfl
  | 7,x=>rfl
  | 8,x=>rfl
  | 9,x=>rfl
  | 10,x=>rfl
  | 11,x=>rfl
  | 12,x=>rfl
  | 13,x=>rfl
  | 14,x=>rfl
  | 15,x=>rfl
  | 16,x=>rfl
  | 17,x=>rfl
  | 18,x=>rfl
  | 19,x=>rfl
  | 20,x=>rfl
  | 21,x=>rfl
  | 22,x=>rfl
  | 23,x=>rfl
  | 24,x=>rfl
  | 25,x=>rfl
  | _+26,x=>rfl
theorem zsj:∀ c x,(XK.cells c x).all jj=true
  | 0,x=>rfl
  | 1,x=>rfl
  | 2,x=>rfl
  | 3,x=>rfl
  | 4,x=>rfl
  | 5,x=>rfl
  | 6,x=>rfl
  | 7,x=>rfl
  | 8,x=>rfl
  | 9,x=>rfl
  | 10,x=>rfl
  | 11,x=>rfl
  | 12,x=>rfl
  | 13,x=>rfl
  | 14,x=>rfl
  | 15,x=>rfl
  | 16,x=>rfl
  | 17,x=>rfl
  | 18,x=>rfl
  | 19,x=>rfl
  | 20,x=>rfl
  | 21,x=>rfl
  | 22,x=>rfl
  | 23,x=>rfl
  | 24,x=>rfl
  | 25,x=>rfl
  | _+26,x=>rfl
theorem zp4:∀ c x p,p ∈ XK.cells c x->Plain p
  | 0,x,p,h=>qj (ps:=qf0 0 x) rfl p h
  | 1,x,p,h=>qj (ps:=qf0 1 x) rfl p h
  | 2,x,p,h=>qj (ps:=qf0 2 x) rfl p h
  | 3,x,p,h=>by cases h
  | 4,x,p,h=>by cases h
  | 5,x,p,h=>by cases h
  | 6,x,p,h=>by cases h
  | 7,x,p,h=>by cases h
  | 8,x,p,h=>by cases h
  | 9,x,p,h=>qj (ps:=qf0 9 x) rfl p h
  | 10,x,p,h=>by cases h
  | 11,x,p,h=>qj (ps:=qf0 11 x) rfl p h
  | 12,x,p,h=>by cases h
  | 13,x,p,h=>by cases h
  | 14,x,p,h=>by cases h
  | 15,x,p,h=>by cases h
  | 16,x,p,h=>by cases h
  | 17,x,p,h=>by cases h
  | 18,x,p,h=>by cases h
  | 19,x,p,h=>by cases h
  | 20,x,p,h=>by cases h
  | 21,x,p,h=>by cases h
  | 22,x,p,h=>by cases h
  | 23,x,p,h=>by cases h
  | 24,x,p,h=>by cases h
  | 25,x,p,h=>qj (ps:=qf0 25 x) rfl p h
  | _+26,x,p,h=>by cases h
theorem ziq (cs:List (PV KT)) (pre:Prop) (x:UInt8) (h:zio cs=some (pre,x)) (hp:pre) (w:Wd) (vs:List V) (r:qu XK szK w cs vs):qu XK szK w (qf0 0 x) vs:=by
  unfold zio at h
  split at h
  . obtain ⟨n,h0,h1⟩:=zM.1 h
    simp only [zP] at h1
    obtain ⟨rfl,rfl⟩:=h1
    refine kp (fun v hv=>?_) (fun us hr=>hr) r
    have:=ja h0 hv
    have e:((UInt8.toNat (UInt8.ofNat (Int.toNat n)):Nat):Int)=n:=by
      obtain ⟨h2,h3⟩:=hp
      have:(UInt8.ofNat (Int.toNat n)).toNat=Int.toNat n:=by
        rw [UInt8.toNat_ofNat']
        exact Nat.mod_eq_of_lt (by omega)
      rw [this]
      omega
    show Rep XK szK w (.int .u8 none ((UInt8.toNat (UInt8.ofNat (Int.toNat n)):Nat):Int)) v
    rw [e]
    exact this
  . cases h
theorem zis (cs:List (PV KT)) (pre:Prop) (x:Int) (h:zir cs=some (pre,x)) (hp:pre) (w:Wd) (vs:List V) (r:qu XK szK w cs vs):qu XK szK w (qf0 1 x) vs:=by
  unfold zir at h
  split at h
  . obtain ⟨a0,h0,h⟩:=zI.1 h
    cases h
    exact kp (fun v hv=>ja h0 hv) (fun us hr=>hr) r
  . cases h
theorem ziu (cs:List (PV KT)) (pre:Prop) (x:ZB) (h:zit cs=some (pre,x)) (hp:pre) (w:Wd) (vs:List V) (r:qu XK szK w cs vs):qu XK szK w (qf0 2 x) vs:=by
  unfold zit at h
  split at h
  . obtain ⟨a0,h0,h⟩:=zI.1 h
    cases h
    exact kp (fun v hv=>zhf h0 hv) (fun us hr=>hr) r
  . cases h
theorem ziw (cs:List (PV KT)) (pre:Prop) (x:Time) (h:ziv cs=some (pre,x)) (hp:pre) (w:Wd) (vs:List V) (r:qu XK szK w cs vs):qu XK szK w (qf0 9 x) vs:=by
  unfold ziv at h
  split at h
  . obtain ⟨a0,h0,h⟩:=zI.1 h
    obtain ⟨a1,h1,h⟩:=zI.1 h
    cases h
    exact kp (fun v hv=>ja h0 hv) (fun us hr=>kp (fun v hv=>ja h1 hv) (fun us hr=>hr) hr) r
  . cases h
theorem zeq (cs:List (PV KT)) (pre:Prop) (x:Event) (h:q80 cs=some (pre,x)) (hp:pre) (w:Wd) (vs:List V) (r:qu XK szK w cs vs):qu XK szK w (qf0 11 x) vs:=by
  unfold q80 at h
  split at h
  . obtain ⟨a0,h0,h⟩:=zI.1 h
    obtain ⟨a1,h1,h⟩:=zI.1 h
    obtain ⟨a2,h2,h⟩:=zI.1 h
    obtain ⟨a3,h3,h⟩:=zI.1 h
    obtain ⟨a4,h4,h⟩:=zI.1 h
    obtain ⟨a5,h5,h⟩:=zI.1 h
    obtain ⟨a6,h6,h⟩:=zI.1 h
    obtain ⟨a7,h7,h⟩:=zI.1 h
    obtain ⟨a8,h8,h⟩:=zI.1 h
    obtain ⟨a9,h9,h⟩:=zI.1 h
    cases h
    exact kp (fun v hv=>ja h0 hv) (fun us hr=>kp (fun v hv=>ja h1 hv) (fun us hr=>kp (fun v hv=>ja h2 hv) (fun us hr=>kp (fun v hv=>ja h3 hv) (fun us hr=>kp (fun v hv=>ja h4 hv) (fun us hr=>kp (fun v hv=>ja h5 hv) (fun us hr=>kp (fun v hv=>ja h6 hv) (fun us hr=>kp (fun v hv=>qvr h7 hv) (fun us hr=>kp (fun v hv=>ja h8 hv) (fun us hr=>kp (fun v hv=>ja h9 hv) (fun us hr=>hr) hr) hr) hr) hr) hr) hr) hr) hr) hr) r
  . cases h
theorem zer (cs:List (PV KT)) (pre:Prop) (x:Canon) (h:q81 cs=some (pre,x)) (hp:pre) (w:Wd) (vs:List V) (r:qu XK szK w cs vs):qu XK szK w (qf0 25 x) vs:=by
  unfold q81 at h
  split at h
  . obtain ⟨a0,h0,h⟩:=zI.1 h
    obtain ⟨a1,h1,h⟩:=zI.1 h
    obtain ⟨a2,h2,h⟩:=zI.1 h
    obtain ⟨a3,h3,h⟩:=zI.1 h
    obtain ⟨a4,h4,h⟩:=zI.1 h
    obtain ⟨a5,h5,h⟩:=zI.1 h
    obtain ⟨a6,h6,h⟩:=zI.1 h
    obtain ⟨a7,h7,h⟩:=zI.1 h
    obtain ⟨a8,h8,h⟩:=zI.1 h
    obtain ⟨a9,h9,h⟩:=zI.1 h
    obtain ⟨a10,h10,h⟩:=zI.1 h
    cases h
    exact kp (fun v hv=>ja h0 hv) (fun us hr=>kp (fun v hv=>ja h1 hv) (fun us hr=>kp (fun v hv=>ja h2 hv) (fun us hr=>kp (fun v hv=>qvr h3 hv) (fun us hr=>kp (fun v hv=>qvr h4 hv) (fun us hr=>kp (fun v hv=>ja h5 hv) (fun us hr=>kp (fun v hv=>ja h6 hv) (fun us hr=>kp (fun v hv=>ja h7 hv) (fun us hr=>kp (fun v hv=>ja h8 hv) (fun us hr=>kp (fun v hv=>ja h9 hv) (fun us hr=>kp (fun v hv=>ja h10 hv) (fun us hr=>hr) hr) hr) hr) hr) hr) hr) hr) hr) hr) hr) r
  . cases h
theorem zp3:∀ c cs pre x,XK.pack c cs=some (pre,x)->pre->∀ w vs,qu XK szK w cs vs->qu XK szK w (XK.cells c x) vs
  | 0,cs,pre,x,h,hp,w,vs,r=>ziq cs pre x h hp w vs r
  | 1,cs,pre,x,h,hp,w,vs,r=>zis cs pre x h hp w vs r
  | 2,cs,pre,x,h,hp,w,vs,r=>ziu cs pre x h hp w vs r
  | 3,cs,pre,x,h,hp,w,vs,r=>by cases h
  | 4,cs,pre,x,h,hp,w,vs,r=>by cases h
  | 5,cs,pre,x,h,hp,w,vs,r=>by cases h
  | 6,cs,pre,x,h,hp,w,vs,r=>by cases h
  | 7,cs,pre,x,h,hp,w,vs,r=>by cases h
  | 8,cs,pre,x,h,hp,w,vs,r=>by cases h
  | 9,cs,pre,x,h,hp,w,vs,r=>ziw cs pre x h hp w vs r
  | 10,cs,pre,x,h,hp,w,vs,r=>by cases h
  | 11,cs,pre,x,h,hp,w,vs,r=>zeq cs pre x h hp w vs r
  | 12,cs,pre,x,h,hp,w,vs,r=>by cases h
  | 13,cs,pre,x,h,hp,w,vs,r=>by cases h
  | 14,cs,pre,x,h,hp,w,vs,r=>by cases h
  | 15,cs,pre,x,h,hp,w,vs,r=>by cases h
  | 16,cs,pre,x,h,hp,w,vs,r=>by cases h
  | 17,cs,pre,x,h,hp,w,vs,r=>by cases h
  | 18,cs,pre,x,h,hp,w,vs,r=>by cases h
  | 19,cs,pre,x,h,hp,w,vs,r=>by cases h
  | 20,cs,pre,x,h,hp,w,vs,r=>by cases h
  | 21,cs,pre,x,h,hp,w,vs,r=>by cases h
  | 22,cs,pre,x,h,hp,w,vs,r=>by cases h
  | 23,cs,pre,x,h,hp,w,vs,r=>by cases h
  | 24,cs,pre,x,h,hp,w,vs,r=>by cases h
  | 25,cs,pre,x,h,hp,w,vs,r=>zer cs pre x h hp w vs r
  | _+26,cs,pre,x,h,hp,w,vs,r=>by cases h
end Go.Proofs.YtcnoipglgpkpeaaGreatDoor
