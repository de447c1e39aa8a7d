import Derived.Test.YtbopmiclcimjgaaGreatDoorM6
namespace Go.Proofs.YtbopmiclcimjgaaGreatDoor
open Go Go.E2 Go.E3
set_option maxRecDepth 100000
structure Sign where
  Kind:Int
  Value:Int
  Place:Int
  Acc:Int
  Color:Bool
  Stem:Int
  Oblique:Bool
  Last:Bool
  MensMax:Int
  MensMod:Int
  MensTem:Int
  MensPro:Int
  Stroke:Bool
  N:Int
  D:Int
  ClefStep:Int
  ClefLine:Int
instance:Inhabited Sign:=⟨⟨0,0,0,0,false,0,false,false,0,0,0,0,false,0,0,0,0⟩⟩
structure Word where
  At:Int
  Text:ZB
  Quoted:Bool
instance:Inhabited Word:=⟨⟨0,[],false⟩⟩
structure Row where
  At:Int
  Words:List Word
instance:Inhabited Row:=⟨⟨0,[]⟩⟩
structure MapSM where
  key:ZB
  vMax:Int
  vMod:Int
  vTem:Int
  vPro:Int
instance:Inhabited MapSM:=⟨⟨[],0,0,0,0⟩⟩
structure MapIS where
  key:Int
  v:ZB
instance:Inhabited MapIS:=⟨⟨0,[]⟩⟩
def KT:Nat->Type
  | 0=>UInt8
  | 1=>Int
  | 2=>ZB
  | 4=>Sign
  | 5=>Word
  | 6=>Row
  | 23=>MapSM
  | 24=>MapIS
  | _=>Unit
def zup:(c:Nat)->KT c
  | 0=>(default:UInt8)
  | 1=>(default:Int)
  | 2=>(default:ZB)
  | 3=>()
  | 4=>(default:Sign)
  | 5=>(default:Word)
  | 6=>(default:Row)
  | 7=>()
  | 8=>()
  | 9=>()
  | 10=>()
  | 11=>()
  | 12=>()
  | 13=>()
  | 14=>()
  | 15=>()
  | 16=>()
  | 17=>()
  | 18=>()
  | 19=>()
  | 20=>()
  | 21=>()
  | 22=>()
  | 23=>(default:MapSM)
  | 24=>(default:MapIS)
  | _+25=>()
def qd7:(c:Nat)->KT c->List (PV KT)
  | 0,n=>[.int .u8 none ((UInt8.toNat n:Nat):Int)]
  | 1,x=>[.int .i64 none x]
  | 2,x=>[.str x]
  | 3,_=>[]
  | 4,x=>[.int .i64 none (Sign.Kind x),.int .i64 none (Sign.Value x),.int .i64 none (Sign.Place x),.int .i64 none (Sign.Acc x),.sb 0 false (Sign.Color x) (Sign.Color x=true) (Sign.Color x=false),.int .i64 none (Sign.Stem x),.sb 0 false (Sign.Oblique x) (Sign.Oblique x=true) (Sign.Oblique x=false),.sb 0 false (Sign.Last x) (Sign.Last x=true) (Sign.Last x=false),.int .i64 none (Sign.MensMax x),.int .i64 none (Sign.MensMod x),.int .i64 none (Sign.MensTem x),.int .i64 none (Sign.MensPro x),.sb 0 false (Sign.Stroke x) (Sign.Stroke x=true) (Sign.Stroke x=false),.int .i64 none (Sign.N x),.int .i64 none (Sign.D x),.int .i64 none (Sign.ClefStep x),.int .i64 none (Sign.ClefLine x)]
  | 5,x=>[.int .i64 none (Word.At x),.str (Word.Text x),.sb 0 false (Word.Quoted x) (Word.Quoted x=true) (Word.Quoted x=false)]
  | 6,x=>[.int .i64 none (Row.At x),.list 5 (Row.Words x) none]
  | 7,_=>[]
  | 8,_=>[]
  | 9,_=>[]
  | 10,_=>[]
  | 11,_=>[]
  | 12,_=>[]
  | 13,_=>[]
  | 14,_=>[]
  | 15,_=>[]
  | 16,_=>[]
  | 17,_=>[]
  | 18,_=>[]
  | 19,_=>[]
  | 20,_=>[]
  | 21,_=>[]
  | 22,_=>[]
  | 23,x=>[.str (MapSM.key x),.int .i64 none (MapSM.vMax x),.int .i64 none (MapSM.vMod x),.int .i64 none (MapSM.vTem x),.int .i64 none (MapSM.vPro x)]
  | 24,x=>[.int .i64 none (MapIS.key x),.str (MapIS.v x)]
  | _+25,_=>[]
def zll (cs:List (PV KT)):Option (Prop×UInt8):=match cs with
  | [p]=>(qig .u8 p).map fun n=>(0<=n/\n<=255,UInt8.ofNat (Int.toNat n))
  | _=>none
def zln (cs:List (PV KT)):Option (Prop×Int):=match cs with
  | [p0]=>(qig .i64 p0).bind fun a0=>some (True,a0)
  | _=>none
def zlp (cs:List (PV KT)):Option (Prop×ZB):=match cs with
  | [p0]=>(zfr p0).bind fun a0=>some (True,a0)
  | _=>none
def zlr (cs:List (PV KT)):Option (Prop×Sign):=match cs with
  | [p0,p1,p2,p3,p4,p5,p6,p7,p8,p9,p10,p11,p12,p13,p14,p15,p16]=>(qig .i64 p0).bind fun a0=>(qig .i64 p1).bind fun a1=>(qig .i64 p2).bind fun a2=>(qig .i64 p3).bind fun a3=>(q9u p4).bind fun a4=>(qig .i64 p5).bind fun a5=>(q9u p6).bind fun a6=>(q9u p7).bind fun a7=>(qig .i64 p8).bind fun a8=>(qig .i64 p9).bind fun a9=>(qig .i64 p10).bind fun a10=>(qig .i64 p11).bind fun a11=>(q9u p12).bind fun a12=>(qig .i64 p13).bind fun a13=>(qig .i64 p14).bind fun a14=>(qig .i64 p15).bind fun a15=>(qig .i64 p16).bind fun a16=>some (True,Sign.mk a0 a1 a2 a3 a4 a5 a6 a7 a8 a9 a10 a11 a12 a13 a14 a15 a16)
  | _=>none
def zlt (cs:List (PV KT)):Option (Prop×Word):=match cs with
  | [p0,p1,p2]=>(qig .i64 p0).bind fun a0=>(zfr p1).bind fun a1=>(q9u p2).bind fun a2=>some (True,Word.mk a0 a1 a2)
  | _=>none
def zlv (cs:List (PV KT)):Option (Prop×Row):=match cs with
  | [p0,p1]=>(qig .i64 p0).bind fun a0=>(zsb (K:=KT) 5 p1).bind fun a1=>some (True,Row.mk a0 a1)
  | _=>none
def zai (cs:List (PV KT)):Option (Prop×MapSM):=match cs with
  | [p0,p1,p2,p3,p4]=>(zfr p0).bind fun a0=>(qig .i64 p1).bind fun a1=>(qig .i64 p2).bind fun a2=>(qig .i64 p3).bind fun a3=>(qig .i64 p4).bind fun a4=>some (True,MapSM.mk a0 a1 a2 a3 a4)
  | _=>none
def zaj (cs:List (PV KT)):Option (Prop×MapIS):=match cs with
  | [p0,p1]=>(qig .i64 p0).bind fun a0=>(zfr p1).bind fun a1=>some (True,MapIS.mk a0 a1)
  | _=>none
def zvy:(c:Nat)->List (PV KT)->Option (Prop×KT c)
  | 0,cs=>zll cs
  | 1,cs=>zln cs
  | 2,cs=>zlp cs
  | 3,_=>none
  | 4,cs=>zlr cs
  | 5,cs=>zlt cs
  | 6,cs=>zlv cs
  | 7,_=>none
  | 8,_=>none
  | 9,_=>none
  | 10,_=>none
  | 11,_=>none
  | 12,_=>none
  | 13,_=>none
  | 14,_=>none
  | 15,_=>none
  | 16,_=>none
  | 17,_=>none
  | 18,_=>none
  | 19,_=>none
  | 20,_=>none
  | 21,_=>none
  | 22,_=>none
  | 23,cs=>zai cs
  | 24,cs=>zaj cs
  | _+25,_=>none
def XK:Codecs KT:={dflt:=zup,u8:=rfl,cells:=qd7,pack:=zvy}
def qkx (l:List MapSM) (y:MapSM):MapSM:=qzy XK 23 1 l y
def qx8 (l:List MapSM) (y:MapSM):Bool:=qpx XK 23 1 l y
def j6 (l:List MapSM) (y:MapSM):List MapSM:=qyu XK 23 1 l y
def qgi (l:List MapIS) (y:MapIS):MapIS:=qzy XK 24 1 l y
def zw9 (l:List MapIS) (y:MapIS):Bool:=qpx XK 24 1 l y
def qhf (l:List MapIS) (y:MapIS):List MapIS:=qyu XK 24 1 l y
def szK:Nat->Nat
  | 0=>1
  | 1=>1
  | 2=>1
  | 4=>17
  | 5=>3
  | 6=>2
  | 23=>5
  | 24=>2
  | _=>0
theorem zxa:∀ c x,(XK.cells c x).length=szK c
  | 0,x=>rfl
  | 1,x=>rfl
  | 2,x=>rfl
  | 3,x=>rfl
  | 4,x=>rfl
  | 5,x=>rfl
  | 6,x=>rfl
  | 7,x=>rfl
  | 8,x=>rfl
  | 9,x=>rfl
  | 10,x=>rfl
  | 11,x=>rfl
  | 12,x=>rfl
  | 13,x=>rfl
  | 14,x=>rfl
  | 15,x=>rfl
  | 16,x=>rfl
  | 17,x=>rfl
  | 18,x=>rfl
  | 19,x=>rfl
  | 20,x=>rfl
  | 21,x=>rfl
  | 22,x=>rfl
  | 23,x=>rfl
  | 24,x=>rfl
  | _+25,x=>rfl
theorem zxl:∀ c x,(XK.cells c x).all qav=true
  | 0,x=>rfl
  | 1,x=>rfl
  | 2,x=>rfl
  | 3,x=>rfl
  | 4,x=>rfl
  | 5,x=>rfl
  | 6,x=>rfl
  | 7,x=>rfl
  | 8,x=>rfl
  | 9,x=>rfl
  | 10,x=>rfl
  | 11,x=>rfl
  | 12,x=>rfl
  | 13,x=>rfl
  | 14,x=>rfl
  | 15,x=>rfl
  | 16,x=>rfl
  | 17,x=>rfl
  | 18,x=>rfl
  | 19,x=>rfl
  | 20,x=>rfl
  | 21,x=>rfl
  | 22,x=>rfl
  | 23,x=>rfl
  | 24,x=>rfl
  | _+25,x=>rfl
theorem ztm:∀ c x p,p ∈ XK.cells c x->Plain p
  | 0,x,p,h=>zh (ps:=qd7 0 x) rfl p h
  | 1,x,p,h=>zh (ps:=qd7 1 x) rfl p h
  | 2,x,p,h=>zh (ps:=qd7 2 x) rfl p h
  | 3,x,p,h=>by cases h
  | 4,x,p,h=>zh (ps:=qd7 4 x) rfl p h
  | 5,x,p,h=>zh (ps:=qd7 5 x) rfl p h
  | 6,x,p,h=>zh (ps:=qd7 6 x) rfl p h
  | 7,x,p,h=>by cases h
  | 8,x,p,h=>by cases h
  | 9,x,p,h=>by cases h
  | 10,x,p,h=>by cases h
  | 11,x,p,h=>by cases h
  | 12,x,p,h=>by cases h
  | 13,x,p,h=>by cases h
  | 14,x,p,h=>by cases h
  | 15,x,p,h=>by cases h
  | 16,x,p,h=>by cases h
  | 17,x,p,h=>by cases h
  | 18,x,p,h=>by cases h
  | 19,x,p,h=>by cases h
  | 20,x,p,h=>by cases h
  | 21,x,p,h=>by cases h
  | 22,x,p,h=>by cases h
  | 23,x,p,h=>zh (ps:=qd7 23 x) rfl p h
  | 24,x,p,h=>zh (ps:=qd7 24 x) rfl p h
  | _+25,x,p,h=>by cases h
theorem zlm (cs:List (PV KT)) (pre:Prop) (x:UInt8) (h:zll cs=some (pre,x)) (hp:pre) (w:Wd) (vs:List V) (r:qp XK szK w cs vs):qp XK szK w (qd7 0 x) vs:=by
  unfold zll at h
  split at h
  . obtain ⟨n,h0,h1⟩:=zM.1 h
    simp only [zP] at h1
    obtain ⟨rfl,rfl⟩:=h1
    refine zz (fun v hv=>?_) (fun us hr=>hr) r
    have:=jt h0 hv
    have e:((UInt8.toNat (UInt8.ofNat (Int.toNat n)):Nat):Int)=n:=by
      obtain ⟨h2,h3⟩:=hp
      have:(UInt8.ofNat (Int.toNat n)).toNat=Int.toNat n:=by
        rw [UInt8.toNat_ofNat']
        exact Nat.mod_eq_of_lt (by omega)
      rw [this]
      omega
    show Rep XK szK w (.int .u8 none ((UInt8.toNat (UInt8.ofNat (Int.toNat n)):Nat):Int)) v
    rw [e]
    exact this
  . cases h
theorem zlo (cs:List (PV KT)) (pre:Prop) (x:Int) (h:zln cs=some (pre,x)) (hp:pre) (w:Wd) (vs:List V) (r:qp XK szK w cs vs):qp XK szK w (qd7 1 x) vs:=by
  unfold zln at h
  split at h
  . obtain ⟨a0,h0,h⟩:=zI.1 h
    cases h
    exact zz (fun v hv=>jt h0 hv) (fun us hr=>hr) r
  . cases h
theorem zlq (cs:List (PV KT)) (pre:Prop) (x:ZB) (h:zlp cs=some (pre,x)) (hp:pre) (w:Wd) (vs:List V) (r:qp XK szK w cs vs):qp XK szK w (qd7 2 x) vs:=by
  unfold zlp at h
  split at h
  . obtain ⟨a0,h0,h⟩:=zI.1 h
    cases h
    exact zz (fun v hv=>qrc h0 hv) (fun us hr=>hr) r
  . cases h
theorem zls (cs:List (PV KT)) (pre:Prop) (x:Sign) (h:zlr cs=some (pre,x)) (hp:pre) (w:Wd) (vs:List V) (r:qp XK szK w cs vs):qp XK szK w (qd7 4 x) vs:=by
  unfold zlr at h
  split at h
  . obtain ⟨a0,h0,h⟩:=zI.1 h
    obtain ⟨a1,h1,h⟩:=zI.1 h
    obtain ⟨a2,h2,h⟩:=zI.1 h
    obtain ⟨a3,h3,h⟩:=zI.1 h
    obtain ⟨a4,h4,h⟩:=zI.1 h
    obtain ⟨a5,h5,h⟩:=zI.1 h
    obtain ⟨a6,h6,h⟩:=zI.1 h
    obtain ⟨a7,h7,h⟩:=zI.1 h
    obtain ⟨a8,h8,h⟩:=zI.1 h
    obtain ⟨a9,h9,h⟩:=zI.1 h
    obtain ⟨a10,h10,h⟩:=zI.1 h
    obtain ⟨a11,h11,h⟩:=zI.1 h
    obtain ⟨a12,h12,h⟩:=zI.1 h
    obtain ⟨a13,h13,h⟩:=zI.1 h
    obtain ⟨a14,h14,h⟩:=zI.1 h
    obtain ⟨a15,h15,h⟩:=zI.1 h
    obtain ⟨a16,h16,h⟩:=zI.1 h
    cases h
    exact zz (fun v hv=>jt h0 hv) (fun us hr=>zz (fun v hv=>jt h1 hv) (fun us hr=>zz (fun v hv=>jt h2 hv) (fun us hr=>zz (fun v hv=>jt h3 hv) (fun us hr=>zz (fun v hv=>qng h4 hv) (fun us hr=>zz (fun v hv=>jt h5 hv) (fun us hr=>zz (fun v hv=>qng h6 hv) (fun us hr=>zz (fun v hv=>qng h7 hv) (fun us hr=>zz (fun v hv=>jt h8 hv) (fun us hr=>zz (fun v hv=>jt h9 hv) (fun us hr=>zz (fun v hv=>jt h10 hv) (fun us hr=>zz (fun v hv=>jt h11 hv) (fun us hr=>zz (fun v hv=>qng h12 hv) (fun us hr=>zz (fun v hv=>jt h13 hv) (fun us hr=>zz (fun v hv=>jt h14 hv) (fun us hr=>zz (fun v hv=>jt h15 hv) (fun us hr=>zz (fun v hv=>jt h16 hv) (fun us hr=>hr) hr) hr) hr) hr) hr) hr) hr) hr) hr) hr) hr) hr) hr) hr) hr) hr) r
  . cases h
theorem zlu (cs:List (PV KT)) (pre:Prop) (x:Word) (h:zlt cs=some (pre,x)) (hp:pre) (w:Wd) (vs:List V) (r:qp XK szK w cs vs):qp XK szK w (qd7 5 x) vs:=by
  unfold zlt at h
  split at h
  . obtain ⟨a0,h0,h⟩:=zI.1 h
    obtain ⟨a1,h1,h⟩:=zI.1 h
    obtain ⟨a2,h2,h⟩:=zI.1 h
    cases h
    exact zz (fun v hv=>jt h0 hv) (fun us hr=>zz (fun v hv=>qrc h1 hv) (fun us hr=>zz (fun v hv=>qng h2 hv) (fun us hr=>hr) hr) hr) r
  . cases h
theorem zlw (cs:List (PV KT)) (pre:Prop) (x:Row) (h:zlv cs=some (pre,x)) (hp:pre) (w:Wd) (vs:List V) (r:qp XK szK w cs vs):qp XK szK w (qd7 6 x) vs:=by
  unfold zlv at h
  split at h
  . obtain ⟨a0,h0,h⟩:=zI.1 h
    obtain ⟨a1,h1,h⟩:=zI.1 h
    cases h
    exact zz (fun v hv=>jt h0 hv) (fun us hr=>zz (fun v hv=>zfq h1 hv) (fun us hr=>hr) hr) r
  . cases h
theorem zgl (cs:List (PV KT)) (pre:Prop) (x:MapSM) (h:zai cs=some (pre,x)) (hp:pre) (w:Wd) (vs:List V) (r:qp XK szK w cs vs):qp XK szK w (qd7 23 x) vs:=by
  unfold zai at h
  split at h
  . obtain ⟨a0,h0,h⟩:=zI.1 h
    obtain ⟨a1,h1,h⟩:=zI.1 h
    obtain ⟨a2,h2,h⟩:=zI.1 h
    obtain ⟨a3,h3,h⟩:=zI.1 h
    obtain ⟨a4,h4,h⟩:=zI.1 h
    cases h
    exact zz (fun v hv=>qrc h0 hv) (fun us hr=>zz (fun v hv=>jt h1 hv) (fun us hr=>zz (fun v hv=>jt h2 hv) (fun us hr=>zz (fun v hv=>jt h3 hv) (fun us hr=>zz (fun v hv=>jt h4 hv) (fun us hr=>hr) hr) hr) hr) hr) r
  . cases h
theorem zgm (cs:List (PV KT)) (pre:Prop) (x:MapIS) (h:zaj cs=some (pre,x)) (hp:pre) (w:Wd) (vs:List V) (r:qp XK szK w cs vs):qp XK szK w (qd7 24 x) vs:=by
  unfold zaj at h
  split at h
  . obtain ⟨a0,h0,h⟩:=zI.1 h
    obtain ⟨a1,h1,h⟩:=zI.1 h
    cases h
    exact zz (fun v hv=>jt h0 hv) (fun us hr=>zz (fun v hv=>qrc h1 hv) (fun us hr=>hr) hr) r
  . cases h
theorem ztk:∀ c cs pre x,XK.pack c cs=some (pre,x)->pre->∀ w vs,qp XK szK w cs vs->qp XK szK w (XK.cells c x) vs
  | 0,cs,pre,x,h,hp,w,vs,r=>zlm cs pre x h hp w vs r
  | 1,cs,pre,x,h,hp,w,vs,r=>zlo cs pre x h hp w vs r
  | 2,cs,pre,x,h,hp,w,vs,r=>zlq cs pre x h hp w vs r
  | 3,cs,pre,x,h,hp,w,vs,r=>by cases h
  | 4,cs,pre,x,h,hp,w,vs,r=>zls cs pre x h hp w vs r
  | 5,cs,pre,x,h,hp,w,vs,r=>zlu cs pre x h hp w vs r
  | 6,cs,pre,x,h,hp,w,vs,r=>zlw cs pre x h hp w vs r
  | 7,cs,pre,x,h,hp,w,vs,r=>by cases h
  | 8,cs,pre,x,h,hp,w,vs,r=>by cases h
  | 9,cs,pre,x,h,hp,w,vs,r=>by cases h
  | 10,cs,pre,x,h,hp,w,vs,r=>by cases h
  | 11,cs,pre,x,h,hp,w,vs,r=>by cases h
  | 12,cs,pre,x,h,hp,w,vs,r=>by cases h
  | 13,cs,pre,x,h,hp,w,vs,r=>by cases h
  | 14,cs,pre,x,h,hp,w,vs,r=>by cases h
  | 15,cs,pre,x,h,hp,w,vs,r=>by cases h
  | 16,cs,pre,x,h,hp,w,vs,r=>by cases h
  | 17,cs,pre,x,h,hp,w,vs,r=>by cases h
  | 18,cs,pre,x,h,hp,w,vs,r=>by cases h
  | 19,cs,pre,x,h,hp,w,vs,r=>by cases h
  | 20,cs,pre,x,h,hp,w,vs,r=>by cases h
  | 21,cs,pre,x,h,hp,w,vs,r=>by cases h
  | 22,cs,pre,x,h,hp,w,vs,r=>by cases h
  | 23,cs,pre,x,h,hp,w,vs,r=>zgl cs pre x h hp w vs r
  | 24,cs,pre,x,h,hp,w,vs,r=>zgm cs pre x h hp w vs r
  | _+25,cs,pre,x,h,hp,w,vs,r=>by cases h
end Go.Proofs.YtbopmiclcimjgaaGreatDoor
