/- THE TYPES of lists' elements, as Lean's own; their cells. Made by program (vc.py). -/
import Derived.Test.YtlkfjinaiepocaaDoorM6
namespace Go.Proofs.YtlkfjinaiepocaaDoor
open Go Go.E2 Go.E3
set_option maxRecDepth 100000
structure Sign where
  Kind:Int
  Value:Int
  Place:Int
  Acc:Int
  Color:Bool
  Stem:Int
  Oblique:Bool
  Last:Bool
  MensMax:Int
  MensMod:Int
  MensTem:Int
  MensPro:Int
  Stroke:Bool
  N:Int
  D:Int
  ClefStep:Int
  ClefLine:Int
instance:Inhabited Sign:=⟨⟨0,0,0,0,false,0,false,false,0,0,0,0,false,0,0,0,0⟩⟩
structure Staff where
  Signs:List Sign
  Lead:Int
  Catch:Bool
  Custos:Int
instance:Inhabited Staff:=⟨⟨[],0,false,0⟩⟩
structure Page where
  Staves:List Staff
instance:Inhabited Page:=⟨⟨[]⟩⟩
structure Group where
  fro:Int
  to:Int
instance:Inhabited Group:=⟨⟨0,0⟩⟩
def KT:Nat->Type
  | 0=>UInt8
  | 1=>Int
  | 3=>Bool
  | 4=>Sign
  | 7=>Staff
  | 8=>Page
  | 10=>Group
  | _=>Unit
def zkd:(c:Nat)->KT c
  | 0=>(default:UInt8)
  | 1=>(default:Int)
  | 2=>()
  | 3=>(default:Bool)
  | 4=>(default:Sign)
  | 5=>()
  | 6=>()
  | 7=>(default:Staff)
  | 8=>(default:Page)
  | 9=>()
  | 10=>(default:Group)
  | _+11=>()
def qeo:(c:Nat)->KT c->List (PV KT)
  | 0,n=>[.int .u8 none ((UInt8.toNat n:Nat):Int)]
  | 1,x=>[.int .i64 none x]
  | 2,_=>[]
  | 3,x=>[.sb 0 false x (x=true) (x=false)]
  | 4,x=>[.int .i64 none (Sign.Kind x),.int .i64 none (Sign.Value x),.int .i64 none (Sign.Place x),.int .i64 none (Sign.Acc x),.sb 0 false (Sign.Color x) (Sign.Color x=true) (Sign.Color x=false),.int .i64 none (Sign.Stem x),.sb 0 false (Sign.Oblique x) (Sign.Oblique x=true) (Sign.Oblique x=false),.sb 0 false (Sign.Last x) (Sign.Last x=true) (Sign.Last x=false),.int .i64 none (Sign.MensMax x),.int .i64 none (Sign.MensMod x),.int .i64 none (Sign.MensTem x),.int .i64 none (Sign.MensPro x),.sb 0 false (Sign.Stroke x) (Sign.Stroke x=true) (Sign.Stroke x=false),.int .i64 none (Sign.N x),.int .i64 none (Sign.D x),.int .i64 none (Sign.ClefStep x),.int .i64 none (Sign.ClefLine x)]
  | 5,_=>[]
  | 6,_=>[]
  | 7,x=>[.list 4 (Staff.Signs x) none,.int .i64 none (Staff.Lead x),.sb 0 false (Staff.Catch x) (Staff.Catch x=true) (Staff.Catch x=false),.int .i64 none (Staff.Custos x)]
  | 8,x=>[.list 7 (Page.Staves x) none]
  | 9,_=>[]
  | 10,x=>[.int .i64 none (Group.fro x),.int .i64 none (Group.to x)]
  | _+11,_=>[]
def zdd (cs:List (PV KT)):Option (Prop×UInt8):=match cs with
  | [p]=>(qjw .u8 p).map fun n=>(0<=n/\n<=255,UInt8.ofNat (Int.toNat n))
  | _=>none
def zdf (cs:List (PV KT)):Option (Prop×Int):=match cs with
  | [p0]=>(qjw .i64 p0).bind fun a0=>some (True,a0)
  | _=>none
def zdh (cs:List (PV KT)):Option (Prop×Bool):=match cs with
  | [p0]=>(q2r p0).bind fun a0=>some (True,a0)
  | _=>none
def zdj (cs:List (PV KT)):Option (Prop×Sign):=match cs with
  | [p0,p1,p2,p3,p4,p5,p6,p7,p8,p9,p10,p11,p12,p13,p14,p15,p16]=>(qjw .i64 p0).bind fun a0=>(qjw .i64 p1).bind fun a1=>(qjw .i64 p2).bind fun a2=>(qjw .i64 p3).bind fun a3=>(q2r p4).bind fun a4=>(qjw .i64 p5).bind fun a5=>(q2r p6).bind fun a6=>(q2r p7).bind fun a7=>(qjw .i64 p8).bind fun a8=>(qjw .i64 p9).bind fun a9=>(qjw .i64 p10).bind fun a10=>(qjw .i64 p11).bind fun a11=>(q2r p12).bind fun a12=>(qjw .i64 p13).bind fun a13=>(qjw .i64 p14).bind fun a14=>(qjw .i64 p15).bind fun a15=>(qjw .i64 p16).bind fun a16=>some (True,Sign.mk a0 a1 a2 a3 a4 a5 a6 a7 a8 a9 a10 a11 a12 a13 a14 a15 a16)
  | _=>none
def zdl (cs:List (PV KT)):Option (Prop×Staff):=match cs with
  | [p0,p1,p2,p3]=>(zge (K:=KT) 4 p0).bind fun a0=>(qjw .i64 p1).bind fun a1=>(q2r p2).bind fun a2=>(qjw .i64 p3).bind fun a3=>some (True,Staff.mk a0 a1 a2 a3)
  | _=>none
def zdn (cs:List (PV KT)):Option (Prop×Page):=match cs with
  | [p0]=>(zge (K:=KT) 7 p0).bind fun a0=>some (True,Page.mk a0)
  | _=>none
def q5t (cs:List (PV KT)):Option (Prop×Group):=match cs with
  | [p0,p1]=>(qjw .i64 p0).bind fun a0=>(qjw .i64 p1).bind fun a1=>some (True,Group.mk a0 a1)
  | _=>none
def zks:(c:Nat)->List (PV KT)->Option (Prop×KT c)
  | 0,cs=>zdd cs
  | 1,cs=>zdf cs
  | 2,_=>none
  | 3,cs=>zdh cs
  | 4,cs=>zdj cs
  | 5,_=>none
  | 6,_=>none
  | 7,cs=>zdl cs
  | 8,cs=>zdn cs
  | 9,_=>none
  | 10,cs=>q5t cs
  | _+11,_=>none
def XK:Codecs KT:={dflt:=zkd,u8:=rfl,cells:=qeo,pack:=zks}
def szK:Nat->Nat
  | 0=>1
  | 1=>1
  | 3=>1
  | 4=>17
  | 7=>4
  | 8=>1
  | 10=>2
  | _=>0
theorem zli:∀ c x,(XK.cells c x).length=szK c
  | 0,x=>rfl
  | 1,x=>rfl
  | 2,x=>rfl
  | 3,x=>rfl
  | 4,x=>rfl
  | 5,x=>rfl
  | 6,x=>rfl
  | 7,x=>rfl
  | 8,x=>rfl
  | 9,x=>rfl
  | 10,x=>rfl
  | _+11,x=>rfl
theorem zlk:∀ c x,(XK.cells c x).all qan=true
  | 0,x=>rfl
  | 1,x=>rfl
  | 2,x=>rfl
  | 3,x=>rfl
  | 4,x=>rfl
  | 5,x=>rfl
  | 6,x=>rfl
  | 7,x=>rfl
  | 8,x=>rfl
  | 9,x=>rfl
  | 10,x=>rfl
  | _+11,x=>rfl
theorem zju:∀ c x p,p ∈ XK.cells c x->Plain p
  | 0,x,p,h=>qo (ps:=qeo 0 x) rfl p h
  | 1,x,p,h=>qo (ps:=qeo 1 x) rfl p h
  | 2,x,p,h=>by cases h
  | 3,x,p,h=>qo (ps:=qeo 3 x) rfl p h
  | 4,x,p,h=>qo (ps:=qeo 4 x) rfl p h
  | 5,x,p,h=>by cases h
  | 6,x,p,h=>by cases h
  | 7,x,p,h=>qo (ps:=qeo 7 x) rfl p h
  | 8,x,p,h=>qo (ps:=qeo 8 x) rfl p h
  | 9,x,p,h=>by cases h
  | 10,x,p,h=>qo (ps:=qeo 10 x) rfl p h
  | _+11,x,p,h=>by cases h
theorem zde (cs:List (PV KT)) (pre:Prop) (x:UInt8) (h:zdd cs=some (pre,x)) (hp:pre) (w:Wd) (vs:List V) (r:qp XK szK w cs vs):qp XK szK w (qeo 0 x) vs:=by
  unfold zdd at h
  split at h
  . obtain ⟨n,h0,h1⟩:=zM.1 h
    simp only [zP] at h1
    obtain ⟨rfl,rfl⟩:=h1
    refine z9 (fun v hv=>?_) (fun us hr=>hr) r
    have:=qad h0 hv
    have e:((UInt8.toNat (UInt8.ofNat (Int.toNat n)):Nat):Int)=n:=by
      obtain ⟨h2,h3⟩:=hp
      have:(UInt8.ofNat (Int.toNat n)).toNat=Int.toNat n:=by
        rw [UInt8.toNat_ofNat']
        exact Nat.mod_eq_of_lt (by omega)
      rw [this]
      omega
    show Rep XK szK w (.int .u8 none ((UInt8.toNat (UInt8.ofNat (Int.toNat n)):Nat):Int)) v
    rw [e]
    exact this
  . cases h
theorem zdg (cs:List (PV KT)) (pre:Prop) (x:Int) (h:zdf cs=some (pre,x)) (hp:pre) (w:Wd) (vs:List V) (r:qp XK szK w cs vs):qp XK szK w (qeo 1 x) vs:=by
  unfold zdf at h
  split at h
  . obtain ⟨a0,h0,h⟩:=zI.1 h
    cases h
    exact z9 (fun v hv=>qad h0 hv) (fun us hr=>hr) r
  . cases h
theorem zdi (cs:List (PV KT)) (pre:Prop) (x:Bool) (h:zdh cs=some (pre,x)) (hp:pre) (w:Wd) (vs:List V) (r:qp XK szK w cs vs):qp XK szK w (qeo 3 x) vs:=by
  unfold zdh at h
  split at h
  . obtain ⟨a0,h0,h⟩:=zI.1 h
    cases h
    exact z9 (fun v hv=>qj6 h0 hv) (fun us hr=>hr) r
  . cases h
theorem zdk (cs:List (PV KT)) (pre:Prop) (x:Sign) (h:zdj cs=some (pre,x)) (hp:pre) (w:Wd) (vs:List V) (r:qp XK szK w cs vs):qp XK szK w (qeo 4 x) vs:=by
  unfold zdj at h
  split at h
  . obtain ⟨a0,h0,h⟩:=zI.1 h
    obtain ⟨a1,h1,h⟩:=zI.1 h
    obtain ⟨a2,h2,h⟩:=zI.1 h
    obtain ⟨a3,h3,h⟩:=zI.1 h
    obtain ⟨a4,h4,h⟩:=zI.1 h
    obtain ⟨a5,h5,h⟩:=zI.1 h
    obtain ⟨a6,h6,h⟩:=zI.1 h
    obtain ⟨a7,h7,h⟩:=zI.1 h
    obtain ⟨a8,h8,h⟩:=zI.1 h
    obtain ⟨a9,h9,h⟩:=zI.1 h
    obtain ⟨a10,h10,h⟩:=zI.1 h
    obtain ⟨a11,h11,h⟩:=zI.1 h
    obtain ⟨a12,h12,h⟩:=zI.1 h
    obtain ⟨a13,h13,h⟩:=zI.1 h
    obtain ⟨a14,h14,h⟩:=zI.1 h
    obtain ⟨a15,h15,h⟩:=zI.1 h
    obtain ⟨a16,h16,h⟩:=zI.1 h
    cases h
    exact z9 (fun v hv=>qad h0 hv) (fun us hr=>z9 (fun v hv=>qad h1 hv) (fun us hr=>z9 (fun v hv=>qad h2 hv) (fun us hr=>z9 (fun v hv=>qad h3 hv) (fun us hr=>z9 (fun v hv=>qj6 h4 hv) (fun us hr=>z9 (fun v hv=>qad h5 hv) (fun us hr=>z9 (fun v hv=>qj6 h6 hv) (fun us hr=>z9 (fun v hv=>qj6 h7 hv) (fun us hr=>z9 (fun v hv=>qad h8 hv) (fun us hr=>z9 (fun v hv=>qad h9 hv) (fun us hr=>z9 (fun v hv=>qad h10 hv) (fun us hr=>z9 (fun v hv=>qad h11 hv) (fun us hr=>z9 (fun v hv=>qj6 h12 hv) (fun us hr=>z9 (fun v hv=>qad h13 hv) (fun us hr=>z9 (fun v hv=>qad h14 hv) (fun us hr=>z9 (fun v hv=>qad h15 hv) (fun us hr=>z9 (fun v hv=>qad h16 hv) (fun us hr=>hr) hr) hr) hr) hr) hr) hr) hr) hr) hr) hr) hr) hr) hr) hr) hr) hr) r
  . cases h
theorem zdm (cs:List (PV KT)) (pre:Prop) (x:Staff) (h:zdl cs=some (pre,x)) (hp:pre) (w:Wd) (vs:List V) (r:qp XK szK w cs vs):qp XK szK w (qeo 7 x) vs:=by
  unfold zdl at h
  split at h
  . obtain ⟨a0,h0,h⟩:=zI.1 h
    obtain ⟨a1,h1,h⟩:=zI.1 h
    obtain ⟨a2,h2,h⟩:=zI.1 h
    obtain ⟨a3,h3,h⟩:=zI.1 h
    cases h
    exact z9 (fun v hv=>qx2 h0 hv) (fun us hr=>z9 (fun v hv=>qad h1 hv) (fun us hr=>z9 (fun v hv=>qj6 h2 hv) (fun us hr=>z9 (fun v hv=>qad h3 hv) (fun us hr=>hr) hr) hr) hr) r
  . cases h
theorem zdo (cs:List (PV KT)) (pre:Prop) (x:Page) (h:zdn cs=some (pre,x)) (hp:pre) (w:Wd) (vs:List V) (r:qp XK szK w cs vs):qp XK szK w (qeo 8 x) vs:=by
  unfold zdn at h
  split at h
  . obtain ⟨a0,h0,h⟩:=zI.1 h
    cases h
    exact z9 (fun v hv=>qx2 h0 hv) (fun us hr=>hr) r
  . cases h
theorem q9s (cs:List (PV KT)) (pre:Prop) (x:Group) (h:q5t cs=some (pre,x)) (hp:pre) (w:Wd) (vs:List V) (r:qp XK szK w cs vs):qp XK szK w (qeo 10 x) vs:=by
  unfold q5t at h
  split at h
  . obtain ⟨a0,h0,h⟩:=zI.1 h
    obtain ⟨a1,h1,h⟩:=zI.1 h
    cases h
    exact z9 (fun v hv=>qad h0 hv) (fun us hr=>z9 (fun v hv=>qad h1 hv) (fun us hr=>hr) hr) r
  . cases h
theorem zjr:∀ c cs pre x,XK.pack c cs=some (pre,x)->pre->∀ w vs,qp XK szK w cs vs->qp XK szK w (XK.cells c x) vs
  | 0,cs,pre,x,h,hp,w,vs,r=>zde cs pre x h hp w vs r
  | 1,cs,pre,x,h,hp,w,vs,r=>zdg cs pre x h hp w vs r
  | 2,cs,pre,x,h,hp,w,vs,r=>by cases h
  | 3,cs,pre,x,h,hp,w,vs,r=>zdi cs pre x h hp w vs r
  | 4,cs,pre,x,h,hp,w,vs,r=>zdk cs pre x h hp w vs r
  | 5,cs,pre,x,h,hp,w,vs,r=>by cases h
  | 6,cs,pre,x,h,hp,w,vs,r=>by cases h
  | 7,cs,pre,x,h,hp,w,vs,r=>zdm cs pre x h hp w vs r
  | 8,cs,pre,x,h,hp,w,vs,r=>zdo cs pre x h hp w vs r
  | 9,cs,pre,x,h,hp,w,vs,r=>by cases h
  | 10,cs,pre,x,h,hp,w,vs,r=>q9s cs pre x h hp w vs r
  | _+11,cs,pre,x,h,hp,w,vs,r=>by cases h
end Go.Proofs.YtlkfjinaiepocaaDoor
