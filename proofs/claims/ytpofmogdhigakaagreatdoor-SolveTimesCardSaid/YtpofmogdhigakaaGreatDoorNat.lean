import Derived.Test.YtpofmogdhigakaaGreatDoorM6
import Derived.Test.YtpofmogdhigakaaGreatDoorM7
namespace Go.Proofs.YtpofmogdhigakaaGreatDoor
open Go Go.E2 Go.E3
set_option maxRecDepth 100000
structure Sign where
  Kind:Int
  Value:Int
  Place:Int
  Acc:Int
  Color:Bool
  Stem:Int
  Oblique:Bool
  Last:Bool
  MensMax:Int
  MensMod:Int
  MensTem:Int
  MensPro:Int
  Stroke:Bool
  N:Int
  D:Int
  ClefStep:Int
  ClefLine:Int
instance:Inhabited Sign:=⟨⟨0,0,0,0,false,0,false,false,0,0,0,0,false,0,0,0,0⟩⟩
structure Time where
  N:Int
  D:Int
instance:Inhabited Time:=⟨⟨0,0⟩⟩
structure Section where
  From:Int
  To:Int
  MensMax:Int
  MensMod:Int
  MensTem:Int
  MensPro:Int
  FactorN:Int
  FactorD:Int
instance:Inhabited Section:=⟨⟨0,0,0,0,0,0,0,0⟩⟩
structure Repeat where
  From:Int
  To:Int
  N:Int
instance:Inhabited Repeat:=⟨⟨0,0,0⟩⟩
structure Played where
  Sign:Int
  Pass:Int
instance:Inhabited Played:=⟨⟨0,0⟩⟩
structure MapIT where
  key:Int
  vN:Int
  vD:Int
instance:Inhabited MapIT:=⟨⟨0,0,0⟩⟩
def KT:Nat->Type
  | 0=>UInt8
  | 1=>Int
  | 4=>Sign
  | 9=>Time
  | 13=>Section
  | 17=>Repeat
  | 18=>Played
  | 26=>Repeat
  | 27=>MapIT
  | _=>Unit
def zkp:(c:Nat)->KT c
  | 0=>(default:UInt8)
  | 1=>(default:Int)
  | 2=>()
  | 3=>()
  | 4=>(default:Sign)
  | 5=>()
  | 6=>()
  | 7=>()
  | 8=>()
  | 9=>(default:Time)
  | 10=>()
  | 11=>()
  | 12=>()
  | 13=>(default:Section)
  | 14=>()
  | 15=>()
  | 16=>()
  | 17=>(default:Repeat)
  | 18=>(default:Played)
  | 19=>()
  | 20=>()
  | 21=>()
  | 22=>()
  | 23=>()
  | 24=>()
  | 25=>()
  | 26=>(default:Repeat)
  | 27=>(default:MapIT)
  | _+28=>()
def qck:(c:Nat)->KT c->List (PV KT)
  | 0,n=>[.int .u8 none ((UInt8.toNat n:Nat):Int)]
  | 1,x=>[.int .i64 none x]
  | 2,_=>[]
  | 3,_=>[]
  | 4,x=>[.int .i64 none (Sign.Kind x),.int .i64 none (Sign.Value x),.int .i64 none (Sign.Place x),.int .i64 none (Sign.Acc x),.sb 0 false (Sign.Color x) (Sign.Color x=true) (Sign.Color x=false),.int .i64 none (Sign.Stem x),.sb 0 false (Sign.Oblique x) (Sign.Oblique x=true) (Sign.Oblique x=false),.sb 0 false (Sign.Last x) (Sign.Last x=true) (Sign.Last x=false),.int .i64 none (Sign.MensMax x),.int .i64 none (Sign.MensMod x),.int .i64 none (Sign.MensTem x),.int .i64 none (Sign.MensPro x),.sb 0 false (Sign.Stroke x) (Sign.Stroke x=true) (Sign.Stroke x=false),.int .i64 none (Sign.N x),.int .i64 none (Sign.D x),.int .i64 none (Sign.ClefStep x),.int .i64 none (Sign.ClefLine x)]
  | 5,_=>[]
  | 6,_=>[]
  | 7,_=>[]
  | 8,_=>[]
  | 9,x=>[.int .i64 none (Time.N x),.int .i64 none (Time.D x)]
  | 10,_=>[]
  | 11,_=>[]
  | 12,_=>[]
  | 13,x=>[.int .i64 none (Section.From x),.int .i64 none (Section.To x),.int .i64 none (Section.MensMax x),.int .i64 none (Section.MensMod x),.int .i64 none (Section.MensTem x),.int .i64 none (Section.MensPro x),.int .i64 none (Section.FactorN x),.int .i64 none (Section.FactorD x)]
  | 14,_=>[]
  | 15,_=>[]
  | 16,_=>[]
  | 17,x=>[.int .i64 none (Repeat.From x),.int .i64 none (Repeat.To x),.int .i64 none (Repeat.N x)]
  | 18,x=>[.int .i64 none (Played.Sign x),.int .i64 none (Played.Pass x)]
  | 19,_=>[]
  | 20,_=>[]
  | 21,_=>[]
  | 22,_=>[]
  | 23,_=>[]
  | 24,_=>[]
  | 25,_=>[]
  | 26,x=>[.eptr [.int .i64 none (Repeat.From x),.int .i64 none (Repeat.To x),.int .i64 none (Repeat.N x)] 0]
  | 27,x=>[.int .i64 none (MapIT.key x),.int .i64 none (MapIT.vN x),.int .i64 none (MapIT.vD x)]
  | _+28,_=>[]
def zft (cs:List (PV KT)):Option (Prop×UInt8):=match cs with
  | [p]=>(qd1 .u8 p).map λn=>(0<=n/\n<=255,UInt8.ofNat (Int.toNat n))
  | _=>none
def zfv (cs:List (PV KT)):Option (Prop×Int):=match cs with
  | [a]=>(qd1 .i64 a).bind λb=>some (True,b)
  | _=>none
def zfy (cs:List (PV KT)):Option (Prop×Sign):=match cs with
  | [o,p,q,r,s,t,u,v,w,x,a,b,c,d,e,f,g]=>(qd1 .i64 o).bind λy=>(qd1 .i64 p).bind λz=>(qd1 .i64 q).bind λA=>(qd1 .i64 r).bind λB=>(zca s).bind λC=>(qd1 .i64 t).bind λD=>(zca u).bind λE=>(zca v).bind λF=>(qd1 .i64 w).bind λG=>(qd1 .i64 x).bind λH=>(qd1 .i64 a).bind λh=>(qd1 .i64 b).bind λi=>(zca c).bind λj=>(qd1 .i64 d).bind λk=>(qd1 .i64 e).bind λl=>(qd1 .i64 f).bind λm=>(qd1 .i64 g).bind λn=>some (True,Sign.mk y z A B C D E F G H h i j k l m n)
  | _=>none
def zf0 (cs:List (PV KT)):Option (Prop×Time):=match cs with
  | [a,b]=>(qd1 .i64 a).bind λc=>(qd1 .i64 b).bind λd=>some (True,Time.mk c d)
  | _=>none
def q8q (cs:List (PV KT)):Option (Prop×Section):=match cs with
  | [a,b,c,d,e,f,g,h]=>(qd1 .i64 a).bind λi=>(qd1 .i64 b).bind λj=>(qd1 .i64 c).bind λk=>(qd1 .i64 d).bind λl=>(qd1 .i64 e).bind λm=>(qd1 .i64 f).bind λn=>(qd1 .i64 g).bind λo=>(qd1 .i64 h).bind λp=>some (True,Section.mk i j k l m n o p)
  | _=>none
def q8r (cs:List (PV KT)):Option (Prop×Repeat):=match cs with
  | [a,b,c]=>(qd1 .i64 a).bind λd=>(qd1 .i64 b).bind λe=>(qd1 .i64 c).bind λf=>some (True,Repeat.mk d e f)
  | _=>none
def q8s (cs:List (PV KT)):Option (Prop×Played):=match cs with
  | [a,b]=>(qd1 .i64 a).bind λc=>(qd1 .i64 b).bind λd=>some (True,Played.mk c d)
  | _=>none
def zfx (_:List (PV KT)):Option (Prop×Repeat):=none
def q8t (cs:List (PV KT)):Option (Prop×MapIT):=match cs with
  | [a,b,c]=>(qd1 .i64 a).bind λd=>(qd1 .i64 b).bind λe=>(qd1 .i64 c).bind λf=>some (True,MapIT.mk d e f)
  | _=>none
def zlr:(c:Nat)->List (PV KT)->Option (Prop×KT c)
  | 0,cs=>zft cs
  | 1,cs=>zfv cs
  | 2,_=>none
  | 3,_=>none
  | 4,cs=>zfy cs
  | 5,_=>none
  | 6,_=>none
  | 7,_=>none
  | 8,_=>none
  | 9,cs=>zf0 cs
  | 10,_=>none
  | 11,_=>none
  | 12,_=>none
  | 13,cs=>q8q cs
  | 14,_=>none
  | 15,_=>none
  | 16,_=>none
  | 17,cs=>q8r cs
  | 18,cs=>q8s cs
  | 19,_=>none
  | 20,_=>none
  | 21,_=>none
  | 22,_=>none
  | 23,_=>none
  | 24,_=>none
  | 25,_=>none
  | 26,cs=>zfx cs
  | 27,cs=>q8t cs
  | _+28,_=>none
def XK:Codecs KT:={dflt:=zkp,u8:=rfl,cells:=qck,pack:=zlr}
def zu4 (l:List MapIT) (y:MapIT):MapIT:=qjn XK 27 1 l y
def zu7 (l:List MapIT) (y:MapIT):Bool:=qq2 XK 27 1 l y
def zve (l:List MapIT) (y:MapIT):List MapIT:=qld XK 27 1 l y
def szK:Nat->Nat
  | 0=>1
  | 1=>1
  | 4=>17
  | 9=>2
  | 13=>8
  | 17=>3
  | 18=>2
  | 26=>1
  | 27=>3
  | _=>0
theorem ztm:∀ c x,(XK.cells c x).length=szK c
  | 0,x=>rfl
  | 1,x=>rfl
  | 2,x=>rfl
  | 3,x=>rfl
  | 4,x=>rfl
  | 5,x=>rfl
  | 6,x=>rfl
  | 7,x=>rfl
  | 8,x=>rfl
  | 9,x=>rfl
  | 10,x=>rfl
  | 11,x=>rfl
  | 12,x=>rfl
  | 13,x=>rfl
  | 14,x=>rfl
  | 15,x=>rfl
  | 16,x=>rfl
  | 17,x=>rfl
  | 18,x=>rfl
  | 19,x=>rfl
  | 20,x=>rfl
  | 21,x=>rfl
  | 22,x=>rfl
  | 23,x=>rfl
  | 24,x=>rfl
  | 25,x=>rfl
  | 26,x=>rfl
  | 27,x=>rfl
  | _+28,x=>rfl
theorem zvd:∀ c x,(XK.cells c x).all qae=true
  | 0,x=>rfl
  | 1,x=>rfl
  | 2,x=>rfl
  | 3,x=>rfl
  | 4,x=>rfl
  | 5,x=>rfl
  | 6,x=>rfl
  | 7,x=>rfl
  | 8,x=>rfl
  | 9,x=>rfl
  | 10,x=>rfl
  | 11,x=>rfl
  | 12,x=>rfl
  | 13,x=>rfl
  | 14,x=>rfl
  | 15,x=>rfl
  | 16,x=>rfl
  | 17,x=>rfl
  | 18,x=>rfl
  | 19,x=>rfl
  | 20,x=>rfl
  | 21,x=>rfl
  | 22,x=>rfl
  | 23,x=>rfl
  | 24,x=>rfl
  | 25,x=>rfl
  | 26,x=>rfl
  | 27,x=>rfl
  | _+28,x=>rfl
theorem zf2:∀ c x p,p ∈ XK.cells c x->Plain p
  | 0,x,p,h=>qa4 (ps:=qck 0 x) rfl p h
  | 1,x,p,h=>qa4 (ps:=qck 1 x) rfl p h
  | 2,x,p,h=>by cases h
  | 3,x,p,h=>by cases h
  | 4,x,p,h=>qa4 (ps:=qck 4 x) rfl p h
  | 5,x,p,h=>by cases h
  | 6,x,p,h=>by cases h
  | 7,x,p,h=>by cases h
  | 8,x,p,h=>by cases h
  | 9,x,p,h=>qa4 (ps:=qck 9 x) rfl p h
  | 10,x,p,h=>by cases h
  | 11,x,p,h=>by cases h
  | 12,x,p,h=>by cases h
  | 13,x,p,h=>qa4 (ps:=qck 13 x) rfl p h
  | 14,x,p,h=>by cases h
  | 15,x,p,h=>by cases h
  | 16,x,p,h=>by cases h
  | 17,x,p,h=>qa4 (ps:=qck 17 x) rfl p h
  | 18,x,p,h=>qa4 (ps:=qck 18 x) rfl p h
  | 19,x,p,h=>by cases h
  | 20,x,p,h=>by cases h
  | 21,x,p,h=>by cases h
  | 22,x,p,h=>by cases h
  | 23,x,p,h=>by cases h
  | 24,x,p,h=>by cases h
  | 25,x,p,h=>by cases h
  | 26,x,p,h=>by
    rw [List.mem_singleton.1 h];exact .eptr (qa4 rfl)
  | 27,x,p,h=>qa4 (ps:=qck 27 x) rfl p h
  | _+28,x,p,h=>by cases h
theorem zfu (cs:List (PV KT)) (pre:Prop) (x:UInt8) (h:zft cs=some (pre,x)) (b:pre) (w:Wd) (vs:List V) (r:ql XK szK w cs vs):ql XK szK w (qck 0 x) vs:=by
  unfold zft at h;split at h
  . obtain ⟨n,c,a⟩:=zM.1 h
    simp only [zP] at a;obtain ⟨rfl,rfl⟩:=a;refine zm (λv d=>?_) (λus f=>f) r;have:=zy c d;have e:((UInt8.toNat (UInt8.ofNat (Int.toNat n)):Nat):Int)=n:=by
      obtain ⟨g,i⟩:=b;have:(UInt8.ofNat (Int.toNat n)).toNat=Int.toNat n:=by
        rw [UInt8.toNat_ofNat'];exact Nat.mod_eq_of_lt (by omega)
      rw [this];omega
    show Rep XK szK w (.int .u8 none ((UInt8.toNat (UInt8.ofNat (Int.toNat n)):Nat):Int)) v;rw [e];exact this
  . cases h
theorem zfw (cs:List (PV KT)) (pre:Prop) (x:Int) (h:zfv cs=some (pre,x)) (d:pre) (w:Wd) (vs:List V) (r:ql XK szK w cs vs):ql XK szK w (qck 1 x) vs:=by
  unfold zfv at h;split at h
  . obtain ⟨e,a,h⟩:=zI.1 h
    cases h;exact zm (λv b=>zy a b) (λus c=>c) r
  . cases h
theorem zfz (cs:List (PV KT)) (pre:Prop) (x:Sign) (h:zfy cs=some (pre,x)) (F:pre) (w:Wd) (vs:List V) (r:ql XK szK w cs vs):ql XK szK w (qck 4 x) vs:=by
  unfold zfy at h;split at h
  . obtain ⟨G,k,h⟩:=zI.1 h
    obtain ⟨H,l,h⟩:=zI.1 h;obtain ⟨I,m,h⟩:=zI.1 h;obtain ⟨J,n,h⟩:=zI.1 h;obtain ⟨K,o,h⟩:=zI.1 h;obtain ⟨L,p,h⟩:=zI.1 h;obtain ⟨M,q,h⟩:=zI.1 h;obtain ⟨N,s,h⟩:=zI.1 h;obtain ⟨O,t,h⟩:=zI.1 h;obtain ⟨P,u,h⟩:=zI.1 h;obtain ⟨y,c,h⟩:=zI.1 h;obtain ⟨z,d,h⟩:=zI.1 h;obtain ⟨A,e,h⟩:=zI.1 h;obtain ⟨B,f,h⟩:=zI.1 h;obtain ⟨C,g,h⟩:=zI.1 h;obtain ⟨D,i,h⟩:=zI.1 h;obtain ⟨E,j,h⟩:=zI.1 h;cases h;exact zm (λv a=>zy k a) (λus b=>zm (λv a=>zy l a) (λus b=>zm (λv a=>zy m a) (λus b=>zm (λv a=>zy n a) (λus b=>zm (λv a=>qr7 o a) (λus b=>zm (λv a=>zy p a) (λus b=>zm (λv a=>qr7 q a) (λus b=>zm (λv a=>qr7 s a) (λus b=>zm (λv a=>zy t a) (λus b=>zm (λv a=>zy u a) (λus b=>zm (λv a=>zy c a) (λus b=>zm (λv a=>zy d a) (λus b=>zm (λv a=>qr7 e a) (λus b=>zm (λv a=>zy f a) (λus b=>zm (λv a=>zy g a) (λus b=>zm (λv a=>zy i a) (λus b=>zm (λv a=>zy j a) (λus b=>b) b) b) b) b) b) b) b) b) b) b) b) b) b) b) b) b) r
  . cases h
theorem zf1 (cs:List (PV KT)) (pre:Prop) (x:Time) (h:zf0 cs=some (pre,x)) (e:pre) (w:Wd) (vs:List V) (r:ql XK szK w cs vs):ql XK szK w (qck 9 x) vs:=by
  unfold zf0 at h;split at h
  . obtain ⟨f,c,h⟩:=zI.1 h
    obtain ⟨g,d,h⟩:=zI.1 h;cases h;exact zm (λv a=>zy c a) (λus b=>zm (λv a=>zy d a) (λus b=>b) b) r
  . cases h
theorem zcr (cs:List (PV KT)) (pre:Prop) (x:Section) (h:q8q cs=some (pre,x)) (l:pre) (w:Wd) (vs:List V) (r:ql XK szK w cs vs):ql XK szK w (qck 13 x) vs:=by
  unfold q8q at h;split at h
  . obtain ⟨m,c,h⟩:=zI.1 h
    obtain ⟨n,d,h⟩:=zI.1 h;obtain ⟨o,e,h⟩:=zI.1 h;obtain ⟨p,f,h⟩:=zI.1 h;obtain ⟨q,g,h⟩:=zI.1 h;obtain ⟨s,i,h⟩:=zI.1 h;obtain ⟨t,j,h⟩:=zI.1 h;obtain ⟨u,k,h⟩:=zI.1 h;cases h;exact zm (λv a=>zy c a) (λus b=>zm (λv a=>zy d a) (λus b=>zm (λv a=>zy e a) (λus b=>zm (λv a=>zy f a) (λus b=>zm (λv a=>zy g a) (λus b=>zm (λv a=>zy i a) (λus b=>zm (λv a=>zy j a) (λus b=>zm (λv a=>zy k a) (λus b=>b) b) b) b) b) b) b) b) r
  . cases h
theorem zcs (cs:List (PV KT)) (pre:Prop) (x:Repeat) (h:q8r cs=some (pre,x)) (f:pre) (w:Wd) (vs:List V) (r:ql XK szK w cs vs):ql XK szK w (qck 17 x) vs:=by
  unfold q8r at h;split at h
  . obtain ⟨g,c,h⟩:=zI.1 h
    obtain ⟨i,d,h⟩:=zI.1 h;obtain ⟨j,e,h⟩:=zI.1 h;cases h;exact zm (λv a=>zy c a) (λus b=>zm (λv a=>zy d a) (λus b=>zm (λv a=>zy e a) (λus b=>b) b) b) r
  . cases h
theorem zct (cs:List (PV KT)) (pre:Prop) (x:Played) (h:q8s cs=some (pre,x)) (e:pre) (w:Wd) (vs:List V) (r:ql XK szK w cs vs):ql XK szK w (qck 18 x) vs:=by
  unfold q8s at h;split at h
  . obtain ⟨f,c,h⟩:=zI.1 h
    obtain ⟨g,d,h⟩:=zI.1 h;cases h;exact zm (λv a=>zy c a) (λus b=>zm (λv a=>zy d a) (λus b=>b) b) r
  . cases h
theorem zcu (cs:List (PV KT)) (pre:Prop) (x:Repeat) (h:zfx cs=some (pre,x)) (a:pre) (w:Wd) (vs:List V) (r:ql XK szK w cs vs):ql XK szK w (qck 26 x) vs:=by cases h
theorem zcv (cs:List (PV KT)) (pre:Prop) (x:MapIT) (h:q8t cs=some (pre,x)) (f:pre) (w:Wd) (vs:List V) (r:ql XK szK w cs vs):ql XK szK w (qck 27 x) vs:=by
  unfold q8t at h;split at h
  . obtain ⟨g,c,h⟩:=zI.1 h
    obtain ⟨i,d,h⟩:=zI.1 h;obtain ⟨j,e,h⟩:=zI.1 h;cases h;exact zm (λv a=>zy c a) (λus b=>zm (λv a=>zy d a) (λus b=>zm (λv a=>zy e a) (λus b=>b) b) b) r
  . cases h
theorem zpt:∀ c cs pre x,XK.pack c cs=some (pre,x)->pre->∀ w vs,ql XK szK w cs vs->ql XK szK w (XK.cells c x) vs
  | 0,cs,pre,x,h,a,w,vs,r=>zfu cs pre x h a w vs r
  | 1,cs,pre,x,h,a,w,vs,r=>zfw cs pre x h a w vs r
  | 2,cs,pre,x,h,a,w,vs,r=>by cases h
  | 3,cs,pre,x,h,a,w,vs,r=>by cases h
  | 4,cs,pre,x,h,a,w,vs,r=>zfz cs pre x h a w vs r
  | 5,cs,pre,x,h,a,w,vs,r=>by cases h
  | 6,cs,pre,x,h,a,w,vs,r=>by cases h
  | 7,cs,pre,x,h,a,w,vs,r=>by cases h
  | 8,cs,pre,x,h,a,w,vs,r=>by cases h
  | 9,cs,pre,x,h,a,w,vs,r=>zf1 cs pre x h a w vs r
  | 10,cs,pre,x,h,a,w,vs,r=>by cases h
  | 11,cs,pre,x,h,a,w,vs,r=>by cases h
  | 12,cs,pre,x,h,a,w,vs,r=>by cases h
  | 13,cs,pre,x,h,a,w,vs,r=>zcr cs pre x h a w vs r
  | 14,cs,pre,x,h,a,w,vs,r=>by cases h
  | 15,cs,pre,x,h,a,w,vs,r=>by cases h
  | 16,cs,pre,x,h,a,w,vs,r=>by cases h
  | 17,cs,pre,x,h,a,w,vs,r=>zcs cs pre x h a w vs r
  | 18,cs,pre,x,h,a,w,vs,r=>zct cs pre x h a w vs r
  | 19,cs,pre,x,h,a,w,vs,r=>by cases h
  | 20,cs,pre,x,h,a,w,vs,r=>by cases h
  | 21,cs,pre,x,h,a,w,vs,r=>by cases h
  | 22,cs,pre,x,h,a,w,vs,r=>by cases h
  | 23,cs,pre,x,h,a,w,vs,r=>by cases h
  | 24,cs,pre,x,h,a,w,vs,r=>by cases h
  | 25,cs,pre,x,h,a,w,vs,r=>by cases h
  | 26,cs,pre,x,h,a,w,vs,r=>zcu cs pre x h a w vs r
  | 27,cs,pre,x,h,a,w,vs,r=>zcv cs pre x h a w vs r
  | _+28,cs,pre,x,h,a,w,vs,r=>by cases h
def znk:(c:Nat)->(Unit->KT c)->List (PT KT)
  | 0,n=>[.int .u8 none (λ_=>((UInt8.toNat (n ()):Nat):Int))]
  | 1,x=>[.int .i64 none x]
  | 2,_=>[]
  | 3,_=>[]
  | 4,x=>[.int .i64 none (λ_=>Sign.Kind (x ())),.int .i64 none (λ_=>Sign.Value (x ())),.int .i64 none (λ_=>Sign.Place (x ())),.int .i64 none (λ_=>Sign.Acc (x ())),.sb 0 false (λ_=>Sign.Color (x ())) (λ_=>Sign.Color (x ())=true) (λ_=>Sign.Color (x ())=false),.int .i64 none (λ_=>Sign.Stem (x ())),.sb 0 false (λ_=>Sign.Oblique (x ())) (λ_=>Sign.Oblique (x ())=true) (λ_=>Sign.Oblique (x ())=false),.sb 0 false (λ_=>Sign.Last (x ())) (λ_=>Sign.Last (x ())=true) (λ_=>Sign.Last (x ())=false),.int .i64 none (λ_=>Sign.MensMax (x ())),.int .i64 none (λ_=>Sign.MensMod (x ())),.int .i64 none (λ_=>Sign.MensTem (x ())),.int .i64 none (λ_=>Sign.MensPro (x ())),.sb 0 false (λ_=>Sign.Stroke (x ())) (λ_=>Sign.Stroke (x ())=true) (λ_=>Sign.Stroke (x ())=false),.int .i64 none (λ_=>Sign.N (x ())),.int .i64 none (λ_=>Sign.D (x ())),.int .i64 none (λ_=>Sign.ClefStep (x ())),.int .i64 none (λ_=>Sign.ClefLine (x ()))]
  | 5,_=>[]
  | 6,_=>[]
  | 7,_=>[]
  | 8,_=>[]
  | 9,x=>[.int .i64 none (λ_=>Time.N (x ())),.int .i64 none (λ_=>Time.D (x ()))]
  | 10,_=>[]
  | 11,_=>[]
  | 12,_=>[]
  | 13,x=>[.int .i64 none (λ_=>Section.From (x ())),.int .i64 none (λ_=>Section.To (x ())),.int .i64 none (λ_=>Section.MensMax (x ())),.int .i64 none (λ_=>Section.MensMod (x ())),.int .i64 none (λ_=>Section.MensTem (x ())),.int .i64 none (λ_=>Section.MensPro (x ())),.int .i64 none (λ_=>Section.FactorN (x ())),.int .i64 none (λ_=>Section.FactorD (x ()))]
  | 14,_=>[]
  | 15,_=>[]
  | 16,_=>[]
  | 17,x=>[.int .i64 none (λ_=>Repeat.From (x ())),.int .i64 none (λ_=>Repeat.To (x ())),.int .i64 none (λ_=>Repeat.N (x ()))]
  | 18,x=>[.int .i64 none (λ_=>Played.Sign (x ())),.int .i64 none (λ_=>Played.Pass (x ()))]
  | 19,_=>[]
  | 20,_=>[]
  | 21,_=>[]
  | 22,_=>[]
  | 23,_=>[]
  | 24,_=>[]
  | 25,_=>[]
  | 26,x=>[.eptr [.int .i64 none (λ_=>Repeat.From (x ())),.int .i64 none (λ_=>Repeat.To (x ())),.int .i64 none (λ_=>Repeat.N (x ()))] 0]
  | 27,x=>[.int .i64 none (λ_=>MapIT.key (x ())),.int .i64 none (λ_=>MapIT.vN (x ())),.int .i64 none (λ_=>MapIT.vD (x ()))]
  | _+28,_=>[]
def zpu (cs:List (PT KT)):Option ((Unit->Prop)×(Unit->UInt8)):=match cs with
  | [p]=>(qbt .u8 p).map λn=>(λ_=>0<=n ()/\n ()<=255,λ_=>UInt8.ofNat (Int.toNat (n ())))
  | _=>none
def zpv (cs:List (PT KT)):Option ((Unit->Prop)×(Unit->Int)):=match cs with
  | [a]=>(qbt .i64 a).bind λb=>some (λ_=>True,b)
  | _=>none
def zpw (cs:List (PT KT)):Option ((Unit->Prop)×(Unit->Sign)):=match cs with
  | [o,p,q,r,s,t,u,v,w,x,a,b,c,d,e,f,g]=>(qbt .i64 o).bind λy=>(qbt .i64 p).bind λz=>(qbt .i64 q).bind λA=>(qbt .i64 r).bind λB=>(zaa s).bind λC=>(qbt .i64 t).bind λD=>(zaa u).bind λE=>(zaa v).bind λF=>(qbt .i64 w).bind λG=>(qbt .i64 x).bind λH=>(qbt .i64 a).bind λh=>(qbt .i64 b).bind λi=>(zaa c).bind λj=>(qbt .i64 d).bind λk=>(qbt .i64 e).bind λl=>(qbt .i64 f).bind λm=>(qbt .i64 g).bind λn=>some (λ_=>True,λ_=>Sign.mk (y ()) (z ()) (A ()) (B ()) (C ()) (D ()) (E ()) (F ()) (G ()) (H ()) (h ()) (i ()) (j ()) (k ()) (l ()) (m ()) (n ()))
  | _=>none
def zpx (cs:List (PT KT)):Option ((Unit->Prop)×(Unit->Time)):=match cs with
  | [a,b]=>(qbt .i64 a).bind λc=>(qbt .i64 b).bind λd=>some (λ_=>True,λ_=>Time.mk (c ()) (d ()))
  | _=>none
def zjb (cs:List (PT KT)):Option ((Unit->Prop)×(Unit->Section)):=match cs with
  | [a,b,c,d,e,f,g,h]=>(qbt .i64 a).bind λi=>(qbt .i64 b).bind λj=>(qbt .i64 c).bind λk=>(qbt .i64 d).bind λl=>(qbt .i64 e).bind λm=>(qbt .i64 f).bind λn=>(qbt .i64 g).bind λo=>(qbt .i64 h).bind λp=>some (λ_=>True,λ_=>Section.mk (i ()) (j ()) (k ()) (l ()) (m ()) (n ()) (o ()) (p ()))
  | _=>none
def zjc (cs:List (PT KT)):Option ((Unit->Prop)×(Unit->Repeat)):=match cs with
  | [a,b,c]=>(qbt .i64 a).bind λd=>(qbt .i64 b).bind λe=>(qbt .i64 c).bind λf=>some (λ_=>True,λ_=>Repeat.mk (d ()) (e ()) (f ()))
  | _=>none
def zjd (cs:List (PT KT)):Option ((Unit->Prop)×(Unit->Played)):=match cs with
  | [a,b]=>(qbt .i64 a).bind λc=>(qbt .i64 b).bind λd=>some (λ_=>True,λ_=>Played.mk (c ()) (d ()))
  | _=>none
def zje (_:List (PT KT)):Option ((Unit->Prop)×(Unit->Repeat)):=none
def zjf (cs:List (PT KT)):Option ((Unit->Prop)×(Unit->MapIT)):=match cs with
  | [a,b,c]=>(qbt .i64 a).bind λd=>(qbt .i64 b).bind λe=>(qbt .i64 c).bind λf=>some (λ_=>True,λ_=>MapIT.mk (d ()) (e ()) (f ()))
  | _=>none
def ztw:(c:Nat)->List (PT KT)->Option ((Unit->Prop)×(Unit->KT c))
  | 0,cs=>zpu cs
  | 1,cs=>zpv cs
  | 2,_=>none
  | 3,_=>none
  | 4,cs=>zpw cs
  | 5,_=>none
  | 6,_=>none
  | 7,_=>none
  | 8,_=>none
  | 9,cs=>zpx cs
  | 10,_=>none
  | 11,_=>none
  | 12,_=>none
  | 13,cs=>zjb cs
  | 14,_=>none
  | 15,_=>none
  | 16,_=>none
  | 17,cs=>zjc cs
  | 18,cs=>zjd cs
  | 19,_=>none
  | 20,_=>none
  | 21,_=>none
  | 22,_=>none
  | 23,_=>none
  | 24,_=>none
  | 25,_=>none
  | 26,cs=>zje cs
  | 27,cs=>zjf cs
  | _+28,_=>none
@[reducible] def zu8:(c:Nat)->Unit->Inhabited (KT c)
  | 0=>λ_=>(inferInstance:Inhabited UInt8)
  | 1=>λ_=>(inferInstance:Inhabited Int)
  | 2=>λ_=>⟨()⟩
  | 3=>λ_=>⟨()⟩
  | 4=>λ_=>instInhabitedSign
  | 5=>λ_=>⟨()⟩
  | 6=>λ_=>⟨()⟩
  | 7=>λ_=>⟨()⟩
  | 8=>λ_=>⟨()⟩
  | 9=>λ_=>instInhabitedTime
  | 10=>λ_=>⟨()⟩
  | 11=>λ_=>⟨()⟩
  | 12=>λ_=>⟨()⟩
  | 13=>λ_=>instInhabitedSection
  | 14=>λ_=>⟨()⟩
  | 15=>λ_=>⟨()⟩
  | 16=>λ_=>⟨()⟩
  | 17=>λ_=>instInhabitedRepeat
  | 18=>λ_=>instInhabitedPlayed
  | 19=>λ_=>⟨()⟩
  | 20=>λ_=>⟨()⟩
  | 21=>λ_=>⟨()⟩
  | 22=>λ_=>⟨()⟩
  | 23=>λ_=>⟨()⟩
  | 24=>λ_=>⟨()⟩
  | 25=>λ_=>⟨()⟩
  | 26=>λ_=>(inferInstance:Inhabited Repeat)
  | 27=>λ_=>instInhabitedMapIT
  | _+28=>λ_=>⟨()⟩
def XT:CodecsT KT:={inh:=zu8,u8:=rfl,cells:=znk,pack:=ztw}
theorem kt0:KT 0=UInt8:=rfl
theorem kt1:KT 1=Int:=rfl
theorem kt4:KT 4=Sign:=rfl
theorem kt9:KT 9=Time:=rfl
theorem qbh:KT 13=Section:=rfl
theorem qbi:KT 17=Repeat:=rfl
theorem qbj:KT 18=Played:=rfl
theorem qbk:KT 26=Repeat:=rfl
theorem qbl:KT 27=MapIT:=rfl
theorem zr1 (s:Sign):Sign.mk s.Kind s.Value s.Place s.Acc s.Color s.Stem s.Oblique s.Last s.MensMax s.MensMod s.MensTem s.MensPro s.Stroke s.N s.D s.ClefStep s.ClefLine=s:=rfl
theorem zr2 (s:Time):Time.mk s.N s.D=s:=rfl
theorem zlc (s:Section):Section.mk s.From s.To s.MensMax s.MensMod s.MensTem s.MensPro s.FactorN s.FactorD=s:=rfl
theorem zld (s:Repeat):Repeat.mk s.From s.To s.N=s:=rfl
theorem zle (s:Played):Played.mk s.Sign s.Pass=s:=rfl
theorem xkf:(Codecs.mk zkp XK._proof_1 qck zlr:Codecs KT)=XK:=rfl
end Go.Proofs.YtpofmogdhigakaaGreatDoor
