import Derived.Test.YtpdphcekmhajdaaGreatDoorM5
namespace Go.Proofs.YtpdphcekmhajdaaGreatDoor
open Go Go.E2 Go.E3
set_option maxRecDepth 100000
structure Sign where
  Kind:Int
  Value:Int
  Place:Int
  Acc:Int
  Color:Bool
  Stem:Int
  Oblique:Bool
  Last:Bool
  MensMax:Int
  MensMod:Int
  MensTem:Int
  MensPro:Int
  Stroke:Bool
  N:Int
  D:Int
  ClefStep:Int
  ClefLine:Int
instance:Inhabited Sign:=⟨⟨0,0,0,0,false,0,false,false,0,0,0,0,false,0,0,0,0⟩⟩
structure Staff where
  Signs:List Sign
  Lead:Int
  Catch:Bool
  Custos:Int
instance:Inhabited Staff:=⟨⟨[],0,false,0⟩⟩
structure Page where
  Staves:List Staff
instance:Inhabited Page:=⟨⟨[]⟩⟩
structure MapSM where
  key:ZB
  vMax:Int
  vMod:Int
  vTem:Int
  vPro:Int
instance:Inhabited MapSM:=⟨⟨[],0,0,0,0⟩⟩
structure MapIS where
  key:Int
  v:ZB
instance:Inhabited MapIS:=⟨⟨0,[]⟩⟩
def KT:Nat->Type
  | 0=>UInt8
  | 1=>Int
  | 2=>ZB
  | 3=>Bool
  | 4=>Sign
  | 7=>Staff
  | 8=>Page
  | 23=>MapSM
  | 24=>MapIS
  | _=>Unit
def zx3:(c:Nat)->KT c
  | 0=>(default:UInt8)
  | 1=>(default:Int)
  | 2=>(default:ZB)
  | 3=>(default:Bool)
  | 4=>(default:Sign)
  | 5=>()
  | 6=>()
  | 7=>(default:Staff)
  | 8=>(default:Page)
  | 9=>()
  | 10=>()
  | 11=>()
  | 12=>()
  | 13=>()
  | 14=>()
  | 15=>()
  | 16=>()
  | 17=>()
  | 18=>()
  | 19=>()
  | 20=>()
  | 21=>()
  | 22=>()
  | 23=>(default:MapSM)
  | 24=>(default:MapIS)
  | _+25=>()
def qdt:(c:Nat)->KT c->List (PV KT)
  | 0,n=>[.int .u8 none ((UInt8.toNat n:Nat):Int)]
  | 1,x=>[.int .i64 none x]
  | 2,x=>[.str x]
  | 3,x=>[.sb 0 false x (x=true) (x=false)]
  | 4,x=>[.int .i64 none (Sign.Kind x),.int .i64 none (Sign.Value x),.int .i64 none (Sign.Place x),.int .i64 none (Sign.Acc x),.sb 0 false (Sign.Color x) (Sign.Color x=true) (Sign.Color x=false),.int .i64 none (Sign.Stem x),.sb 0 false (Sign.Oblique x) (Sign.Oblique x=true) (Sign.Oblique x=false),.sb 0 false (Sign.Last x) (Sign.Last x=true) (Sign.Last x=false),.int .i64 none (Sign.MensMax x),.int .i64 none (Sign.MensMod x),.int .i64 none (Sign.MensTem x),.int .i64 none (Sign.MensPro x),.sb 0 false (Sign.Stroke x) (Sign.Stroke x=true) (Sign.Stroke x=false),.int .i64 none (Sign.N x),.int .i64 none (Sign.D x),.int .i64 none (Sign.ClefStep x),.int .i64 none (Sign.ClefLine x)]
  | 5,_=>[]
  | 6,_=>[]
  | 7,x=>[.list 4 (Staff.Signs x) none,.int .i64 none (Staff.Lead x),.sb 0 false (Staff.Catch x) (Staff.Catch x=true) (Staff.Catch x=false),.int .i64 none (Staff.Custos x)]
  | 8,x=>[.list 7 (Page.Staves x) none]
  | 9,_=>[]
  | 10,_=>[]
  | 11,_=>[]
  | 12,_=>[]
  | 13,_=>[]
  | 14,_=>[]
  | 15,_=>[]
  | 16,_=>[]
  | 17,_=>[]
  | 18,_=>[]
  | 19,_=>[]
  | 20,_=>[]
  | 21,_=>[]
  | 22,_=>[]
  | 23,x=>[.str (MapSM.key x),.int .i64 none (MapSM.vMax x),.int .i64 none (MapSM.vMod x),.int .i64 none (MapSM.vTem x),.int .i64 none (MapSM.vPro x)]
  | 24,x=>[.int .i64 none (MapIS.key x),.str (MapIS.v x)]
  | _+25,_=>[]
def znv (cs:List (PV KT)):Option (Prop×UInt8):=match cs with
  | [p]=>(qju .u8 p).map λn=>(0<=n/\n<=255,UInt8.ofNat (Int.toNat n))
  | _=>none
def znx (cs:List (PV KT)):Option (Prop×Int):=match cs with
  | [a]=>(qju .i64 a).bind λb=>some (True,b)
  | _=>none
def znz (cs:List (PV KT)):Option (Prop×ZB):=match cs with
  | [a]=>(zl5 a).bind λb=>some (True,b)
  | _=>none
def zn1 (cs:List (PV KT)):Option (Prop×Bool):=match cs with
  | [a]=>(q8v a).bind λb=>some (True,b)
  | _=>none
def zn3 (cs:List (PV KT)):Option (Prop×Sign):=match cs with
  | [o,p1,p2,p,q,r,s,t,u,v,a,b,c,d,e,f,g]=>(qju .i64 o).bind λw=>(qju .i64 p1).bind λx=>(qju .i64 p2).bind λy=>(qju .i64 p).bind λz=>(q8v q).bind λA=>(qju .i64 r).bind λB=>(q8v s).bind λC=>(q8v t).bind λD=>(qju .i64 u).bind λE=>(qju .i64 v).bind λF=>(qju .i64 a).bind λh=>(qju .i64 b).bind λi=>(q8v c).bind λj=>(qju .i64 d).bind λk=>(qju .i64 e).bind λl=>(qju .i64 f).bind λm=>(qju .i64 g).bind λn=>some (True,Sign.mk w x y z A B C D E F h i j k l m n)
  | _=>none
def zn5 (cs:List (PV KT)):Option (Prop×Staff):=match cs with
  | [a,p1,p2,b]=>(zrn (K:=KT) 4 a).bind λc=>(qju .i64 p1).bind λd=>(q8v p2).bind λe=>(qju .i64 b).bind λf=>some (True,Staff.mk c d e f)
  | _=>none
def zn7 (cs:List (PV KT)):Option (Prop×Page):=match cs with
  | [a]=>(zrn (K:=KT) 7 a).bind λb=>some (True,Page.mk b)
  | _=>none
def zcp (cs:List (PV KT)):Option (Prop×MapSM):=match cs with
  | [a,p1,p2,b,c]=>(zl5 a).bind λd=>(qju .i64 p1).bind λe=>(qju .i64 p2).bind λf=>(qju .i64 b).bind λg=>(qju .i64 c).bind λh=>some (True,MapSM.mk d e f g h)
  | _=>none
def zcq (cs:List (PV KT)):Option (Prop×MapIS):=match cs with
  | [a,p1]=>(qju .i64 a).bind λb=>(zl5 p1).bind λc=>some (True,MapIS.mk b c)
  | _=>none
def zza:(c:Nat)->List (PV KT)->Option (Prop×KT c)
  | 0,cs=>znv cs
  | 1,cs=>znx cs
  | 2,cs=>znz cs
  | 3,cs=>zn1 cs
  | 4,cs=>zn3 cs
  | 5,_=>none
  | 6,_=>none
  | 7,cs=>zn5 cs
  | 8,cs=>zn7 cs
  | 9,_=>none
  | 10,_=>none
  | 11,_=>none
  | 12,_=>none
  | 13,_=>none
  | 14,_=>none
  | 15,_=>none
  | 16,_=>none
  | 17,_=>none
  | 18,_=>none
  | 19,_=>none
  | 20,_=>none
  | 21,_=>none
  | 22,_=>none
  | 23,cs=>zcp cs
  | 24,cs=>zcq cs
  | _+25,_=>none
def XK:Codecs KT:={dflt:=zx3,u8:=rfl,cells:=qdt,pack:=zza}
def qmc (l:List MapSM) (y:MapSM):MapSM:=q1s XK 23 1 l y
def qzc (l:List MapSM) (y:MapSM):Bool:=qrr XK 23 1 l y
def qac (l:List MapSM) (y:MapSM):List MapSM:=q0e XK 23 1 l y
def qhd (l:List MapIS) (y:MapIS):MapIS:=q1s XK 24 1 l y
def zz5 (l:List MapIS) (y:MapIS):Bool:=qrr XK 24 1 l y
def qig (l:List MapIS) (y:MapIS):List MapIS:=q0e XK 24 1 l y
def szK:Nat->Nat
  | 0=>1
  | 1=>1
  | 2=>1
  | 3=>1
  | 4=>17
  | 7=>4
  | 8=>1
  | 23=>5
  | 24=>2
  | _=>0
theorem zz6:∀ c x,(XK.cells c x).length=szK c
  | 0,x=>rfl
  | 1,x=>rfl
  | 2,x=>rfl
  | 3,x=>rfl
  | 4,x=>rfl
  | 5,x=>rfl
  | 6,x=>rfl
  | 7,x=>rfl
  | 8,x=>rfl
  | 9,x=>rfl
  | 10,x=>rfl
  | 11,x=>rfl
  | 12,x=>rfl
  | 13,x=>rfl
  | 14,x=>rfl
  | 15,x=>rfl
  | 16,x=>rfl
  | 17,x=>rfl
  | 18,x=>rfl
  | 19,x=>rfl
  | 20,x=>rfl
  | 21,x=>rfl
  | 22,x=>rfl
  | 23,x=>rfl
  | 24,x=>rfl
  | _+25,x=>rfl
theorem z0k:∀ c x,(XK.cells c x).all jn=true
  | 0,x=>rfl
  | 1,x=>rfl
  | 2,x=>rfl
  | 3,x=>rfl
  | 4,x=>rfl
  | 5,x=>rfl
  | 6,x=>rfl
  | 7,x=>rfl
  | 8,x=>rfl
  | 9,x=>rfl
  | 10,x=>rfl
  | 11,x=>rfl
  | 12,x=>rfl
  | 13,x=>rfl
  | 14,x=>rfl
  | 15,x=>rfl
  | 16,x=>rfl
  | 17,x=>rfl
  | 18,x=>rfl
  | 19,x=>rfl
  | 20,x=>rfl
  | 21,x=>rfl
  | 22,x=>rfl
  | 23,x=>rfl
  | 24,x=>rfl
  | _+25,x=>rfl
theorem zwq:∀ c x p,p ∈ XK.cells c x->Plain p
  | 0,x,p,h=>za (ps:=qdt 0 x) rfl p h
  | 1,x,p,h=>za (ps:=qdt 1 x) rfl p h
  | 2,x,p,h=>za (ps:=qdt 2 x) rfl p h
  | 3,x,p,h=>za (ps:=qdt 3 x) rfl p h
  | 4,x,p,h=>za (ps:=qdt 4 x) rfl p h
  | 5,x,p,h=>by cases h
  | 6,x,p,h=>by cases h
  | 7,x,p,h=>za (ps:=qdt 7 x) rfl p h
  | 8,x,p,h=>za (ps:=qdt 8 x) rfl p h
  | 9,x,p,h=>by cases h
  | 10,x,p,h=>by cases h
  | 11,x,p,h=>by cases h
  | 12,x,p,h=>by cases h
  | 13,x,p,h=>by cases h
  | 14,x,p,h=>by cases h
  | 15,x,p,h=>by cases h
  | 16,x,p,h=>by cases h
  | 17,x,p,h=>by cases h
  | 18,x,p,h=>by cases h
  | 19,x,p,h=>by cases h
  | 20,x,p,h=>by cases h
  | 21,x,p,h=>by cases h
  | 22,x,p,h=>by cases h
  | 23,x,p,h=>za (ps:=qdt 23 x) rfl p h
  | 24,x,p,h=>za (ps:=qdt 24 x) rfl p h
  | _+25,x,p,h=>by cases h
theorem znw (cs:List (PV KT)) (pre:Prop) (x:UInt8) (h:znv cs=some (pre,x)) (c:pre) (w:Wd) (a:List V) (r:qj XK szK w cs a):qj XK szK w (qdt 0 x) a:=by
  unfold znv at h;split at h
  . obtain ⟨n,d,b⟩:=zM.1 h
    simp only [zP] at b;obtain ⟨rfl,rfl⟩:=b;refine zw (λv f=>?_) (λus g=>g) r;have:=jy d f;have e:((UInt8.toNat (UInt8.ofNat (Int.toNat n)):Nat):Int)=n:=by
      obtain ⟨i,j⟩:=c;have:(UInt8.ofNat (Int.toNat n)).toNat=Int.toNat n:=by
        rw [UInt8.toNat_ofNat'];exact Nat.mod_eq_of_lt (by omega)
      rw [this];omega
    show Rep XK szK w (.int .u8 none ((UInt8.toNat (UInt8.ofNat (Int.toNat n)):Nat):Int)) v;rw [e];exact this
  . cases h
theorem zny (cs:List (PV KT)) (pre:Prop) (x:Int) (h:znx cs=some (pre,x)) (e:pre) (w:Wd) (a:List V) (r:qj XK szK w cs a):qj XK szK w (qdt 1 x) a:=by
  unfold znx at h;split at h
  . obtain ⟨f,b,h⟩:=zI.1 h
    cases h;exact zw (λv c=>jy b c) (λus d=>d) r
  . cases h
theorem zn0 (cs:List (PV KT)) (pre:Prop) (x:ZB) (h:znz cs=some (pre,x)) (e:pre) (w:Wd) (a:List V) (r:qj XK szK w cs a):qj XK szK w (qdt 2 x) a:=by
  unfold znz at h;split at h
  . obtain ⟨f,b,h⟩:=zI.1 h
    cases h;exact zw (λv c=>qy6 b c) (λus d=>d) r
  . cases h
theorem zn2 (cs:List (PV KT)) (pre:Prop) (x:Bool) (h:zn1 cs=some (pre,x)) (e:pre) (w:Wd) (a:List V) (r:qj XK szK w cs a):qj XK szK w (qdt 3 x) a:=by
  unfold zn1 at h;split at h
  . obtain ⟨f,b,h⟩:=zI.1 h
    cases h;exact zw (λv c=>qmw b c) (λus d=>d) r
  . cases h
theorem zn4 (cs:List (PV KT)) (pre:Prop) (x:Sign) (h:zn3 cs=some (pre,x)) (G:pre) (w:Wd) (k:List V) (r:qj XK szK w cs k):qj XK szK w (qdt 4 x) k:=by
  unfold zn3 at h;split at h
  . obtain ⟨H,l,h⟩:=zI.1 h
    obtain ⟨I,m,h⟩:=zI.1 h;obtain ⟨J,n,h⟩:=zI.1 h;obtain ⟨K,o,h⟩:=zI.1 h;obtain ⟨L,p,h⟩:=zI.1 h;obtain ⟨M,q,h⟩:=zI.1 h;obtain ⟨N,s,h⟩:=zI.1 h;obtain ⟨O,t,h⟩:=zI.1 h;obtain ⟨P,u,h⟩:=zI.1 h;obtain ⟨Q,y,h⟩:=zI.1 h;obtain ⟨z,c,h⟩:=zI.1 h;obtain ⟨A,d,h⟩:=zI.1 h;obtain ⟨B,e,h⟩:=zI.1 h;obtain ⟨C,f,h⟩:=zI.1 h;obtain ⟨D,g,h⟩:=zI.1 h;obtain ⟨E,i,h⟩:=zI.1 h;obtain ⟨F,j,h⟩:=zI.1 h;cases h;exact zw (λv a=>jy l a) (λus b=>zw (λv a=>jy m a) (λus b=>zw (λv a=>jy n a) (λus b=>zw (λv a=>jy o a) (λus b=>zw (λv a=>qmw p a) (λus b=>zw (λv a=>jy q a) (λus b=>zw (λv a=>qmw s a) (λus b=>zw (λv a=>qmw t a) (λus b=>zw (λv a=>jy u a) (λus b=>zw (λv a=>jy y a) (λus b=>zw (λv a=>jy c a) (λus b=>zw (λv a=>jy d a) (λus b=>zw (λv a=>qmw e a) (λus b=>zw (λv a=>jy f a) (λus b=>zw (λv a=>jy g a) (λus b=>zw (λv a=>jy i a) (λus b=>zw (λv a=>jy j a) (λus b=>b) b) b) b) b) b) b) b) b) b) b) b) b) b) b) b) b) r
  . cases h
theorem zn6 (cs:List (PV KT)) (pre:Prop) (x:Staff) (h:zn5 cs=some (pre,x)) (i:pre) (w:Wd) (c:List V) (r:qj XK szK w cs c):qj XK szK w (qdt 7 x) c:=by
  unfold zn5 at h;split at h
  . obtain ⟨j,d,h⟩:=zI.1 h
    obtain ⟨k,e,h⟩:=zI.1 h;obtain ⟨l,f,h⟩:=zI.1 h;obtain ⟨m,g,h⟩:=zI.1 h;cases h;exact zw (λv a=>q28 d a) (λus b=>zw (λv a=>jy e a) (λus b=>zw (λv a=>qmw f a) (λus b=>zw (λv a=>jy g a) (λus b=>b) b) b) b) r
  . cases h
theorem zn8 (cs:List (PV KT)) (pre:Prop) (x:Page) (h:zn7 cs=some (pre,x)) (e:pre) (w:Wd) (a:List V) (r:qj XK szK w cs a):qj XK szK w (qdt 8 x) a:=by
  unfold zn7 at h;split at h
  . obtain ⟨f,b,h⟩:=zI.1 h
    cases h;exact zw (λv c=>q28 b c) (λus d=>d) r
  . cases h
theorem zis (cs:List (PV KT)) (pre:Prop) (x:MapSM) (h:zcp cs=some (pre,x)) (j:pre) (w:Wd) (c:List V) (r:qj XK szK w cs c):qj XK szK w (qdt 23 x) c:=by
  unfold zcp at h;split at h
  . obtain ⟨k,d,h⟩:=zI.1 h
    obtain ⟨l,e,h⟩:=zI.1 h;obtain ⟨m,f,h⟩:=zI.1 h;obtain ⟨n,g,h⟩:=zI.1 h;obtain ⟨o,i,h⟩:=zI.1 h;cases h;exact zw (λv a=>qy6 d a) (λus b=>zw (λv a=>jy e a) (λus b=>zw (λv a=>jy f a) (λus b=>zw (λv a=>jy g a) (λus b=>zw (λv a=>jy i a) (λus b=>b) b) b) b) b) r
  . cases h
theorem zit (cs:List (PV KT)) (pre:Prop) (x:MapIS) (h:zcq cs=some (pre,x)) (f:pre) (w:Wd) (c:List V) (r:qj XK szK w cs c):qj XK szK w (qdt 24 x) c:=by
  unfold zcq at h;split at h
  . obtain ⟨g,d,h⟩:=zI.1 h
    obtain ⟨i,e,h⟩:=zI.1 h;cases h;exact zw (λv a=>jy d a) (λus b=>zw (λv a=>qy6 e a) (λus b=>b) b) r
  . cases h
theorem zwp:∀ c cs pre x,XK.pack c cs=some (pre,x)->pre->∀ w a,qj XK szK w cs a->qj XK szK w (XK.cells c x) a
  | 0,cs,pre,x,h,b,w,a,r=>znw cs pre x h b w a r
  | 1,cs,pre,x,h,b,w,a,r=>zny cs pre x h b w a r
  | 2,cs,pre,x,h,b,w,a,r=>zn0 cs pre x h b w a r
  | 3,cs,pre,x,h,b,w,a,r=>zn2 cs pre x h b w a r
  | 4,cs,pre,x,h,b,w,a,r=>zn4 cs pre x h b w a r
  | 5,cs,pre,x,h,b,w,a,r=>by cases h
  | 6,cs,pre,x,h,b,w,a,r=>by cases h
  | 7,cs,pre,x,h,b,w,a,r=>zn6 cs pre x h b w a r
  | 8,cs,pre,x,h,b,w,a,r=>zn8 cs pre x h b w a r
  | 9,cs,pre,x,h,b,w,a,r=>by cases h
  | 10,cs,pre,x,h,b,w,a,r=>by cases h
  | 11,cs,pre,x,h,b,w,a,r=>by cases h
  | 12,cs,pre,x,h,b,w,a,r=>by cases h
  | 13,cs,pre,x,h,b,w,a,r=>by cases h
  | 14,cs,pre,x,h,b,w,a,r=>by cases h
  | 15,cs,pre,x,h,b,w,a,r=>by cases h
  | 16,cs,pre,x,h,b,w,a,r=>by cases h
  | 17,cs,pre,x,h,b,w,a,r=>by cases h
  | 18,cs,pre,x,h,b,w,a,r=>by cases h
  | 19,cs,pre,x,h,b,w,a,r=>by cases h
  | 20,cs,pre,x,h,b,w,a,r=>by cases h
  | 21,cs,pre,x,h,b,w,a,r=>by cases h
  | 22,cs,pre,x,h,b,w,a,r=>by cases h
  | 23,cs,pre,x,h,b,w,a,r=>zis cs pre x h b w a r
  | 24,cs,pre,x,h,b,w,a,r=>zit cs pre x h b w a r
  | _+25,cs,pre,x,h,b,w,a,r=>by cases h
end Go.Proofs.YtpdphcekmhajdaaGreatDoor
