import Derived.Test.YtpgchdcifbaioaaGreatDoorM5
namespace Go.Proofs.YtpgchdcifbaioaaGreatDoor
open Go Go.E2 Go.E3
set_option maxRecDepth 100000
structure Sign where
  Kind:Int
  Value:Int
  Place:Int
  Acc:Int
  Color:Bool
  Stem:Int
  Oblique:Bool
  Last:Bool
  MensMax:Int
  MensMod:Int
  MensTem:Int
  MensPro:Int
  Stroke:Bool
  N:Int
  D:Int
  ClefStep:Int
  ClefLine:Int
instance:Inhabited Sign:=⟨⟨0,0,0,0,false,0,false,false,0,0,0,0,false,0,0,0,0⟩⟩
structure Staff where
  Signs:List Sign
  Lead:Int
  Catch:Bool
  Custos:Int
instance:Inhabited Staff:=⟨⟨[],0,false,0⟩⟩
structure Page where
  Staves:List Staff
instance:Inhabited Page:=⟨⟨[]⟩⟩
structure Group where
  fro:Int
  to:Int
instance:Inhabited Group:=⟨⟨0,0⟩⟩
structure MapSM where
  key:ZB
  vMax:Int
  vMod:Int
  vTem:Int
  vPro:Int
instance:Inhabited MapSM:=⟨⟨[],0,0,0,0⟩⟩
structure MapIS where
  key:Int
  v:ZB
instance:Inhabited MapIS:=⟨⟨0,[]⟩⟩
def KT:Nat->Type
  | 0=>UInt8
  | 1=>Int
  | 2=>ZB
  | 3=>Bool
  | 4=>Sign
  | 7=>Staff
  | 8=>Page
  | 10=>Group
  | 23=>MapSM
  | 24=>MapIS
  | _=>Unit
def z6j:(c:Nat)->KT c
  | 0=>(default:UInt8)
  | 1=>(default:Int)
  | 2=>(default:ZB)
  | 3=>(default:Bool)
  | 4=>(default:Sign)
  | 5=>()
  | 6=>()
  | 7=>(default:Staff)
  | 8=>(default:Page)
  | 9=>()
  | 10=>(default:Group)
  | 11=>()
  | 12=>()
  | 13=>()
  | 14=>()
  | 15=>()
  | 16=>()
  | 17=>()
  | 18=>()
  | 19=>()
  | 20=>()
  | 21=>()
  | 22=>()
  | 23=>(default:MapSM)
  | 24=>(default:MapIS)
  | _+25=>()
def qdo:(c:Nat)->KT c->List (PV KT)
  | 0,n=>[.int .u8 none ((UInt8.toNat n:Nat):Int)]
  | 1,x=>[.int .i64 none x]
  | 2,x=>[.str x]
  | 3,x=>[.sb 0 false x (x=true) (x=false)]
  | 4,x=>[.int .i64 none (Sign.Kind x),.int .i64 none (Sign.Value x),.int .i64 none (Sign.Place x),.int .i64 none (Sign.Acc x),.sb 0 false (Sign.Color x) (Sign.Color x=true) (Sign.Color x=false),.int .i64 none (Sign.Stem x),.sb 0 false (Sign.Oblique x) (Sign.Oblique x=true) (Sign.Oblique x=false),.sb 0 false (Sign.Last x) (Sign.Last x=true) (Sign.Last x=false),.int .i64 none (Sign.MensMax x),.int .i64 none (Sign.MensMod x),.int .i64 none (Sign.MensTem x),.int .i64 none (Sign.MensPro x),.sb 0 false (Sign.Stroke x) (Sign.Stroke x=true) (Sign.Stroke x=false),.int .i64 none (Sign.N x),.int .i64 none (Sign.D x),.int .i64 none (Sign.ClefStep x),.int .i64 none (Sign.ClefLine x)]
  | 5,_=>[]
  | 6,_=>[]
  | 7,x=>[.list 4 (Staff.Signs x) none,.int .i64 none (Staff.Lead x),.sb 0 false (Staff.Catch x) (Staff.Catch x=true) (Staff.Catch x=false),.int .i64 none (Staff.Custos x)]
  | 8,x=>[.list 7 (Page.Staves x) none]
  | 9,_=>[]
  | 10,x=>[.int .i64 none (Group.fro x),.int .i64 none (Group.to x)]
  | 11,_=>[]
  | 12,_=>[]
  | 13,_=>[]
  | 14,_=>[]
  | 15,_=>[]
  | 16,_=>[]
  | 17,_=>[]
  | 18,_=>[]
  | 19,_=>[]
  | 20,_=>[]
  | 21,_=>[]
  | 22,_=>[]
  | 23,x=>[.str (MapSM.key x),.int .i64 none (MapSM.vMax x),.int .i64 none (MapSM.vMod x),.int .i64 none (MapSM.vTem x),.int .i64 none (MapSM.vPro x)]
  | 24,x=>[.int .i64 none (MapIS.key x),.str (MapIS.v x)]
  | _+25,_=>[]
def zu8 (cs:List (PV KT)):Option (Prop×UInt8):=match cs with
  | [p]=>(qjs .u8 p).map λn=>(0<=n/\n<=255,UInt8.ofNat (Int.toNat n))
  | _=>none
def zva (cs:List (PV KT)):Option (Prop×Int):=match cs with
  | [a]=>(qjs .i64 a).bind λb=>some (True,b)
  | _=>none
def zvc (cs:List (PV KT)):Option (Prop×ZB):=match cs with
  | [a]=>(ztd a).bind λb=>some (True,b)
  | _=>none
def zve (cs:List (PV KT)):Option (Prop×Bool):=match cs with
  | [a]=>(zcr a).bind λb=>some (True,b)
  | _=>none
def zvg (cs:List (PV KT)):Option (Prop×Sign):=match cs with
  | [o,p1,p2,p,q,r,s,t,u,v,a,b,c,d,e,f,g]=>(qjs .i64 o).bind λw=>(qjs .i64 p1).bind λx=>(qjs .i64 p2).bind λy=>(qjs .i64 p).bind λa3=>(zcr q).bind λz=>(qjs .i64 r).bind λA=>(zcr s).bind λB=>(zcr t).bind λC=>(qjs .i64 u).bind λD=>(qjs .i64 v).bind λE=>(qjs .i64 a).bind λh=>(qjs .i64 b).bind λi=>(zcr c).bind λj=>(qjs .i64 d).bind λk=>(qjs .i64 e).bind λl=>(qjs .i64 f).bind λm=>(qjs .i64 g).bind λn=>some (True,Sign.mk w x y a3 z A B C D E h i j k l m n)
  | _=>none
def zvi (cs:List (PV KT)):Option (Prop×Staff):=match cs with
  | [a,p1,p2,b]=>(zzl (K:=KT) 4 a).bind λc=>(qjs .i64 p1).bind λd=>(zcr p2).bind λe=>(qjs .i64 b).bind λa3=>some (True,Staff.mk c d e a3)
  | _=>none
def zvk (cs:List (PV KT)):Option (Prop×Page):=match cs with
  | [a]=>(zzl (K:=KT) 7 a).bind λb=>some (True,Page.mk b)
  | _=>none
def zhq (cs:List (PV KT)):Option (Prop×Group):=match cs with
  | [a,p1]=>(qjs .i64 a).bind λb=>(qjs .i64 p1).bind λc=>some (True,Group.mk b c)
  | _=>none
def zhr (cs:List (PV KT)):Option (Prop×MapSM):=match cs with
  | [a,p1,p2,b,c]=>(ztd a).bind λd=>(qjs .i64 p1).bind λe=>(qjs .i64 p2).bind λf=>(qjs .i64 b).bind λa3=>(qjs .i64 c).bind λg=>some (True,MapSM.mk d e f a3 g)
  | _=>none
def zhs (cs:List (PV KT)):Option (Prop×MapIS):=match cs with
  | [a,p1]=>(qjs .i64 a).bind λb=>(ztd p1).bind λc=>some (True,MapIS.mk b c)
  | _=>none
def z7r:(c:Nat)->List (PV KT)->Option (Prop×KT c)
  | 0,cs=>zu8 cs
  | 1,cs=>zva cs
  | 2,cs=>zvc cs
  | 3,cs=>zve cs
  | 4,cs=>zvg cs
  | 5,_=>none
  | 6,_=>none
  | 7,cs=>zvi cs
  | 8,cs=>zvk cs
  | 9,_=>none
  | 10,cs=>zhq cs
  | 11,_=>none
  | 12,_=>none
  | 13,_=>none
  | 14,_=>none
  | 15,_=>none
  | 16,_=>none
  | 17,_=>none
  | 18,_=>none
  | 19,_=>none
  | 20,_=>none
  | 21,_=>none
  | 22,_=>none
  | 23,cs=>zhr cs
  | 24,cs=>zhs cs
  | _+25,_=>none
def XK:Codecs KT:={dflt:=z6j,u8:=rfl,cells:=qdo,pack:=z7r}
def qs9 (l:List MapSM) (y:MapSM):MapSM:=q4v XK 23 1 l y
def q1v (l:List MapSM) (y:MapSM):Bool:=qtc XK 23 1 l y
def qa4 (l:List MapSM) (y:MapSM):List MapSM:=q2y XK 23 1 l y
def qhx (l:List MapIS) (y:MapIS):MapIS:=q4v XK 24 1 l y
def z8v (l:List MapIS) (y:MapIS):Bool:=qtc XK 24 1 l y
def qi0 (l:List MapIS) (y:MapIS):List MapIS:=q2y XK 24 1 l y
def szK:Nat->Nat
  | 0=>1
  | 1=>1
  | 2=>1
  | 3=>1
  | 4=>17
  | 7=>4
  | 8=>1
  | 10=>2
  | 23=>5
  | 24=>2
  | _=>0
theorem z81:∀ c x,(XK.cells c x).length=szK c
  | 0,x=>rfl
  | 1,x=>rfl
  | 2,x=>rfl
  | 3,x=>rfl
  | 4,x=>rfl
  | 5,x=>rfl
  | 6,x=>rfl
  | 7,x=>rfl
  | 8,x=>rfl
  | 9,x=>rfl
  | 10,x=>rfl
  | 11,x=>rfl
  | 12,x=>rfl
  | 13,x=>rfl
  | 14,x=>rfl
  | 15,x=>rfl
  | 16,x=>rfl
  | 17,x=>rfl
  | 18,x=>rfl
  | 19,x=>rfl
  | 20,x=>rfl
  | 21,x=>rfl
  | 22,x=>rfl
  | 23,x=>rfl
  | 24,x=>rfl
  | _+25,x=>rfl
theorem z9e:∀ c x,(XK.cells c x).all qa2=true
  | 0,x=>rfl
  | 1,x=>rfl
  | 2,x=>rfl
  | 3,x=>rfl
  | 4,x=>rfl
  | 5,x=>rfl
  | 6,x=>rfl
  | 7,x=>rfl
  | 8,x=>rfl
  | 9,x=>rfl
  | 10,x=>rfl
  | 11,x=>rfl
  | 12,x=>rfl
  | 13,x=>rfl
  | 14,x=>rfl
  | 15,x=>rfl
  | 16,x=>rfl
  | 17,x=>rfl
  | 18,x=>rfl
  | 19,x=>rfl
  | 20,x=>rfl
  | 21,x=>rfl
  | 22,x=>rfl
  | 23,x=>rfl
  | 24,x=>rfl
  | _+25,x=>rfl
theorem z41:∀ c x p,p ∈ XK.cells c x->Plain p
  | 0,x,p,h=>qf (ps:=qdo 0 x) rfl p h
  | 1,x,p,h=>qf (ps:=qdo 1 x) rfl p h
  | 2,x,p,h=>qf (ps:=qdo 2 x) rfl p h
  | 3,x,p,h=>qf (ps:=qdo 3 x) rfl p h
  | 4,x,p,h=>qf (ps:=qdo 4 x) rfl p h
  | 5,x,p,h=>by cases h
  | 6,x,p,h=>by cases h
  | 7,x,p,h=>qf (ps:=qdo 7 x) rfl p h
  | 8,x,p,h=>qf (ps:=qdo 8 x) rfl p h
  | 9,x,p,h=>by cases h
  | 10,x,p,h=>qf (ps:=qdo 10 x) rfl p h
  | 11,x,p,h=>by cases h
  | 12,x,p,h=>by cases h
  | 13,x,p,h=>by cases h
  | 14,x,p,h=>by cases h
  | 15,x,p,h=>by cases h
  | 16,x,p,h=>by cases h
  | 17,x,p,h=>by cases h
  | 18,x,p,h=>by cases h
  | 19,x,p,h=>by cases h
  | 20,x,p,h=>by cases h
  | 21,x,p,h=>by cases h
  | 22,x,p,h=>by cases h
  | 23,x,p,h=>qf (ps:=qdo 23 x) rfl p h
  | 24,x,p,h=>qf (ps:=qdo 24 x) rfl p h
  | _+25,x,p,h=>by cases h
theorem zu9 (cs:List (PV KT)) (pre:Prop) (x:UInt8) (h:zu8 cs=some (pre,x)) (c:pre) (w:Wd) (a:List V) (r:qu XK szK w cs a):qu XK szK w (qdo 0 x) a:=by
  unfold zu8 at h;split at h
  . obtain ⟨n,d,b⟩:=zM.1 h
    simp only [zP] at b;obtain ⟨rfl,rfl⟩:=b;refine z6 (λv f=>?_) (λus g=>g) r;have:=qad d f;have e:((UInt8.toNat (UInt8.ofNat (Int.toNat n)):Nat):Int)=n:=by
      obtain ⟨i,j⟩:=c;have:(UInt8.ofNat (Int.toNat n)).toNat=Int.toNat n:=by
        rw [UInt8.toNat_ofNat'];exact Nat.mod_eq_of_lt (by omega)
      rw [this];omega
    show Rep XK szK w (.int .u8 none ((UInt8.toNat (UInt8.ofNat (Int.toNat n)):Nat):Int)) v;rw [e];exact this
  . cases h
theorem zvb (cs:List (PV KT)) (pre:Prop) (x:Int) (h:zva cs=some (pre,x)) (e:pre) (w:Wd) (a:List V) (r:qu XK szK w cs a):qu XK szK w (qdo 1 x) a:=by
  unfold zva at h;split at h
  . obtain ⟨f,b,h⟩:=zI.1 h
    cases h;exact z6 (λv c=>qad b c) (λus d=>d) r
  . cases h
theorem zvd (cs:List (PV KT)) (pre:Prop) (x:ZB) (h:zvc cs=some (pre,x)) (e:pre) (w:Wd) (a:List V) (r:qu XK szK w cs a):qu XK szK w (qdo 2 x) a:=by
  unfold zvc at h;split at h
  . obtain ⟨f,b,h⟩:=zI.1 h
    cases h;exact z6 (λv c=>q1p b c) (λus d=>d) r
  . cases h
theorem zvf (cs:List (PV KT)) (pre:Prop) (x:Bool) (h:zve cs=some (pre,x)) (e:pre) (w:Wd) (a:List V) (r:qu XK szK w cs a):qu XK szK w (qdo 3 x) a:=by
  unfold zve at h;split at h
  . obtain ⟨f,b,h⟩:=zI.1 h
    cases h;exact z6 (λv c=>qn3 b c) (λus d=>d) r
  . cases h
theorem zvh (cs:List (PV KT)) (pre:Prop) (x:Sign) (h:zvg cs=some (pre,x)) (G:pre) (w:Wd) (k:List V) (r:qu XK szK w cs k):qu XK szK w (qdo 4 x) k:=by
  unfold zvg at h;split at h
  . obtain ⟨H,l,h⟩:=zI.1 h
    obtain ⟨I,m,h⟩:=zI.1 h;obtain ⟨J,n,h⟩:=zI.1 h;obtain ⟨a3,o,h⟩:=zI.1 h;obtain ⟨K,p,h⟩:=zI.1 h;obtain ⟨L,q,h⟩:=zI.1 h;obtain ⟨M,s,h⟩:=zI.1 h;obtain ⟨N,t,h⟩:=zI.1 h;obtain ⟨O,u,h⟩:=zI.1 h;obtain ⟨P,y,h⟩:=zI.1 h;obtain ⟨z,c,h⟩:=zI.1 h;obtain ⟨A,d,h⟩:=zI.1 h;obtain ⟨B,e,h⟩:=zI.1 h;obtain ⟨C,f,h⟩:=zI.1 h;obtain ⟨D,g,h⟩:=zI.1 h;obtain ⟨E,i,h⟩:=zI.1 h;obtain ⟨F,j,h⟩:=zI.1 h;cases h;exact z6 (λv a=>qad l a) (λus b=>z6 (λv a=>qad m a) (λus b=>z6 (λv a=>qad n a) (λus b=>z6 (λv a=>qad o a) (λus b=>z6 (λv a=>qn3 p a) (λus b=>z6 (λv a=>qad q a) (λus b=>z6 (λv a=>qn3 s a) (λus b=>z6 (λv a=>qn3 t a) (λus b=>z6 (λv a=>qad u a) (λus b=>z6 (λv a=>qad y a) (λus b=>z6 (λv a=>qad c a) (λus b=>z6 (λv a=>qad d a) (λus b=>z6 (λv a=>qn3 e a) (λus b=>z6 (λv a=>qad f a) (λus b=>z6 (λv a=>qad g a) (λus b=>z6 (λv a=>qad i a) (λus b=>z6 (λv a=>qad j a) (λus b=>b) b) b) b) b) b) b) b) b) b) b) b) b) b) b) b) b) r
  . cases h
theorem zvj (cs:List (PV KT)) (pre:Prop) (x:Staff) (h:zvi cs=some (pre,x)) (i:pre) (w:Wd) (c:List V) (r:qu XK szK w cs c):qu XK szK w (qdo 7 x) c:=by
  unfold zvi at h;split at h
  . obtain ⟨j,d,h⟩:=zI.1 h
    obtain ⟨k,e,h⟩:=zI.1 h;obtain ⟨l,f,h⟩:=zI.1 h;obtain ⟨a3,g,h⟩:=zI.1 h;cases h;exact z6 (λv a=>q6g d a) (λus b=>z6 (λv a=>qad e a) (λus b=>z6 (λv a=>qn3 f a) (λus b=>z6 (λv a=>qad g a) (λus b=>b) b) b) b) r
  . cases h
theorem zvl (cs:List (PV KT)) (pre:Prop) (x:Page) (h:zvk cs=some (pre,x)) (e:pre) (w:Wd) (a:List V) (r:qu XK szK w cs a):qu XK szK w (qdo 8 x) a:=by
  unfold zvk at h;split at h
  . obtain ⟨f,b,h⟩:=zI.1 h
    cases h;exact z6 (λv c=>q6g b c) (λus d=>d) r
  . cases h
theorem zoj (cs:List (PV KT)) (pre:Prop) (x:Group) (h:zhq cs=some (pre,x)) (f:pre) (w:Wd) (c:List V) (r:qu XK szK w cs c):qu XK szK w (qdo 10 x) c:=by
  unfold zhq at h;split at h
  . obtain ⟨g,d,h⟩:=zI.1 h
    obtain ⟨i,e,h⟩:=zI.1 h;cases h;exact z6 (λv a=>qad d a) (λus b=>z6 (λv a=>qad e a) (λus b=>b) b) r
  . cases h
theorem zok (cs:List (PV KT)) (pre:Prop) (x:MapSM) (h:zhr cs=some (pre,x)) (j:pre) (w:Wd) (c:List V) (r:qu XK szK w cs c):qu XK szK w (qdo 23 x) c:=by
  unfold zhr at h;split at h
  . obtain ⟨k,d,h⟩:=zI.1 h
    obtain ⟨l,e,h⟩:=zI.1 h;obtain ⟨m,f,h⟩:=zI.1 h;obtain ⟨a3,g,h⟩:=zI.1 h;obtain ⟨n,i,h⟩:=zI.1 h;cases h;exact z6 (λv a=>q1p d a) (λus b=>z6 (λv a=>qad e a) (λus b=>z6 (λv a=>qad f a) (λus b=>z6 (λv a=>qad g a) (λus b=>z6 (λv a=>qad i a) (λus b=>b) b) b) b) b) r
  . cases h
theorem zol (cs:List (PV KT)) (pre:Prop) (x:MapIS) (h:zhs cs=some (pre,x)) (f:pre) (w:Wd) (c:List V) (r:qu XK szK w cs c):qu XK szK w (qdo 24 x) c:=by
  unfold zhs at h;split at h
  . obtain ⟨g,d,h⟩:=zI.1 h
    obtain ⟨i,e,h⟩:=zI.1 h;cases h;exact z6 (λv a=>qad d a) (λus b=>z6 (λv a=>q1p e a) (λus b=>b) b) r
  . cases h
theorem z4x:∀ c cs pre x,XK.pack c cs=some (pre,x)->pre->∀ w a,qu XK szK w cs a->qu XK szK w (XK.cells c x) a
  | 0,cs,pre,x,h,b,w,a,r=>zu9 cs pre x h b w a r
  | 1,cs,pre,x,h,b,w,a,r=>zvb cs pre x h b w a r
  | 2,cs,pre,x,h,b,w,a,r=>zvd cs pre x h b w a r
  | 3,cs,pre,x,h,b,w,a,r=>zvf cs pre x h b w a r
  | 4,cs,pre,x,h,b,w,a,r=>zvh cs pre x h b w a r
  | 5,cs,pre,x,h,b,w,a,r=>by cases h
  | 6,cs,pre,x,h,b,w,a,r=>by cases h
  | 7,cs,pre,x,h,b,w,a,r=>zvj cs pre x h b w a r
  | 8,cs,pre,x,h,b,w,a,r=>zvl cs pre x h b w a r
  | 9,cs,pre,x,h,b,w,a,r=>by cases h
  | 10,cs,pre,x,h,b,w,a,r=>zoj cs pre x h b w a r
  | 11,cs,pre,x,h,b,w,a,r=>by cases h
  | 12,cs,pre,x,h,b,w,a,r=>by cases h
  | 13,cs,pre,x,h,b,w,a,r=>by cases h
  | 14,cs,pre,x,h,b,w,a,r=>by cases h
  | 15,cs,pre,x,h,b,w,a,r=>by cases h
  | 16,cs,pre,x,h,b,w,a,r=>by cases h
  | 17,cs,pre,x,h,b,w,a,r=>by cases h
  | 18,cs,pre,x,h,b,w,a,r=>by cases h
  | 19,cs,pre,x,h,b,w,a,r=>by cases h
  | 20,cs,pre,x,h,b,w,a,r=>by cases h
  | 21,cs,pre,x,h,b,w,a,r=>by cases h
  | 22,cs,pre,x,h,b,w,a,r=>by cases h
  | 23,cs,pre,x,h,b,w,a,r=>zok cs pre x h b w a r
  | 24,cs,pre,x,h,b,w,a,r=>zol cs pre x h b w a r
  | _+25,cs,pre,x,h,b,w,a,r=>by cases h
end Go.Proofs.YtpgchdcifbaioaaGreatDoor
