/- THE TYPES of lists' elements, as Lean's own; their cells. Made by program (vc.py). -/
import Derived.Test.YtbopmiclcimjgaaGreatDoorM6
namespace Go.Proofs.YtbopmiclcimjgaaGreatDoor
open Go Go.E2 Go.E3
set_option maxRecDepth 100000
def KT:Nat->Type
  | 0=>UInt8
  | 1=>Int
  | _=>Unit
def q2n:(c:Nat)->KT c
  | 0=>(default:UInt8)
  | 1=>(default:Int)
  | _+2=>()
def qnc:(c:Nat)->KT c->List (PV KT)
  | 0,n=>[.int .u8 none ((UInt8.toNat n:Nat):Int)]
  | 1,x=>[.int .i64 none x]
  | _+2,_=>[]
def qzf (cs:List (PV KT)):Option (Prop×UInt8):=match cs with
  | [p]=>(q0g .u8 p).map fun n=>(0<=n/\n<=255,UInt8.ofNat (Int.toNat n))
  | _=>none
def qzh (cs:List (PV KT)):Option (Prop×Int):=match cs with
  | [p0]=>(q0g .i64 p0).bind fun a0=>some (True,a0)
  | _=>none
def q29:(c:Nat)->List (PV KT)->Option (Prop×KT c)
  | 0,cs=>qzf cs
  | 1,cs=>qzh cs
  | _+2,_=>none
def XK:Codecs KT:={dflt:=q2n,u8:=rfl,cells:=qnc,pack:=q29}
def szK:Nat->Nat
  | 0=>1
  | 1=>1
  | _=>0
theorem q3l:∀ c x,(XK.cells c x).length=szK c
  | 0,x=>rfl
  | 1,x=>rfl
  | _+2,x=>rfl
theorem q3n:∀ c x,(XK.cells c x).all kc=true
  | 0,x=>rfl
  | 1,x=>rfl
  | _+2,x=>rfl
theorem q2a:∀ c x p,p ∈ XK.cells c x->Plain p
  | 0,x,p,h=>qcx (ps:=qnc 0 x) rfl p h
  | 1,x,p,h=>qcx (ps:=qnc 1 x) rfl p h
  | _+2,x,p,h=>by cases h
theorem qzg (cs:List (PV KT)) (pre:Prop) (x:UInt8) (h:qzf cs=some (pre,x)) (hp:pre) (w:Wd) (vs:List V) (r:qh XK szK w cs vs):qh XK szK w (qnc 0 x) vs:=by
  unfold qzf at h
  split at h
  . obtain ⟨n,h0,h1⟩:=zM.1 h
    simp only [zP] at h1
    obtain ⟨rfl,rfl⟩:=h1
    refine qto (fun v hv=>?_) (fun us hr=>hr) r
    have:=qs0 h0 hv
    have e:((UInt8.toNat (UInt8.ofNat (Int.toNat n)):Nat):Int)=n:=by
      obtain ⟨h2,h3⟩:=hp
      have:(UInt8.ofNat (Int.toNat n)).toNat=Int.toNat n:=by
        rw [UInt8.toNat_ofNat']
        exact Nat.mod_eq_of_lt (by omega)
      rw [this]
      omega
    show Rep XK szK w (.int .u8 none ((UInt8.toNat (UInt8.ofNat (Int.toNat n)):Nat):Int)) v
    rw [e]
    exact this
  . cases h
theorem qzi (cs:List (PV KT)) (pre:Prop) (x:Int) (h:qzh cs=some (pre,x)) (hp:pre) (w:Wd) (vs:List V) (r:qh XK szK w cs vs):qh XK szK w (qnc 1 x) vs:=by
  unfold qzh at h
  split at h
  . obtain ⟨a0,h0,h⟩:=zI.1 h
    cases h
    exact qto (fun v hv=>qs0 h0 hv) (fun us hr=>hr) r
  . cases h
theorem q19:∀ c cs pre x,XK.pack c cs=some (pre,x)->pre->∀ w vs,qh XK szK w cs vs->qh XK szK w (XK.cells c x) vs
  | 0,cs,pre,x,h,hp,w,vs,r=>qzg cs pre x h hp w vs r
  | 1,cs,pre,x,h,hp,w,vs,r=>qzi cs pre x h hp w vs r
  | _+2,cs,pre,x,h,hp,w,vs,r=>by cases h
end Go.Proofs.YtbopmiclcimjgaaGreatDoor
