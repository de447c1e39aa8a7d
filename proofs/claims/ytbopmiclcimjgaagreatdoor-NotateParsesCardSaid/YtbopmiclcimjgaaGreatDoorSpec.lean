import Derived.Test.YtbopmiclcimjgaaGreatDoorNat
import Derived.Test.YtbopmiclcimjgaaGreatDoorM6
namespace Go.Proofs.YtbopmiclcimjgaaGreatDoor
open Go Go.E2 Go.E3
def j6 (b:Int):Int:=if b<32∨126<b then 120 else if b=32 then 32 else if b=34 then 113 else if b=59 then 99 else 112
def ke (b:Int):Bool:=decide (33<=b)&&decide (b<=126)&&!decide (b=59)&&!decide (b=34)
def zs (b:Int):Bool:=decide (32<=b)&&decide (b<=126)&&!decide (b=34)
def kg (b:Int):Bool:=decide (b=32)
def qmz (b:Int):Bool:=!decide (b=10)
def qaq (s:ZB):Bool:=s.all fun b=>zs b.toNat
theorem qll {b:Int}:ke b=true↔33<=b/\b<=126/\b≠59/\b≠34:=by simp [ke,and_assoc]
theorem q93 {b:Int}:ke b=false↔(b<33∨126<b∨b=59∨b=34):=by
 rw [<-Bool.not_eq_true,qll];omega
theorem qtw {b:Int}:zs b=true↔32<=b/\b<=126/\b≠34:=by simp [zs,and_assoc]
theorem qtx {b:Int}:zs b=false↔(b<32∨126<b∨b=34):=by
 rw [<-Bool.not_eq_true,qtw];omega
theorem qv4 {b:Int}:kg b=true↔b=32:=by simp [kg]
theorem q8x {b:Int}:kg b=false↔b≠32:=by simp [kg]
theorem q0q {b:Int}:qmz b=true↔b≠10:=by simp [qmz]
theorem q0r {b:Int}:qmz b=false↔b=10:=by simp [qmz]
theorem qu3 {b:Int}:j6 b=120↔b<32∨126<b:=by unfold j6;split<;>(try split)<;>(try split)<;>(try split)<;>omega
theorem qp3 {b:Int}:j6 b=113↔b=34:=by unfold j6;split<;>(try split)<;>(try split)<;>(try split)<;>omega
theorem za5 {b:Int}:j6 b=112↔ke b=true:=by rw [qll];unfold j6;split<;>(try split)<;>(try split)<;>(try split)<;>omega
theorem qj9 {s:ZB}:qaq s=true↔∀ i,0<=i->i<ln s->zs (bx s i)=true:=by
 simp only [qaq,List.all_eq_true]
 constructor
 .intro h i h0 h1
  exact h _ (qr6 h0 h1)
 .intro h b hb
  obtain ⟨i,h0,h1,rfl⟩:=q2u hb
  exact h i h0 h1
theorem qt9 {s:ZB} {i:Int} (h0:0<=i) (h1:i<ln s) (h:zs (bx s i)=false):qaq s=false:=by
 rw [<-Bool.not_eq_true,qj9]
 intro hq
 rw [hq i h0 h1] at h
 cases h
def q89 (l:ZB) (i:Int):Prop:=ln l<=i∨bx l i=32∨bx l i=59
instance (l:ZB) (i:Int):Decidable (q89 l i):=by unfold q89;infer_instance
def km (l:ZB) (a:Int):Int:=
 if (0<a/\bx l (a-1)≠32)∨ln l<=zg zs l (a+1)∨bx l (zg zs l (a+1))≠34∨¬ q89 l (zg zs l (a+1)+1) then -1 else zg zs l (a+1)+1
theorem qxs {l:ZB} {a:Int} (h0:0<=a) (h1:a<ln l):km l a = -1∨(a+2<=km l a/\km l a<=ln l):=by
 unfold km
 split
 .exact .inl rfl
 .have:=qbo (p:=zs) (s:=l) (i:=a+1)
  right;omega
def kb (l:ZB) (from_:Int) (i:Int):List Word×Int:=
 if ln l<=zg kg l i∨bx l (zg kg l i)=59 then ([],-1)
 else if bx l (zg kg l i)=34 then
  (if h:zg kg l i<km l (zg kg l i)/\km l (zg kg l i)<=ln l then
    (if (kb l from_ (km l (zg kg l i))).2<0 then (⟨from_+zg kg l i,sub l (zg kg l i+1) (km l (zg kg l i)-1),true⟩::(kb l from_ (km l (zg kg l i))).1,-1)
      else ([],(kb l from_ (km l (zg kg l i))).2)) else ([],zg kg l i))
 else if ke (bx l (zg kg l i))=true then
  (if h:zg kg l i<zg ke l (zg kg l i)/\zg ke l (zg kg l i)<=ln l then
    (if (kb l from_ (zg ke l (zg kg l i))).2<0 then (⟨from_+zg kg l i,sub l (zg kg l i) (zg ke l (zg kg l i)),false⟩::(kb l from_ (zg ke l (zg kg l i))).1,-1)
      else ([],(kb l from_ (zg ke l (zg kg l i))).2)) else ([],zg kg l i))
 else ([],zg kg l i)
 termination_by (ln l-i).toNat
 decreasing_by all_goals (have:=qbo (p:=kg) (s:=l) (i:=i);omega)
theorem zeg {l:ZB} {f x:Int} (h0:0<=x) (h1:x<ln l) (h:bx l x=32):kb l f x=kb l f (x+1):=by
 rw [kb,qb6 h0 h1 (qv4.2 h)]
 exact (kb.eq_1 l f (x+1)).symm
theorem qgu {l:ZB} {x:Int} (h:ln l<=x∨bx l x≠32):zg kg l x=x:=
 qbl (h.imp id fun h=>q8x.2 h)
theorem zmx {l:ZB} {f x:Int} (h:ln l<=x∨bx l x=59):kb l f x=([],-1):=by
 rw [kb,qgu (by omega),if_pos h]
theorem zmw {l:ZB} {f x:Int} (h1:x<ln l) (h2:bx l x≠59) (h:(bx l x=34/\km l x<0)∨(bx l x≠34/\bx l x≠32/\ke (bx l x)=false)) (h0:0<=x):kb l f x=([],x):=by
 rw [kb,qgu (by omega),if_neg (by omega)]
 rcases h with ⟨h3,h4⟩ | ⟨h3,h4,h5⟩
 .rw [if_pos h3,dif_neg (by omega)]
 .rw [if_neg h3,if_neg (by rw [h5];exact Bool.false_ne_true)]
theorem zei {l:ZB} {f x e:Int} (h0:0<=x) (h1:x<ln l) (h:bx l x=34) (he:km l x=e) (h3:0<=e) :
  kb l f x=if (kb l f e).2<0 then (⟨f+x,sub l (x+1) (e-1),true⟩::(kb l f e).1,-1) else ([],(kb l f e).2):=by
 have hb:=qxs h0 h1
 rw [kb,qgu (by omega),if_neg (by omega),if_pos h,he,dif_pos (by omega)]
theorem zeh {l:ZB} {f x e:Int} (h0:0<=x) (h1:x<ln l) (h:ke (bx l x)=true) (he:zg ke l x=e) :
  kb l f x=if (kb l f e).2<0 then (⟨f+x,sub l x e,false⟩::(kb l f e).1,-1) else ([],(kb l f e).2):=by
 have hp:=qll.1 h
 have h2:=qb6 h0 h1 h
 have h3:=qbo (p:=ke) (s:=l) (i:=x+1)
 have h4:=qez (p:=ke) (s:=l) (i:=x) (by omega)
 rw [kb,qgu (by omega),if_neg (by omega),if_neg (by omega),if_pos h,he,dif_pos (by omega)]
def qay:List ZB->Int->List Row×Int×Int
 | [],_=>([],0,0)
 | l::ls,at_=>
  if 1000<ln l then ([],4,at_)
  else if 0<=(kb l at_ 0).2 then ([],3,at_+(kb l at_ 0).2)
  else if (qay ls (at_+ln l+1)).2.1=0 then (if (kb l at_ 0).1=[] then (qay ls (at_+ln l+1)).1 else ⟨at_,(kb l at_ 0).1⟩::(qay ls (at_+ln l+1)).1,0,0)
  else ([],(qay ls (at_+ln l+1)).2)
def qa (text:ZB):List Row×Int×Int:=if 20000<ln text then ([],4,20000) else qay (qz 10 text) 0
end Go.Proofs.YtbopmiclcimjgaaGreatDoor
