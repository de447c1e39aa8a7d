/- CONDITIONS, as E3 computes them. Made by program (vc.py). -/
import Derived.Test.YtbopmiclcimjgaaGreatDoorCtsT
namespace Go.Proofs.YtbopmiclcimjgaaGreatDoor
open Go Go.E2 Go.E3
set_option maxRecDepth 100000
variable {sp:Nat->Option (List V->Heap->Option (CR×Heap))}

def q37:List (Nat×Ct KT):=[]
abbrev qtp (a0:List UInt8):PV KT:=.sb 0 false ((jb a0)) ((jb a0)=true) ((jb a0)=false)
abbrev qqf (a0:List UInt8):Prop:=
(((ln a0)=0->
(false=(jb a0))/\
 True))/\
((ln a0)≠0->
((20<(ln a0)->
(false=(jb a0))/\
  True))/\
((ln a0)<=20->
(Wn 0 (ln a0))/\
(((bx a0 0)<97->
(false=(jb a0))/\
   True))/\
(97<=(bx a0 0)->
(Wn 0 (ln a0))/\
((122<(bx a0 0)->
(false=(jb a0))/\
    True))/\
((bx a0 0)<=122->
(jz a0 0)/\
(∀ x4:Int,
(jz a0 x4->
((x4<(ln a0)->
(Wn x4 (ln a0))/\
(((bx a0 x4)<97->
(((bx a0 x4)<48->
(((bx a0 x4)≠45->
(false = (jb a0)) ∧
          True))/\
((bx a0 x4)=45->
(I64 (x4+1))/\
(jz a0 (x4+1))/\
 zw a0 (x4+1)<zw a0 x4)))/\
(48<=(bx a0 x4)->
((57<(bx a0 x4)->
(((bx a0 x4)≠45->
(false = (jb a0)) ∧
           True))/\
((bx a0 x4)=45->
(I64 (x4+1))/\
(jz a0 (x4+1))/\
 zw a0 (x4+1)<zw a0 x4)))/\
((bx a0 x4)<=57->
(I64 (x4+1))/\
(jz a0 (x4+1))/\
 zw a0 (x4+1)<zw a0 x4))))/\
(97<=(bx a0 x4)->
((122<(bx a0 x4)->
(((bx a0 x4)<48->
(((bx a0 x4)≠45->
(false = (jb a0)) ∧
           True))/\
((bx a0 x4)=45->
(I64 (x4+1))/\
(jz a0 (x4+1))/\
 zw a0 (x4+1)<zw a0 x4)))/\
(48<=(bx a0 x4)->
((57<(bx a0 x4)->
(((bx a0 x4)≠45->
(false = (jb a0)) ∧
            True))/\
((bx a0 x4)=45->
(I64 (x4+1))/\
(jz a0 (x4+1))/\
 zw a0 (x4+1)<zw a0 x4)))/\
((bx a0 x4)<=57->
(I64 (x4+1))/\
(jz a0 (x4+1))/\
 zw a0 (x4+1)<zw a0 x4))))/\
((bx a0 x4)<=122->
(I64 (x4+1))/\
(jz a0 (x4+1))/\
 zw a0 (x4+1)<zw a0 x4))))/\
((ln a0)<=x4->
(true=(jb a0))/\
       True)))))))
theorem q6i (a0:List UInt8):j9 (qk XK (ji q37) (fun j ns=>match j,ns with | 0,[.i y0]=>jz a0 y0 | _,_=>False) (fun j ns=>match j,ns with | 0,[.i y0]=>zw a0 y0 | _,_=>0)) {cfg sp with ann:=j7 [(49,58,.inv 0 [.one 25 (.int .i64)] [])]} 3 49 [.str (a0)] (qtp a0)=qqf a0:=by kernel_rfl
def qwy:List (Nat×Ct KT):=[(49,zdg),(32,zao)]
abbrev qof (a0:List UInt8) (a1:List Sign):PV KT:=.tuple [.int .i64 none (((qo a0 a1).1)),.int .i64 none (((qo a0 a1).2))]
abbrev qkm (a0:List UInt8) (a1:List Sign):Prop:=
((ln a0<=9223372036854775806))/\
(((jb a0)=false->
((7:Int)=((qo a0 a1).1))/\
((0:Int)=((qo a0 a1).2))/\
 True))/\
((jb a0)=true->
((400<(ln a1)->
((11:Int)=((qo a0 a1).1))/\
((0:Int)=((qo a0 a1).2))/\
  True))/\
((ln a1)<=400->
(qa1 a0 a1 false 0)/\
(∀ x2:Bool,
(∀ x3:Int,
(qa1 a0 a1 x2 x3->
((x3<(ln a1)->
(Wn x3 (ln a1))/\
(True)/\
(((qa8 (Sign.mk (ix a1 x3).Kind (ix a1 x3).Value (ix a1 x3).Place (ix a1 x3).Acc (ix a1 x3).Color (ix a1 x3).Stem (ix a1 x3).Oblique (ix a1 x3).Last (ix a1 x3).MensMax (ix a1 x3).MensMod (ix a1 x3).MensTem (ix a1 x3).MensPro (ix a1 x3).Stroke (ix a1 x3).N (ix a1 x3).D (ix a1 x3).ClefStep (ix a1 x3).ClefLine))≠0->
(((qa8 (Sign.mk (ix a1 x3).Kind (ix a1 x3).Value (ix a1 x3).Place (ix a1 x3).Acc (ix a1 x3).Color (ix a1 x3).Stem (ix a1 x3).Oblique (ix a1 x3).Last (ix a1 x3).MensMax (ix a1 x3).MensMod (ix a1 x3).MensTem (ix a1 x3).MensPro (ix a1 x3).Stroke (ix a1 x3).N (ix a1 x3).D (ix a1 x3).ClefStep (ix a1 x3).ClefLine)):Int)=((qo a0 a1).1))/\
((x3:Int)=((qo a0 a1).2))/\
       True))/\
((qa8 (Sign.mk (ix a1 x3).Kind (ix a1 x3).Value (ix a1 x3).Place (ix a1 x3).Acc (ix a1 x3).Color (ix a1 x3).Stem (ix a1 x3).Oblique (ix a1 x3).Last (ix a1 x3).MensMax (ix a1 x3).MensMod (ix a1 x3).MensTem (ix a1 x3).MensPro (ix a1 x3).Stroke (ix a1 x3).N (ix a1 x3).D (ix a1 x3).ClefStep (ix a1 x3).ClefLine))=0->
(((ix a1 x3).Kind≠4->
(I64 (x3+1))/\
(a0=a0)/\
(a1=a1)/\
(qa1 a0 a1 x2 (x3+1))/\
 j4 a0 a1 x2 (x3+1)<j4 a0 a1 x2 x3))/\
((ix a1 x3).Kind=4->
(((ix a1 x3).Last=true->
((x2=false->
((3:Int)=((qo a0 a1).1))/\
((x3 : Int) = ((qo a0 a1).2)) ∧
          True))/\
(x2=true->
(I64 (x3+1))/\
(a0=a0)/\
(a1=a1)/\
(qa1 a0 a1 false (x3+1))/\
 j4 a0 a1 false (x3+1)<j4 a0 a1 x2 x3)))/\
((ix a1 x3).Last=false->
(I64 (x3+1))/\
(((x3+1)=(ln a1)->
((3:Int)=((qo a0 a1).1))/\
((x3 : Int) = ((qo a0 a1).2)) ∧
          True))/\
((x3+1)≠(ln a1)->
(I64 (x3+1))/\
(Wn (x3+1) (ln a1))/\
(((ix a1 (x3+1)).Kind≠4->
((3:Int)=((qo a0 a1).1))/\
((x3 : Int) = ((qo a0 a1).2)) ∧
           True))/\
((ix a1 (x3+1)).Kind=4->
(I64 (x3+1))/\
(a0=a0)/\
(a1=a1)/\
(qa1 a0 a1 true (x3+1))/\
 j4 a0 a1 true (x3+1)<j4 a0 a1 x2 x3)))))))/\
((ln a1)<=x3->
((0:Int)=((qo a0 a1).1))/\
((0:Int)=((qo a0 a1).2))/\
      True))))))
theorem qz6 (a0:List UInt8) (a1:List Sign):j9 (qk XK (ji qwy) (fun j ns=>match j,ns with | 0,[.b y0,.i y1]=>qa1 a0 a1 y0 y1 | _,_=>False) (fun j ns=>match j,ns with | 0,[.b y0,.i y1]=>j4 a0 a1 y0 y1 | _,_=>0)) {cfg sp with ann:=j7 [(44,890,.inv 0 [.one 4 (.bool),.one 19 (.int .i64)] [])]} 3 44 [.agg [.str (a0),.list 4 (a1) none]] (qof a0 a1)=qkm a0 a1:=by kernel_rfl
def q36:List (Nat×Ct KT):=[]
abbrev qto (a0:List UInt8):PV KT:=.sb 0 false ((jb a0)) ((jb a0)=true) ((jb a0)=false)
abbrev qqe (a0:List UInt8):Prop:=
(jy a0 0)/\
(∀ x0:Int,
(jy a0 x0->
((x0<(ln a0)->
(Wn x0 (ln a0))/\
((97<=(bx a0 x0)->
((122<(bx a0 x0)->
(Wn x0 (ln a0))/\
((48<=(bx a0 x0)->
((57<(bx a0 x0)->
(Wn x0 (ln a0))/\
(((bx a0 x0)≠45->
(false=(jb a0))/\
        True))/\
((bx a0 x0)=45->
(I64 (x0+1))/\
(jy a0 (x0+1))/\
 zv a0 (x0+1)<zv a0 x0)))/\
((bx a0 x0)<=57->
(I64 (x0+1))/\
(jy a0 (x0+1))/\
 zv a0 (x0+1)<zv a0 x0)))/\
((bx a0 x0)<48->
(Wn x0 (ln a0))/\
(((bx a0 x0)≠45->
(false=(jb a0))/\
       True))/\
((bx a0 x0)=45->
(I64 (x0+1))/\
(jy a0 (x0+1))/\
 zv a0 (x0+1)<zv a0 x0))))/\
((bx a0 x0)<=122->
(I64 (x0+1))/\
(jy a0 (x0+1))/\
 zv a0 (x0+1)<zv a0 x0)))/\
((bx a0 x0)<97->
(Wn x0 (ln a0))/\
((48<=(bx a0 x0)->
((57<(bx a0 x0)->
(Wn x0 (ln a0))/\
(((bx a0 x0)≠45->
(false=(jb a0))/\
       True))/\
((bx a0 x0)=45->
(I64 (x0+1))/\
(jy a0 (x0+1))/\
 zv a0 (x0+1)<zv a0 x0)))/\
((bx a0 x0)<=57->
(I64 (x0+1))/\
(jy a0 (x0+1))/\
 zv a0 (x0+1)<zv a0 x0)))/\
((bx a0 x0)<48->
(Wn x0 (ln a0))/\
(((bx a0 x0)≠45->
(false=(jb a0))/\
      True))/\
((bx a0 x0)=45->
(I64 (x0+1))/\
(jy a0 (x0+1))/\
 zv a0 (x0+1)<zv a0 x0)))))/\
((ln a0)<=x0->
((a0≠([]:List UInt8)->
(((ln a0)<=20->
(Wn 0 (ln a0))/\
((97<=(bx a0 0)->
((decide ((bx a0 0)<=122))=(jb a0))/\
      True))/\
((bx a0 0)<97->
(false=(jb a0))/\
      True)))/\
(20<(ln a0)->
(false=(jb a0))/\
     True)))/\
(a0=([]:List UInt8)->
(false=(jb a0))/\
    True))))
theorem q6f (a0:List UInt8):j9 (qk XK (ji q36) (fun j ns=>match j,ns with | 0,[.i y0]=>jy a0 y0 | _,_=>False) (fun j ns=>match j,ns with | 0,[.i y0]=>zv a0 y0 | _,_=>0)) {cfg sp with ann:=j7 [(102,26,.inv 0 [.one 3 (.int .i64)] [])]} 3 102 [.str (a0)] (qto a0)=qqe a0:=by kernel_rfl
def qwx:List (Nat×Ct KT):=[(102,q69),(36,zap)]
abbrev qoe (a0:List UInt8) (a1:List Sign):PV KT:=.tuple [.int .i64 none (((qo a0 a1).1)),.int .i64 none (((qo a0 a1).2))]
abbrev qkl (a0:List UInt8) (a1:List Sign):Prop:=
((ln a0<=9223372036854775806))/\
(((jb a0)=false->
((7:Int)=((qo a0 a1).1))/\
((0:Int)=((qo a0 a1).2))/\
 True))/\
((jb a0)=true->
((400<(ln a1)->
((11:Int)=((qo a0 a1).1))/\
((0:Int)=((qo a0 a1).2))/\
  True))/\
((ln a1)<=400->
(kp a0 a1 0)/\
(∀ x2:Int,
(kp a0 a1 x2->
((x2<(ln a1)->
(Wn x2 (ln a1))/\
(True)/\
(((qa8 (Sign.mk (ix a1 x2).Kind (ix a1 x2).Value (ix a1 x2).Place (ix a1 x2).Acc (ix a1 x2).Color (ix a1 x2).Stem (ix a1 x2).Oblique (ix a1 x2).Last (ix a1 x2).MensMax (ix a1 x2).MensMod (ix a1 x2).MensTem (ix a1 x2).MensPro (ix a1 x2).Stroke (ix a1 x2).N (ix a1 x2).D (ix a1 x2).ClefStep (ix a1 x2).ClefLine))≠0->
(((qa8 (Sign.mk (ix a1 x2).Kind (ix a1 x2).Value (ix a1 x2).Place (ix a1 x2).Acc (ix a1 x2).Color (ix a1 x2).Stem (ix a1 x2).Oblique (ix a1 x2).Last (ix a1 x2).MensMax (ix a1 x2).MensMod (ix a1 x2).MensTem (ix a1 x2).MensPro (ix a1 x2).Stroke (ix a1 x2).N (ix a1 x2).D (ix a1 x2).ClefStep (ix a1 x2).ClefLine)):Int)=((qo a0 a1).1))/\
((x2:Int)=((qo a0 a1).2))/\
      True))/\
((qa8 (Sign.mk (ix a1 x2).Kind (ix a1 x2).Value (ix a1 x2).Place (ix a1 x2).Acc (ix a1 x2).Color (ix a1 x2).Stem (ix a1 x2).Oblique (ix a1 x2).Last (ix a1 x2).MensMax (ix a1 x2).MensMod (ix a1 x2).MensTem (ix a1 x2).MensPro (ix a1 x2).Stroke (ix a1 x2).N (ix a1 x2).D (ix a1 x2).ClefStep (ix a1 x2).ClefLine))=0->
(((ix a1 x2).Kind≠4->
(I64 (x2+1))/\
(a0=a0)/\
(a1=a1)/\
(kp a0 a1 (x2+1))/\
 zg a0 a1 (x2+1)<zg a0 a1 x2))/\
((ix a1 x2).Kind=4->
(I64 (x2-1))/\
((0<=(x2-1)->
(((x2-1)<(ln a1)->
(Wn (x2-1) (ln a1))/\
(((ix a1 (x2-1)).Kind≠4->
(((ix a1 x2).Last=true->
((3:Int)=((qo a0 a1).1))/\
((x2 : Int) = ((qo a0 a1).2)) ∧
           True))/\
((ix a1 x2).Last=false->
(I64 (x2+1))/\
((0<=(x2+1)->
(((x2+1)<(ln a1)->
(Wn (x2+1) (ln a1))/\
(((ix a1 (x2+1)).Kind≠4->
((3:Int)=((qo a0 a1).1))/\
((x2 : Int) = ((qo a0 a1).2)) ∧
              True))/\
((ix a1 (x2+1)).Kind=4->
(I64 (x2+1))/\
(a0=a0)/\
(a1=a1)/\
(kp a0 a1 (x2+1))/\
 zg a0 a1 (x2+1)<zg a0 a1 x2)))/\
((ln a1)<=(x2+1)->
((3:Int)=((qo a0 a1).1))/\
((x2 : Int) = ((qo a0 a1).2)) ∧
             True)))/\
((x2+1)<0->
((3:Int)=((qo a0 a1).1))/\
((x2 : Int) = ((qo a0 a1).2)) ∧
            True))))/\
((ix a1 (x2-1)).Kind=4->
(I64 (x2-1))/\
(Wn (x2-1) (ln a1))/\
(((ix a1 (x2-1)).Last=true->
(((ix a1 x2).Last=true->
((3:Int)=((qo a0 a1).1))/\
((x2 : Int) = ((qo a0 a1).2)) ∧
            True))/\
((ix a1 x2).Last=false->
(I64 (x2+1))/\
((0<=(x2+1)->
(((x2+1)<(ln a1)->
(Wn (x2+1) (ln a1))/\
(((ix a1 (x2+1)).Kind≠4->
((3:Int)=((qo a0 a1).1))/\
((x2 : Int) = ((qo a0 a1).2)) ∧
               True))/\
((ix a1 (x2+1)).Kind=4->
(I64 (x2+1))/\
(a0=a0)/\
(a1=a1)/\
(kp a0 a1 (x2+1))/\
 zg a0 a1 (x2+1)<zg a0 a1 x2)))/\
((ln a1)<=(x2+1)->
((3:Int)=((qo a0 a1).1))/\
((x2 : Int) = ((qo a0 a1).2)) ∧
              True)))/\
((x2+1)<0->
((3:Int)=((qo a0 a1).1))/\
((x2 : Int) = ((qo a0 a1).2)) ∧
             True))))/\
((ix a1 (x2-1)).Last=false->
(((ix a1 x2).Last=false->
(I64 (x2+1))/\
((0<=(x2+1)->
(((x2+1)<(ln a1)->
(Wn (x2+1) (ln a1))/\
(((ix a1 (x2+1)).Kind≠4->
((3:Int)=((qo a0 a1).1))/\
((x2 : Int) = ((qo a0 a1).2)) ∧
               True))/\
((ix a1 (x2+1)).Kind=4->
(I64 (x2+1))/\
(a0=a0)/\
(a1=a1)/\
(kp a0 a1 (x2+1))/\
 zg a0 a1 (x2+1)<zg a0 a1 x2)))/\
((ln a1)<=(x2+1)->
((3:Int)=((qo a0 a1).1))/\
((x2 : Int) = ((qo a0 a1).2)) ∧
              True)))/\
((x2+1)<0->
((3:Int)=((qo a0 a1).1))/\
((x2 : Int) = ((qo a0 a1).2)) ∧
             True)))/\
((ix a1 x2).Last=true->
(I64 (x2+1))/\
(a0=a0)/\
(a1=a1)/\
(kp a0 a1 (x2+1))/\
 zg a0 a1 (x2+1)<zg a0 a1 x2)))))/\
((ln a1)<=(x2-1)->
(((ix a1 x2).Last=true->
((3:Int)=((qo a0 a1).1))/\
((x2 : Int) = ((qo a0 a1).2)) ∧
          True))/\
((ix a1 x2).Last=false->
(I64 (x2+1))/\
((0<=(x2+1)->
(((x2+1)<(ln a1)->
(Wn (x2+1) (ln a1))/\
(((ix a1 (x2+1)).Kind≠4->
((3:Int)=((qo a0 a1).1))/\
((x2 : Int) = ((qo a0 a1).2)) ∧
             True))/\
((ix a1 (x2+1)).Kind=4->
(I64 (x2+1))/\
(a0=a0)/\
(a1=a1)/\
(kp a0 a1 (x2+1))/\
 zg a0 a1 (x2+1)<zg a0 a1 x2)))/\
((ln a1)<=(x2+1)->
((3:Int)=((qo a0 a1).1))/\
((x2 : Int) = ((qo a0 a1).2)) ∧
            True)))/\
((x2+1)<0->
((3:Int)=((qo a0 a1).1))/\
((x2 : Int) = ((qo a0 a1).2)) ∧
           True)))))/\
((x2-1)<0->
(((ix a1 x2).Last=true->
((3:Int)=((qo a0 a1).1))/\
((x2 : Int) = ((qo a0 a1).2)) ∧
         True))/\
((ix a1 x2).Last=false->
(I64 (x2+1))/\
((0<=(x2+1)->
(((x2+1)<(ln a1)->
(Wn (x2+1) (ln a1))/\
(((ix a1 (x2+1)).Kind≠4->
((3:Int)=((qo a0 a1).1))/\
((x2 : Int) = ((qo a0 a1).2)) ∧
            True))/\
((ix a1 (x2+1)).Kind=4->
(I64 (x2+1))/\
(a0=a0)/\
(a1=a1)/\
(kp a0 a1 (x2+1))/\
 zg a0 a1 (x2+1)<zg a0 a1 x2)))/\
((ln a1)<=(x2+1)->
((3:Int)=((qo a0 a1).1))/\
((x2 : Int) = ((qo a0 a1).2)) ∧
           True)))/\
((x2+1)<0->
((3:Int)=((qo a0 a1).1))/\
((x2 : Int) = ((qo a0 a1).2)) ∧
          True)))))))/\
((ln a1)<=x2->
((0:Int)=((qo a0 a1).1))/\
((0:Int)=((qo a0 a1).2))/\
     True)))))
theorem qz3 (a0:List UInt8) (a1:List Sign):j9 (qk XK (ji qwx) (fun j ns=>match j,ns with | 0,[.i y0]=>kp a0 a1 y0 | _,_=>False) (fun j ns=>match j,ns with | 0,[.i y0]=>zg a0 a1 y0 | _,_=>0)) {cfg sp with ann:=j7 [(46,122,.inv 0 [.one 4 (.int .i64)] [])]} 3 46 [.agg [.str (a0),.list 4 (a1) none]] (qoe a0 a1)=qkl a0 a1:=by kernel_rfl
def qvh:List (Nat×Ct KT):=[]
abbrev qln (a0:List Sign):PV KT:=.list 4 ((a0)) none
abbrev qol (a0:List Sign):Prop:=
(qn (List.length ([]:List Sign)+List.length a0))/\
((([]:List Sign)++a0)=(a0))/\
 True
theorem qw8 (a0:List Sign):j9 (qk XK (ji qvh) (fun _ _=>False) (fun _ _=>0)) {cfg sp with ann:=j7 []} 3 43 [.list 4 (a0) none] (qln a0)=qol a0:=by kernel_rfl
def qw5:List (Nat×Ct KT):=[(43,zdc)]
abbrev qok (a0:List UInt8) (a1:List Sign):PV KT:=.agg [.str ((a0)),.list 4 ((a1)) none]
abbrev qqg (a0:List UInt8) (a1:List Sign):Prop:=
((ln a1<=10000000))/\
(a0=(a0))/\
((a1)=(a1))/\
 True
theorem q0h (a0:List UInt8) (a1:List Sign):j9 (qk XK (ji qw5) (fun _ _=>False) (fun _ _=>0)) {cfg sp with ann:=j7 []} 3 14 [.agg [.str (a0),.list 4 (a1) none]] (qok a0 a1)=qqg a0 a1:=by kernel_rfl
def qs3:List (Nat×Ct KT):=[]
abbrev qj6 (a0:List Sign) (a1:List Sign):PV KT:=.sb 0 false ((qhr a0 a1)) ((qhr a0 a1)=true) ((qhr a0 a1)=false)
abbrev qlq (a0:List Sign) (a1:List Sign):Prop:=
(((ln a0)≠(ln a1)->
(false=(qhr a0 a1))/\
 True))/\
((ln a0)=(ln a1)->
(qdg a0 a1 0)/\
(∀ x1:Int,
(qdg a0 a1 x1->
((x1<(ln a0)->
(Wn x1 (ln a0))/\
(Wn x1 (ln a1))/\
((((ix a0 x1).Kind≠(ix a1 x1).Kind∨((ix a0 x1).Value≠(ix a1 x1).Value∨((ix a0 x1).Place≠(ix a1 x1).Place∨((ix a0 x1).Acc≠(ix a1 x1).Acc∨((ix a0 x1).Color≠(ix a1 x1).Color∨((ix a0 x1).Stem≠(ix a1 x1).Stem∨((ix a0 x1).Oblique≠(ix a1 x1).Oblique∨((ix a0 x1).Last≠(ix a1 x1).Last∨((ix a0 x1).MensMax≠(ix a1 x1).MensMax∨((ix a0 x1).MensMod≠(ix a1 x1).MensMod∨((ix a0 x1).MensTem≠(ix a1 x1).MensTem∨((ix a0 x1).MensPro≠(ix a1 x1).MensPro∨((ix a0 x1).Stroke≠(ix a1 x1).Stroke∨((ix a0 x1).N≠(ix a1 x1).N∨((ix a0 x1).D≠(ix a1 x1).D∨((ix a0 x1).ClefStep≠(ix a1 x1).ClefStep∨(ix a0 x1).ClefLine≠(ix a1 x1).ClefLine))))))))))))))))->
(false=(qhr a0 a1))/\
     True))/\
(((ix a0 x1).Kind=(ix a1 x1).Kind/\((ix a0 x1).Value=(ix a1 x1).Value/\((ix a0 x1).Place=(ix a1 x1).Place/\((ix a0 x1).Acc=(ix a1 x1).Acc/\((ix a0 x1).Color=(ix a1 x1).Color/\((ix a0 x1).Stem=(ix a1 x1).Stem/\((ix a0 x1).Oblique=(ix a1 x1).Oblique/\((ix a0 x1).Last=(ix a1 x1).Last/\((ix a0 x1).MensMax=(ix a1 x1).MensMax/\((ix a0 x1).MensMod=(ix a1 x1).MensMod/\((ix a0 x1).MensTem=(ix a1 x1).MensTem/\((ix a0 x1).MensPro=(ix a1 x1).MensPro/\((ix a0 x1).Stroke=(ix a1 x1).Stroke/\((ix a0 x1).N=(ix a1 x1).N/\((ix a0 x1).D=(ix a1 x1).D/\((ix a0 x1).ClefStep=(ix a1 x1).ClefStep/\(ix a0 x1).ClefLine=(ix a1 x1).ClefLine))))))))))))))))->
(I64 (x1+1))/\
(qdg a0 a1 (x1+1))/\
 qcu a0 a1 (x1+1)<qcu a0 a1 x1)))/\
((ln a0)<=x1->
(true=(qhr a0 a1))/\
    True))))
theorem qvl (a0:List Sign) (a1:List Sign):j9 (qk XK (ji qs3) (fun j ns=>match j,ns with | 0,[.i y0]=>qdg a0 a1 y0 | _,_=>False) (fun j ns=>match j,ns with | 0,[.i y0]=>qcu a0 a1 y0 | _,_=>0)) {cfg sp with ann:=j7 [(47,58,.inv 0 [.one 5 (.int .i64)] [])]} 3 47 [.list 4 (a0) none,.list 4 (a1) none] (qj6 a0 a1)=qlq a0 a1:=by kernel_rfl
def qvi:List (Nat×Ct KT):=[(47,zdf)]
abbrev qlp (a0:List UInt8) (a1:List Sign) (a2:List UInt8) (a3:List Sign):PV KT:=.sb 0 false ((z7 a0 a1 a2 a3)) ((z7 a0 a1 a2 a3)=true) ((z7 a0 a1 a2 a3)=false)
abbrev qoo (a0:List UInt8) (a1:List Sign) (a2:List UInt8) (a3:List Sign):Prop:=
((a0=a2->
((ln a1<=10000000))/\
((qhr a1 a3)=(z7 a0 a1 a2 a3))/\
 True))/\
(a0≠a2->
(false=(z7 a0 a1 a2 a3))/\
 True)
theorem qxe (a0:List UInt8) (a1:List Sign) (a2:List UInt8) (a3:List Sign):j9 (qk XK (ji qvi) (fun _ _=>False) (fun _ _=>0)) {cfg sp with ann:=j7 []} 3 17 [.agg [.str (a0),.list 4 (a1) none],.agg [.str (a2),.list 4 (a3) none]] (qlp a0 a1 a2 a3)=qoo a0 a1 a2 a3:=by kernel_rfl
def q4e:List (Nat×Ct KT):=[(44,zdd),(10,zc3)]
abbrev qtr (a0:List UInt8) (a1:List Sign):PV KT:=.tuple [.str (((qa7 a0 a1).1)),.int .i64 none (((qa7 a0 a1).2))]
abbrev qql (a0:List UInt8) (a1:List Sign):Prop:=
((ln a0<=1000000000/\ln a1<=1000000000))/\
((((qo a0 a1).1)≠0->
(([]:List UInt8)=((qa7 a0 a1).1))/\
((((qo a0 a1).1):Int)=((qa7 a0 a1).2))/\
 True))/\
(((qo a0 a1).1)=0->
(qn (List.length ([112,97,114,116,32]:List UInt8)+List.length a0))/\
(qn (List.length (([112,97,114,116,32]:List UInt8)++a0)+List.length ([10]:List UInt8)))/\
(qn (List.length ([]:List UInt8)+List.length ((([112,97,114,116,32]:List UInt8)++a0)++([10]:List UInt8))))/\
(qcj a0 a1 (([]:List UInt8)++((([112,97,114,116,32]:List UInt8)++a0)++([10]:List UInt8))) 0)/\
(∀ x1:List UInt8,
(∀ x2:Int,
(qcj a0 a1 x1 x2->
((x2<(ln a1)->
(Wn x2 (ln a1))/\
(True)/\
(qn (List.length x1+List.length ((qq (Sign.mk (ix a1 x2).Kind (ix a1 x2).Value (ix a1 x2).Place (ix a1 x2).Acc (ix a1 x2).Color (ix a1 x2).Stem (ix a1 x2).Oblique (ix a1 x2).Last (ix a1 x2).MensMax (ix a1 x2).MensMod (ix a1 x2).MensTem (ix a1 x2).MensPro (ix a1 x2).Stroke (ix a1 x2).N (ix a1 x2).D (ix a1 x2).ClefStep (ix a1 x2).ClefLine)).1)))/\
((16:Int)≠0)/\
(((Int.tmod x2 16)=15->
(U8 (10))/\
(qn (List.length (x1++((qq (Sign.mk (ix a1 x2).Kind (ix a1 x2).Value (ix a1 x2).Place (ix a1 x2).Acc (ix a1 x2).Color (ix a1 x2).Stem (ix a1 x2).Oblique (ix a1 x2).Last (ix a1 x2).MensMax (ix a1 x2).MensMod (ix a1 x2).MensTem (ix a1 x2).MensPro (ix a1 x2).Stroke (ix a1 x2).N (ix a1 x2).D (ix a1 x2).ClefStep (ix a1 x2).ClefLine)).1))+List.length [(UInt8.ofNat (Int.toNat (10)))]))/\
(I64 (x2+1))/\
(a0=a0)/\
(a1=a1)/\
(qcj a0 a1 ((x1++((qq (Sign.mk (ix a1 x2).Kind (ix a1 x2).Value (ix a1 x2).Place (ix a1 x2).Acc (ix a1 x2).Color (ix a1 x2).Stem (ix a1 x2).Oblique (ix a1 x2).Last (ix a1 x2).MensMax (ix a1 x2).MensMod (ix a1 x2).MensTem (ix a1 x2).MensPro (ix a1 x2).Stroke (ix a1 x2).N (ix a1 x2).D (ix a1 x2).ClefStep (ix a1 x2).ClefLine)).1))++[(UInt8.ofNat (Int.toNat (10)))]) (x2+1))/\
 jt a0 a1 ((x1++((qq (Sign.mk (ix a1 x2).Kind (ix a1 x2).Value (ix a1 x2).Place (ix a1 x2).Acc (ix a1 x2).Color (ix a1 x2).Stem (ix a1 x2).Oblique (ix a1 x2).Last (ix a1 x2).MensMax (ix a1 x2).MensMod (ix a1 x2).MensTem (ix a1 x2).MensPro (ix a1 x2).Stroke (ix a1 x2).N (ix a1 x2).D (ix a1 x2).ClefStep (ix a1 x2).ClefLine)).1))++[(UInt8.ofNat (Int.toNat (10)))]) (x2+1)<jt a0 a1 x1 x2))/\
((Int.tmod x2 16)≠15->
(I64 (x2+1))/\
(((x2+1)=(ln a1)->
(U8 (10))/\
(qn (List.length (x1++((qq (Sign.mk (ix a1 x2).Kind (ix a1 x2).Value (ix a1 x2).Place (ix a1 x2).Acc (ix a1 x2).Color (ix a1 x2).Stem (ix a1 x2).Oblique (ix a1 x2).Last (ix a1 x2).MensMax (ix a1 x2).MensMod (ix a1 x2).MensTem (ix a1 x2).MensPro (ix a1 x2).Stroke (ix a1 x2).N (ix a1 x2).D (ix a1 x2).ClefStep (ix a1 x2).ClefLine)).1))+List.length [(UInt8.ofNat (Int.toNat (10)))]))/\
(I64 (x2+1))/\
(a0=a0)/\
(a1=a1)/\
(qcj a0 a1 ((x1++((qq (Sign.mk (ix a1 x2).Kind (ix a1 x2).Value (ix a1 x2).Place (ix a1 x2).Acc (ix a1 x2).Color (ix a1 x2).Stem (ix a1 x2).Oblique (ix a1 x2).Last (ix a1 x2).MensMax (ix a1 x2).MensMod (ix a1 x2).MensTem (ix a1 x2).MensPro (ix a1 x2).Stroke (ix a1 x2).N (ix a1 x2).D (ix a1 x2).ClefStep (ix a1 x2).ClefLine)).1))++[(UInt8.ofNat (Int.toNat (10)))]) (x2+1))/\
 jt a0 a1 ((x1++((qq (Sign.mk (ix a1 x2).Kind (ix a1 x2).Value (ix a1 x2).Place (ix a1 x2).Acc (ix a1 x2).Color (ix a1 x2).Stem (ix a1 x2).Oblique (ix a1 x2).Last (ix a1 x2).MensMax (ix a1 x2).MensMod (ix a1 x2).MensTem (ix a1 x2).MensPro (ix a1 x2).Stroke (ix a1 x2).N (ix a1 x2).D (ix a1 x2).ClefStep (ix a1 x2).ClefLine)).1))++[(UInt8.ofNat (Int.toNat (10)))]) (x2+1)<jt a0 a1 x1 x2))/\
((x2+1)≠(ln a1)->
(U8 (32))/\
(qn (List.length (x1++((qq (Sign.mk (ix a1 x2).Kind (ix a1 x2).Value (ix a1 x2).Place (ix a1 x2).Acc (ix a1 x2).Color (ix a1 x2).Stem (ix a1 x2).Oblique (ix a1 x2).Last (ix a1 x2).MensMax (ix a1 x2).MensMod (ix a1 x2).MensTem (ix a1 x2).MensPro (ix a1 x2).Stroke (ix a1 x2).N (ix a1 x2).D (ix a1 x2).ClefStep (ix a1 x2).ClefLine)).1))+List.length [(UInt8.ofNat (Int.toNat (32)))]))/\
(I64 (x2+1))/\
(a0=a0)/\
(a1=a1)/\
(qcj a0 a1 ((x1++((qq (Sign.mk (ix a1 x2).Kind (ix a1 x2).Value (ix a1 x2).Place (ix a1 x2).Acc (ix a1 x2).Color (ix a1 x2).Stem (ix a1 x2).Oblique (ix a1 x2).Last (ix a1 x2).MensMax (ix a1 x2).MensMod (ix a1 x2).MensTem (ix a1 x2).MensPro (ix a1 x2).Stroke (ix a1 x2).N (ix a1 x2).D (ix a1 x2).ClefStep (ix a1 x2).ClefLine)).1))++[(UInt8.ofNat (Int.toNat (32)))]) (x2+1))/\
 jt a0 a1 ((x1++((qq (Sign.mk (ix a1 x2).Kind (ix a1 x2).Value (ix a1 x2).Place (ix a1 x2).Acc (ix a1 x2).Color (ix a1 x2).Stem (ix a1 x2).Oblique (ix a1 x2).Last (ix a1 x2).MensMax (ix a1 x2).MensMod (ix a1 x2).MensTem (ix a1 x2).MensPro (ix a1 x2).Stroke (ix a1 x2).N (ix a1 x2).D (ix a1 x2).ClefStep (ix a1 x2).ClefLine)).1))++[(UInt8.ofNat (Int.toNat (32)))]) (x2+1)<jt a0 a1 x1 x2))))/\
((ln a1)<=x2->
(qn (List.length x1+List.length ([101,110,100,10]:List UInt8)))/\
((ln (x1++([101,110,100,10]:List UInt8)))<=140737488355328)/\
((x1++([101,110,100,10]:List UInt8))=((qa7 a0 a1).1))/\
((0:Int)=((qa7 a0 a1).2))/\
     True)))))
theorem q6p (a0:List UInt8) (a1:List Sign):j9 (qk XK (ji q4e) (fun j ns=>match j,ns with | 0,[.l 0 y0,.i y1]=>qcj a0 a1 y0 y1 | _,_=>False) (fun j ns=>match j,ns with | 0,[.l 0 y0,.i y1]=>jt a0 a1 y0 y1 | _,_=>0)) {cfg sp with ann:=j7 [(15,250,.inv 0 [.via 6 [.keep,.list 0 true true],.one 28 (.int .i64)] [])]} 6 15 [.agg [.str (a0),.list 4 (a1) none]] (qtr a0 a1)=qql a0 a1:=by kernel_rfl
def q4f:List (Nat×Ct KT):=[(46,zde),(11,zc4)]
abbrev qts (a0:List UInt8) (a1:List Sign):PV KT:=.tuple [.str (((qa7 a0 a1).1)),.int .i64 none (((qa7 a0 a1).2))]
abbrev qqm (a0:List UInt8) (a1:List Sign):Prop:=
((ln a0<=1000000000/\ln a1<=1000000000))/\
((((qo a0 a1).1)≠0->
(([]:List UInt8)=((qa7 a0 a1).1))/\
((((qo a0 a1).1):Int)=((qa7 a0 a1).2))/\
 True))/\
(((qo a0 a1).1)=0->
(qn (List.length ([112,97,114,116,32]:List UInt8)+List.length a0))/\
(qfb a0 a1 (([112,97,114,116,32]:List UInt8)++a0) 0)/\
(∀ x1:List UInt8,
(∀ x2:Int,
(qfb a0 a1 x1 x2->
((x2<(ln a1)->
(Wn x2 (ln a1))/\
(True)/\
((16:Int)≠0)/\
(((Int.tmod x2 16)=0->
(qn (List.length x1+List.length ([10]:List UInt8)))/\
(qn (List.length (x1++([10]:List UInt8))+List.length ((qq (Sign.mk (ix a1 x2).Kind (ix a1 x2).Value (ix a1 x2).Place (ix a1 x2).Acc (ix a1 x2).Color (ix a1 x2).Stem (ix a1 x2).Oblique (ix a1 x2).Last (ix a1 x2).MensMax (ix a1 x2).MensMod (ix a1 x2).MensTem (ix a1 x2).MensPro (ix a1 x2).Stroke (ix a1 x2).N (ix a1 x2).D (ix a1 x2).ClefStep (ix a1 x2).ClefLine)).1)))/\
(I64 (x2+1))/\
(a0=a0)/\
(a1=a1)/\
(qfb a0 a1 ((x1++([10]:List UInt8))++((qq (Sign.mk (ix a1 x2).Kind (ix a1 x2).Value (ix a1 x2).Place (ix a1 x2).Acc (ix a1 x2).Color (ix a1 x2).Stem (ix a1 x2).Oblique (ix a1 x2).Last (ix a1 x2).MensMax (ix a1 x2).MensMod (ix a1 x2).MensTem (ix a1 x2).MensPro (ix a1 x2).Stroke (ix a1 x2).N (ix a1 x2).D (ix a1 x2).ClefStep (ix a1 x2).ClefLine)).1)) (x2+1))/\
 qbu a0 a1 ((x1++([10]:List UInt8))++((qq (Sign.mk (ix a1 x2).Kind (ix a1 x2).Value (ix a1 x2).Place (ix a1 x2).Acc (ix a1 x2).Color (ix a1 x2).Stem (ix a1 x2).Oblique (ix a1 x2).Last (ix a1 x2).MensMax (ix a1 x2).MensMod (ix a1 x2).MensTem (ix a1 x2).MensPro (ix a1 x2).Stroke (ix a1 x2).N (ix a1 x2).D (ix a1 x2).ClefStep (ix a1 x2).ClefLine)).1)) (x2+1)<qbu a0 a1 x1 x2))/\
((Int.tmod x2 16)≠0->
(qn (List.length x1+List.length ([32]:List UInt8)))/\
(qn (List.length (x1++([32]:List UInt8))+List.length ((qq (Sign.mk (ix a1 x2).Kind (ix a1 x2).Value (ix a1 x2).Place (ix a1 x2).Acc (ix a1 x2).Color (ix a1 x2).Stem (ix a1 x2).Oblique (ix a1 x2).Last (ix a1 x2).MensMax (ix a1 x2).MensMod (ix a1 x2).MensTem (ix a1 x2).MensPro (ix a1 x2).Stroke (ix a1 x2).N (ix a1 x2).D (ix a1 x2).ClefStep (ix a1 x2).ClefLine)).1)))/\
(I64 (x2+1))/\
(a0=a0)/\
(a1=a1)/\
(qfb a0 a1 ((x1++([32]:List UInt8))++((qq (Sign.mk (ix a1 x2).Kind (ix a1 x2).Value (ix a1 x2).Place (ix a1 x2).Acc (ix a1 x2).Color (ix a1 x2).Stem (ix a1 x2).Oblique (ix a1 x2).Last (ix a1 x2).MensMax (ix a1 x2).MensMod (ix a1 x2).MensTem (ix a1 x2).MensPro (ix a1 x2).Stroke (ix a1 x2).N (ix a1 x2).D (ix a1 x2).ClefStep (ix a1 x2).ClefLine)).1)) (x2+1))/\
 qbu a0 a1 ((x1++([32]:List UInt8))++((qq (Sign.mk (ix a1 x2).Kind (ix a1 x2).Value (ix a1 x2).Place (ix a1 x2).Acc (ix a1 x2).Color (ix a1 x2).Stem (ix a1 x2).Oblique (ix a1 x2).Last (ix a1 x2).MensMax (ix a1 x2).MensMod (ix a1 x2).MensTem (ix a1 x2).MensPro (ix a1 x2).Stroke (ix a1 x2).N (ix a1 x2).D (ix a1 x2).ClefStep (ix a1 x2).ClefLine)).1)) (x2+1)<qbu a0 a1 x1 x2)))/\
((ln a1)<=x2->
(qn (List.length x1+List.length ([10,101,110,100,10]:List UInt8)))/\
((x1++([10,101,110,100,10]:List UInt8))=((qa7 a0 a1).1))/\
((0:Int)=((qa7 a0 a1).2))/\
     True)))))
theorem q6s (a0:List UInt8) (a1:List Sign):j9 (qk XK (ji q4f) (fun j ns=>match j,ns with | 0,[.s y0,.i y1]=>qfb a0 a1 y0 y1 | _,_=>False) (fun j ns=>match j,ns with | 0,[.s y0,.i y1]=>qbu a0 a1 y0 y1 | _,_=>0)) {cfg sp with ann:=j7 [(16,250,.inv 0 [.one 6 (.str),.one 7 (.int .i64)] [])]} 6 16 [.agg [.str (a0),.list 4 (a1) none]] (qts a0 a1)=qqm a0 a1:=by kernel_rfl
def qv0:List (Nat×Ct KT):=[(9,ct9),(14,zc5),(15,zc6),(16,zc7),(17,zc8)]
abbrev qmi (a0:List UInt8) (a1:List Sign):PV KT:=.sb 0 false ((true)) ((true)=true) ((true)=false)
abbrev qi7 (a0:List UInt8) (a1:List Sign):Prop:=
((420<(ln a1)->
(True)/\
((true)=(true))/\
 True))/\
((ln a1)<=420->
((100<(ln a0)->
(True)/\
((true)=(true))/\
  True))/\
((ln a0)<=100->
((ln a1<=10000000))/\
((ln (a0)<=1000/\ln (a1)<=1000))/\
((ln a0<=1000/\ln a1<=1000))/\
((((qa7 (a0) (a1)).1)=((qa7 a0 a1).1)->
((((qa7 (a0) (a1)).2)=((qa7 a0 a1).2)->
((ln (a1)<=10000000))/\
(((z7 (a0) (a1) a0 a1)=true->
(True)/\
((true)=(true))/\
     True))/\
((z7 (a0) (a1) a0 a1)=false->
(false=(true))/\
     True)))/\
(((qa7 (a0) (a1)).2)≠((qa7 a0 a1).2)->
(false=(true))/\
    True)))/\
(((qa7 (a0) (a1)).1)≠((qa7 a0 a1).1)->
(false=(true))/\
   True)))
theorem qyq (a0:List UInt8) (a1:List Sign):j9 (qk XK (ji qv0) (fun _ _=>False) (fun _ _=>0)) {cfg sp with ann:=j7 []} 3 4 [.agg [.str (a0),.list 4 (a1) none]] (qmi a0 a1)=qi7 a0 a1:=by kernel_rfl
end Go.Proofs.YtbopmiclcimjgaaGreatDoor
