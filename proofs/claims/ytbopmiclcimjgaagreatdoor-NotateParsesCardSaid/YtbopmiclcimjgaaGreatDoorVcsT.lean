import Derived.Test.YtbopmiclcimjgaaGreatDoorCts
namespace Go.Proofs.YtbopmiclcimjgaaGreatDoor
open Go Go.E2 Go.E3
set_option maxRecDepth 100000
variable {sp:Nat->Option (List V->Heap->Option (CR×Heap))}
def zdi:List (Nat×Ct KT):=[]
abbrev qzh (a0:ZB):PV KT:=.sb 0 false ((jg a0)) ((jg a0)=true) ((jg a0)=false)
abbrev qvi (a0:ZB):Prop:=
(((ln a0)=0->
(false=(jg a0))/\
 True))/\
((ln a0)≠0->
((20<(ln a0)->
(false=(jg a0))/\
 True))/\
((ln a0)<=20->
(Wn 0 (ln a0))/\
(((bx a0 0)<97->
(false=(jg a0))/\
 True))/\
(97<=(bx a0 0)->
(Wn 0 (ln a0))/\
((122<(bx a0 0)->
(false=(jg a0))/\
 True))/\
((bx a0 0)<=122->
(qbc a0 0)/\
(∀ x4:Int,
(qbc a0 x4->
((x4<(ln a0)->
(Wn x4 (ln a0))/\
(((bx a0 x4)<97->
(((bx a0 x4)<48->
(((bx a0 x4)≠45->
(false=(jg a0))/\
 True))/\
((bx a0 x4)=45->
(I64 (x4+1))/\
(qbc a0 (x4+1))/\
 kz a0 (x4+1)<kz a0 x4)))/\
(48<=(bx a0 x4)->
((57<(bx a0 x4)->
(((bx a0 x4)≠45->
(false=(jg a0))/\
 True))/\
((bx a0 x4)=45->
(I64 (x4+1))/\
(qbc a0 (x4+1))/\
 kz a0 (x4+1)<kz a0 x4)))/\
((bx a0 x4)<=57->
(I64 (x4+1))/\
(qbc a0 (x4+1))/\
 kz a0 (x4+1)<kz a0 x4))))/\
(97<=(bx a0 x4)->
((122<(bx a0 x4)->
(((bx a0 x4)<48->
(((bx a0 x4)≠45->
(false=(jg a0))/\
 True))/\
((bx a0 x4)=45->
(I64 (x4+1))/\
(qbc a0 (x4+1))/\
 kz a0 (x4+1)<kz a0 x4)))/\
(48<=(bx a0 x4)->
((57<(bx a0 x4)->
(((bx a0 x4)≠45->
(false=(jg a0))/\
 True))/\
((bx a0 x4)=45->
(I64 (x4+1))/\
(qbc a0 (x4+1))/\
 kz a0 (x4+1)<kz a0 x4)))/\
((bx a0 x4)<=57->
(I64 (x4+1))/\
(qbc a0 (x4+1))/\
 kz a0 (x4+1)<kz a0 x4))))/\
((bx a0 x4)<=122->
(I64 (x4+1))/\
(qbc a0 (x4+1))/\
 kz a0 (x4+1)<kz a0 x4))))/\
((ln a0)<=x4->
(true=(jg a0))/\
 True)))))))
theorem zgh (a0:ZB):jw (qq XK (jk zdi) (fun j ns=>match j,ns with | 0,[.i y0]=>qbc a0 y0 | _,_=>False) (fun j ns=>match j,ns with | 0,[.i y0]=>kz a0 y0 | _,_=>0)) {cfg sp with ann:=jv [(49,58,.inv 0 [.one 25 (.int .i64)] [])]} 3 49 [.str (a0)] (qzh a0)=qvi a0:=by kernel_rfl
def q3v:List (Nat×Ct KT):=[(49,zmh),(32,zmb)]
abbrev qs7 (a0:ZB) (a1:List Sign):PV KT:=.tuple [.int .i64 none (((zo a0 a1).1)),.int .i64 none (((zo a0 a1).2))]
abbrev qoi (a0:ZB) (a1:List Sign):Prop:=
((ln a0<=9223372036854775806))/\
(((jg a0)=false->
((7:Int)=((zo a0 a1).1))/\
((0:Int)=((zo a0 a1).2))/\
 True))/\
((jg a0)=true->
((400<(ln a1)->
((11:Int)=((zo a0 a1).1))/\
((0:Int)=((zo a0 a1).2))/\
 True))/\
((ln a1)<=400->
(qcn a0 a1 false 0)/\
(∀ x2:Bool,
(∀ x3:Int,
(qcn a0 a1 x2 x3->
((x3<(ln a1)->
(Wn x3 (ln a1))/\
(True)/\
(((zn (ix a1 x3))≠0->
(((zn (ix a1 x3)):Int)=((zo a0 a1).1))/\
((x3:Int)=((zo a0 a1).2))/\
 True))/\
((zn (ix a1 x3))=0->
(((ix a1 x3).Kind≠4->
(I64 (x3+1))/\
(a0=a0)/\
(a1=a1)/\
(qcn a0 a1 x2 (x3+1))/\
 qbd a0 a1 x2 (x3+1)<qbd a0 a1 x2 x3))/\
((ix a1 x3).Kind=4->
(((ix a1 x3).Last=true->
((x2=false->
((3:Int)=((zo a0 a1).1))/\
((x3:Int)=((zo a0 a1).2))/\
 True))/\
(x2=true->
(I64 (x3+1))/\
(a0=a0)/\
(a1=a1)/\
(qcn a0 a1 false (x3+1))/\
 qbd a0 a1 false (x3+1)<qbd a0 a1 x2 x3)))/\
((ix a1 x3).Last=false->
(I64 (x3+1))/\
(((x3+1)=(ln a1)->
((3:Int)=((zo a0 a1).1))/\
((x3:Int)=((zo a0 a1).2))/\
 True))/\
((x3+1)≠(ln a1)->
(I64 (x3+1))/\
(Wn (x3+1) (ln a1))/\
(((ix a1 (x3+1)).Kind≠4->
((3:Int)=((zo a0 a1).1))/\
((x3:Int)=((zo a0 a1).2))/\
 True))/\
((ix a1 (x3+1)).Kind=4->
(I64 (x3+1))/\
(a0=a0)/\
(a1=a1)/\
(qcn a0 a1 true (x3+1))/\
 qbd a0 a1 true (x3+1)<qbd a0 a1 x2 x3)))))))/\
((ln a1)<=x3->
((0:Int)=((zo a0 a1).1))/\
((0:Int)=((zo a0 a1).2))/\
 True))))))
theorem q72 (a0:ZB) (a1:List Sign):jw (qq XK (jk q3v) (fun j ns=>match j,ns with | 0,[.b y0,.i y1]=>qcn a0 a1 y0 y1 | _,_=>False) (fun j ns=>match j,ns with | 0,[.b y0,.i y1]=>qbd a0 a1 y0 y1 | _,_=>0)) {cfg sp with ann:=jv [(44,890,.inv 0 [.one 4 (.bool),.one 19 (.int .i64)] [])]} 3 44 [.agg [.str (a0),.list 4 (a1) none]] (qs7 a0 a1)=qoi a0 a1:=by kernel_rfl
def zdh:List (Nat×Ct KT):=[]
abbrev qzg (a0:ZB):PV KT:=.sb 0 false ((jg a0)) ((jg a0)=true) ((jg a0)=false)
abbrev qvh (a0:ZB):Prop:=
(qbb a0 0)/\
(∀ x0:Int,
(qbb a0 x0->
((x0<(ln a0)->
(Wn x0 (ln a0))/\
((97<=(bx a0 x0)->
((122<(bx a0 x0)->
(Wn x0 (ln a0))/\
((48<=(bx a0 x0)->
((57<(bx a0 x0)->
(Wn x0 (ln a0))/\
(((bx a0 x0)≠45->
(false=(jg a0))/\
 True))/\
((bx a0 x0)=45->
(I64 (x0+1))/\
(qbb a0 (x0+1))/\
 ky a0 (x0+1)<ky a0 x0)))/\
((bx a0 x0)<=57->
(I64 (x0+1))/\
(qbb a0 (x0+1))/\
 ky a0 (x0+1)<ky a0 x0)))/\
((bx a0 x0)<48->
(Wn x0 (ln a0))/\
(((bx a0 x0)≠45->
(false=(jg a0))/\
 True))/\
((bx a0 x0)=45->
(I64 (x0+1))/\
(qbb a0 (x0+1))/\
 ky a0 (x0+1)<ky a0 x0))))/\
((bx a0 x0)<=122->
(I64 (x0+1))/\
(qbb a0 (x0+1))/\
 ky a0 (x0+1)<ky a0 x0)))/\
((bx a0 x0)<97->
(Wn x0 (ln a0))/\
((48<=(bx a0 x0)->
((57<(bx a0 x0)->
(Wn x0 (ln a0))/\
(((bx a0 x0)≠45->
(false=(jg a0))/\
 True))/\
((bx a0 x0)=45->
(I64 (x0+1))/\
(qbb a0 (x0+1))/\
 ky a0 (x0+1)<ky a0 x0)))/\
((bx a0 x0)<=57->
(I64 (x0+1))/\
(qbb a0 (x0+1))/\
 ky a0 (x0+1)<ky a0 x0)))/\
((bx a0 x0)<48->
(Wn x0 (ln a0))/\
(((bx a0 x0)≠45->
(false=(jg a0))/\
 True))/\
((bx a0 x0)=45->
(I64 (x0+1))/\
(qbb a0 (x0+1))/\
 ky a0 (x0+1)<ky a0 x0)))))/\
((ln a0)<=x0->
((a0≠([]:ZB)->
(((ln a0)<=20->
(Wn 0 (ln a0))/\
((97<=(bx a0 0)->
((decide ((bx a0 0)<=122))=(jg a0))/\
 True))/\
((bx a0 0)<97->
(false=(jg a0))/\
 True)))/\
(20<(ln a0)->
(false=(jg a0))/\
 True)))/\
(a0=([]:ZB)->
(false=(jg a0))/\
 True))))
theorem zge (a0:ZB):jw (qq XK (jk zdh) (fun j ns=>match j,ns with | 0,[.i y0]=>qbb a0 y0 | _,_=>False) (fun j ns=>match j,ns with | 0,[.i y0]=>ky a0 y0 | _,_=>0)) {cfg sp with ann:=jv [(102,26,.inv 0 [.one 3 (.int .i64)] [])]} 3 102 [.str (a0)] (qzg a0)=qvh a0:=by kernel_rfl
def q3u:List (Nat×Ct KT):=[(102,za8),(36,zmc)]
abbrev qs6 (a0:ZB) (a1:List Sign):PV KT:=.tuple [.int .i64 none (((zo a0 a1).1)),.int .i64 none (((zo a0 a1).2))]
abbrev qoh (a0:ZB) (a1:List Sign):Prop:=
 let l0_:=zo a0 a1;
((ln a0<=9223372036854775806))/\
(((jg a0)=false->
((7:Int)=(l0_.1))/\
((0:Int)=(l0_.2))/\
 True))/\
((jg a0)=true->
((400<(ln a1)->
((11:Int)=(l0_.1))/\
((0:Int)=(l0_.2))/\
 True))/\
((ln a1)<=400->
(j8 a0 a1 0)/\
(∀ x2:Int,
(j8 a0 a1 x2->
((x2<(ln a1)->
(Wn x2 (ln a1))/\
(True)/\
(((zn (ix a1 x2))≠0->
(((zn (ix a1 x2)):Int)=(l0_.1))/\
((x2:Int)=(l0_.2))/\
 True))/\
((zn (ix a1 x2))=0->
(((ix a1 x2).Kind≠4->
(I64 (x2+1))/\
(a0=a0)/\
(a1=a1)/\
(j8 a0 a1 (x2+1))/\
 zu a0 a1 (x2+1)<zu a0 a1 x2))/\
((ix a1 x2).Kind=4->
(I64 (x2-1))/\
((0<=(x2-1)->
(((x2-1)<(ln a1)->
(Wn (x2-1) (ln a1))/\
(((ix a1 (x2-1)).Kind≠4->
(((ix a1 x2).Last=true->
((3:Int)=(l0_.1))/\
((x2:Int)=(l0_.2))/\
 True))/\
((ix a1 x2).Last=false->
(I64 (x2+1))/\
((0<=(x2+1)->
(((x2+1)<(ln a1)->
(Wn (x2+1) (ln a1))/\
(((ix a1 (x2+1)).Kind≠4->
((3:Int)=(l0_.1))/\
((x2:Int)=(l0_.2))/\
 True))/\
((ix a1 (x2+1)).Kind=4->
(I64 (x2+1))/\
(a0=a0)/\
(a1=a1)/\
(j8 a0 a1 (x2+1))/\
 zu a0 a1 (x2+1)<zu a0 a1 x2)))/\
((ln a1)<=(x2+1)->
((3:Int)=(l0_.1))/\
((x2:Int)=(l0_.2))/\
 True)))/\
((x2+1)<0->
((3:Int)=(l0_.1))/\
((x2:Int)=(l0_.2))/\
 True))))/\
((ix a1 (x2-1)).Kind=4->
(I64 (x2-1))/\
(Wn (x2-1) (ln a1))/\
(((ix a1 (x2-1)).Last=true->
(((ix a1 x2).Last=true->
((3:Int)=(l0_.1))/\
((x2:Int)=(l0_.2))/\
 True))/\
((ix a1 x2).Last=false->
(I64 (x2+1))/\
((0<=(x2+1)->
(((x2+1)<(ln a1)->
(Wn (x2+1) (ln a1))/\
(((ix a1 (x2+1)).Kind≠4->
((3:Int)=(l0_.1))/\
((x2:Int)=(l0_.2))/\
 True))/\
((ix a1 (x2+1)).Kind=4->
(I64 (x2+1))/\
(a0=a0)/\
(a1=a1)/\
(j8 a0 a1 (x2+1))/\
 zu a0 a1 (x2+1)<zu a0 a1 x2)))/\
((ln a1)<=(x2+1)->
((3:Int)=(l0_.1))/\
((x2:Int)=(l0_.2))/\
 True)))/\
((x2+1)<0->
((3:Int)=(l0_.1))/\
((x2:Int)=(l0_.2))/\
 True))))/\
((ix a1 (x2-1)).Last=false->
(((ix a1 x2).Last=false->
(I64 (x2+1))/\
((0<=(x2+1)->
(((x2+1)<(ln a1)->
(Wn (x2+1) (ln a1))/\
(((ix a1 (x2+1)).Kind≠4->
((3:Int)=(l0_.1))/\
((x2:Int)=(l0_.2))/\
 True))/\
((ix a1 (x2+1)).Kind=4->
(I64 (x2+1))/\
(a0=a0)/\
(a1=a1)/\
(j8 a0 a1 (x2+1))/\
 zu a0 a1 (x2+1)<zu a0 a1 x2)))/\
((ln a1)<=(x2+1)->
((3:Int)=(l0_.1))/\
((x2:Int)=(l0_.2))/\
 True)))/\
((x2+1)<0->
((3:Int)=(l0_.1))/\
((x2:Int)=(l0_.2))/\
 True)))/\
((ix a1 x2).Last=true->
(I64 (x2+1))/\
(a0=a0)/\
(a1=a1)/\
(j8 a0 a1 (x2+1))/\
 zu a0 a1 (x2+1)<zu a0 a1 x2)))))/\
((ln a1)<=(x2-1)->
(((ix a1 x2).Last=true->
((3:Int)=(l0_.1))/\
((x2:Int)=(l0_.2))/\
 True))/\
((ix a1 x2).Last=false->
(I64 (x2+1))/\
((0<=(x2+1)->
(((x2+1)<(ln a1)->
(Wn (x2+1) (ln a1))/\
(((ix a1 (x2+1)).Kind≠4->
((3:Int)=(l0_.1))/\
((x2:Int)=(l0_.2))/\
 True))/\
((ix a1 (x2+1)).Kind=4->
(I64 (x2+1))/\
(a0=a0)/\
(a1=a1)/\
(j8 a0 a1 (x2+1))/\
 zu a0 a1 (x2+1)<zu a0 a1 x2)))/\
((ln a1)<=(x2+1)->
((3:Int)=(l0_.1))/\
((x2:Int)=(l0_.2))/\
 True)))/\
((x2+1)<0->
((3:Int)=(l0_.1))/\
((x2:Int)=(l0_.2))/\
 True)))))/\
((x2-1)<0->
(((ix a1 x2).Last=true->
((3:Int)=(l0_.1))/\
((x2:Int)=(l0_.2))/\
 True))/\
((ix a1 x2).Last=false->
(I64 (x2+1))/\
((0<=(x2+1)->
(((x2+1)<(ln a1)->
(Wn (x2+1) (ln a1))/\
(((ix a1 (x2+1)).Kind≠4->
((3:Int)=(l0_.1))/\
((x2:Int)=(l0_.2))/\
 True))/\
((ix a1 (x2+1)).Kind=4->
(I64 (x2+1))/\
(a0=a0)/\
(a1=a1)/\
(j8 a0 a1 (x2+1))/\
 zu a0 a1 (x2+1)<zu a0 a1 x2)))/\
((ln a1)<=(x2+1)->
((3:Int)=(l0_.1))/\
((x2:Int)=(l0_.2))/\
 True)))/\
((x2+1)<0->
((3:Int)=(l0_.1))/\
((x2:Int)=(l0_.2))/\
 True)))))))/\
((ln a1)<=x2->
((0:Int)=(l0_.1))/\
((0:Int)=(l0_.2))/\
 True)))))
theorem q7z (a0:ZB) (a1:List Sign):jw (qq XK (jk q3u) (fun j ns=>match j,ns with | 0,[.i y0]=>j8 a0 a1 y0 | _,_=>False) (fun j ns=>match j,ns with | 0,[.i y0]=>zu a0 a1 y0 | _,_=>0)) {cfg sp with ann:=jv [(46,122,.inv 0 [.one 4 (.int .i64)] [])]} 3 46 [.agg [.str (a0),.list 4 (a1) none]] (qs6 a0 a1)=qoh a0 a1:=by kernel_rfl
def qyr:List (Nat×Ct KT):=[]
abbrev qn1 (a0:List Sign) (a1:List Sign):PV KT:=.sb 0 false ((qkx a0 a1)) ((qkx a0 a1)=true) ((qkx a0 a1)=false)
abbrev qps (a0:List Sign) (a1:List Sign):Prop:=
(((ln a0)≠(ln a1)->
(false=(qkx a0 a1))/\
 True))/\
((ln a0)=(ln a1)->
(qe6 a0 a1 0)/\
(∀ x1:Int,
 let l1_:=ix a1 x1;
 let l0_:=ix a0 x1;
(qe6 a0 a1 x1->
((x1<(ln a0)->
(Wn x1 (ln a0))/\
(Wn x1 (ln a1))/\
(((l0_.Kind≠l1_.Kind∨(l0_.Value≠l1_.Value∨(l0_.Place≠l1_.Place∨(l0_.Acc≠l1_.Acc∨(l0_.Color≠l1_.Color∨(l0_.Stem≠l1_.Stem∨(l0_.Oblique≠l1_.Oblique∨(l0_.Last≠l1_.Last∨(l0_.MensMax≠l1_.MensMax∨(l0_.MensMod≠l1_.MensMod∨(l0_.MensTem≠l1_.MensTem∨(l0_.MensPro≠l1_.MensPro∨(l0_.Stroke≠l1_.Stroke∨(l0_.N≠l1_.N∨(l0_.D≠l1_.D∨(l0_.ClefStep≠l1_.ClefStep∨l0_.ClefLine≠l1_.ClefLine))))))))))))))))->
(false=(qkx a0 a1))/\
 True))/\
((l0_.Kind=l1_.Kind/\(l0_.Value=l1_.Value/\(l0_.Place=l1_.Place/\(l0_.Acc=l1_.Acc/\(l0_.Color=l1_.Color/\(l0_.Stem=l1_.Stem/\(l0_.Oblique=l1_.Oblique/\(l0_.Last=l1_.Last/\(l0_.MensMax=l1_.MensMax/\(l0_.MensMod=l1_.MensMod/\(l0_.MensTem=l1_.MensTem/\(l0_.MensPro=l1_.MensPro/\(l0_.Stroke=l1_.Stroke/\(l0_.N=l1_.N/\(l0_.D=l1_.D/\(l0_.ClefStep=l1_.ClefStep/\l0_.ClefLine=l1_.ClefLine))))))))))))))))->
(I64 (x1+1))/\
(qe6 a0 a1 (x1+1))/\
 qeh a0 a1 (x1+1)<qeh a0 a1 x1)))/\
((ln a0)<=x1->
(true=(qkx a0 a1))/\
 True))))
theorem q1z (a0:List Sign) (a1:List Sign):jw (qq XK (jk qyr) (fun j ns=>match j,ns with | 0,[.i y0]=>qe6 a0 a1 y0 | _,_=>False) (fun j ns=>match j,ns with | 0,[.i y0]=>qeh a0 a1 y0 | _,_=>0)) {cfg sp with ann:=jv [(47,58,.inv 0 [.one 5 (.int .i64)] [])]} 3 47 [.list 4 (a0) none,.list 4 (a1) none] (qn1 a0 a1)=qps a0 a1:=by kernel_rfl
def q1w:List (Nat×Ct KT):=[(47,zp4)]
abbrev qpr (a0:ZB) (a1:List Sign) (a2:ZB) (a3:List Sign):PV KT:=.sb 0 false ((jj a0 a1 a2 a3)) ((jj a0 a1 a2 a3)=true) ((jj a0 a1 a2 a3)=false)
abbrev qte (a0:ZB) (a1:List Sign) (a2:ZB) (a3:List Sign):Prop:=
((a0=a2->
((ln a1<=10000000))/\
((qkx a1 a3)=(jj a0 a1 a2 a3))/\
 True))/\
(a0≠a2->
(false=(jj a0 a1 a2 a3))/\
 True)
theorem q38 (a0:ZB) (a1:List Sign) (a2:ZB) (a3:List Sign):jw (qq XK (jk q1w) (fun _ _=>False) (fun _ _=>0)) {cfg sp with ann:=jv []} 3 17 [.agg [.str (a0),.list 4 (a1) none],.agg [.str (a2),.list 4 (a3) none]] (qpr a0 a1 a2 a3)=qte a0 a1 a2 a3:=by kernel_rfl
end Go.Proofs.YtbopmiclcimjgaaGreatDoor
