import Derived.Test.YtbopmiclcimjgaaGreatDoorCts
namespace Go.Proofs.YtbopmiclcimjgaaGreatDoor
open Go Go.E2 Go.E3
set_option maxRecDepth 100000
variable {sp:Nat->Option (List V->Heap->Option (CR×Heap))}
def q8i:List (Nat×Ct KT):=[(23,zpz),(49,zmh),(44,zp2),(12,zpu)]
abbrev qvk (a0:ZB):PV KT:=.tuple [.agg [.str (((qo a0).1.1)),.list 4 (((qo a0).1.2)) none],.agg [.int .i64 none (((qo a0).2.1)),.int .i64 none (((qo a0).2.2))]]
abbrev qrk (v0:ZB) (v1:Int) (p:Prop):Prop:=
((ix (ix ((qa v0).1) 0).Words 1).Text=(ix (ix ((qa v0).1) 0).Words 1).Text)/\
(((ix (fr ((qa v0).1) 1) v1).At:Int)=(ix (fr ((qa v0).1) 1) v1).At)/\
((ix (fr ((qa v0).1) 1) v1).Words=(ix (fr ((qa v0).1) 1) v1).Words)/\
((((qa v0).2.1):Int)=((qa v0).2.1))/\
((((qa v0).2.2):Int)=((qa v0).2.2))/\
(([]:ZB)=([]:ZB))/\
 p
abbrev qrl (v0:ZB) (p:Prop):Prop:=
((ix (ix ((qa v0).1) 0).Words 1).Text=(ix (ix ((qa v0).1) 0).Words 1).Text)/\
((((qa v0).2.1):Int)=((qa v0).2.1))/\
((((qa v0).2.2):Int)=((qa v0).2.2))/\
(([]:ZB)=([]:ZB))/\
 p
abbrev qrj (a0:ZB):Prop:=
 let l1_:=ix ((qa a0).1) 0;
(True)/\
((((qa a0).2.1)≠0->
(([]:ZB)=((qo a0).1.1))/\
(([]:List Sign)=((qo a0).1.2))/\
((((qa a0).2.1):Int)=((qo a0).2.1))/\
((((qa a0).2.2):Int)=((qo a0).2.2))/\
 True))/\
(((qa a0).2.1)=0->
(((ln ((qa a0).1))=0->
(([]:ZB)=((qo a0).1.1))/\
(([]:List Sign)=((qo a0).1.2))/\
((9:Int)=((qo a0).2.1))/\
(((ln a0):Int)=((qo a0).2.2))/\
 True))/\
((ln ((qa a0).1))≠0->
(Wn 0 (ln ((qa a0).1)))/\
(Wn 0 (ln l1_.Words))/\
(((ix l1_.Words 0).Text≠([112,97,114,116]:ZB)->
(Wn 0 (ln l1_.Words))/\
(([]:ZB)=((qo a0).1.1))/\
(([]:List Sign)=((qo a0).1.2))/\
((3:Int)=((qo a0).2.1))/\
(((ix l1_.Words 0).At:Int)=((qo a0).2.2))/\
 True))/\
((ix l1_.Words 0).Text=([112,97,114,116]:ZB)->
(Wn 0 (ln l1_.Words))/\
(((ix l1_.Words 0).Quoted=true->
(Wn 0 (ln l1_.Words))/\
(([]:ZB)=((qo a0).1.1))/\
(([]:List Sign)=((qo a0).1.2))/\
((3:Int)=((qo a0).2.1))/\
(((ix l1_.Words 0).At:Int)=((qo a0).2.2))/\
 True))/\
((ix l1_.Words 0).Quoted=false->
(((ln l1_.Words)≠2->
(Wn 0 (ln l1_.Words))/\
(([]:ZB)=((qo a0).1.1))/\
(([]:List Sign)=((qo a0).1.2))/\
((3:Int)=((qo a0).2.1))/\
(((ix l1_.Words 0).At:Int)=((qo a0).2.2))/\
 True))/\
((ln l1_.Words)=2->
(Wn 1 (ln l1_.Words))/\
(((ix l1_.Words 1).Quoted=true->
(Wn 1 (ln l1_.Words))/\
(([]:ZB)=((qo a0).1.1))/\
(([]:List Sign)=((qo a0).1.2))/\
((7:Int)=((qo a0).2.1))/\
(((ix l1_.Words 1).At:Int)=((qo a0).2.2))/\
 True))/\
((ix l1_.Words 1).Quoted=false->
(Wn 1 (ln l1_.Words))/\
((ln (ix l1_.Words 1).Text<=9223372036854775806))/\
(((jg (ix l1_.Words 1).Text)=false->
(Wn 1 (ln l1_.Words))/\
(([]:ZB)=((qo a0).1.1))/\
(([]:List Sign)=((qo a0).1.2))/\
((7:Int)=((qo a0).2.1))/\
(((ix l1_.Words 1).At:Int)=((qo a0).2.2))/\
 True))/\
((jg (ix l1_.Words 1).Text)=true->
(Wn 1 (ln l1_.Words))/\
((0:Int)<=1/\1<=ln ((qa a0).1))/\
(jm a0 ([]:List Sign) ([]:List Word) 0)/\
(∀ x7:List Sign,
(∀ x8:List Word,
(∀ x9:Int,
 let l0_:=ix (fr ((qa a0).1) 1) x9;
(jm a0 x7 x8 x9->
((x9<(ln (fr ((qa a0).1) 1))->
(Wn x9 (ln (fr ((qa a0).1) 1)))/\
(Wn 0 (ln l0_.Words))/\
(((ix l0_.Words 0).Text=([101,110,100]:ZB)->
(Wn 0 (ln l0_.Words))/\
(((ix l0_.Words 0).Quoted=false->
((1<(ln l0_.Words)->
(Wn 1 (ln l0_.Words))/\
(([]:ZB)=((qo a0).1.1))/\
(([]:List Sign)=((qo a0).1.2))/\
((3:Int)=((qo a0).2.1))/\
(((ix l0_.Words 1).At:Int)=((qo a0).2.2))/\
 True))/\
((ln l0_.Words)<=1->
(I64 (x9+2))/\
(((x9+2)<(ln ((qa a0).1))->
(I64 (x9+2))/\
(Wn (x9+2) (ln ((qa a0).1)))/\
(Wn 0 (ln (ix ((qa a0).1) (x9+2)).Words))/\
(([]:ZB)=((qo a0).1.1))/\
(([]:List Sign)=((qo a0).1.2))/\
((3:Int)=((qo a0).2.1))/\
(((ix (ix ((qa a0).1) (x9+2)).Words 0).At:Int)=((qo a0).2.2))/\
 True))/\
((ln ((qa a0).1))<=(x9+2)->
((ln (ix l1_.Words 1).Text<=1000000000/\ln x7<=1000000000))/\
((((zo (ix l1_.Words 1).Text x7).1)≠0->
(Wn ((zo (ix l1_.Words 1).Text x7).2) (ln x8))/\
(([]:ZB)=((qo a0).1.1))/\
(([]:List Sign)=((qo a0).1.2))/\
((((zo (ix l1_.Words 1).Text x7).1):Int)=((qo a0).2.1))/\
(((ix x8 ((zo (ix l1_.Words 1).Text x7).2)).At:Int)=((qo a0).2.2))/\
 True))/\
(((zo (ix l1_.Words 1).Text x7).1)=0->
((ix l1_.Words 1).Text=((qo a0).1.1))/\
(x7=((qo a0).1.2))/\
((0:Int)=((qo a0).2.1))/\
((0:Int)=((qo a0).2.2))/\
 True)))))/\
((ix l0_.Words 0).Quoted=true->
(kv a0 x7 x8 0 x9)/\
(∀ x14:List Sign,
(∀ x15:List Word,
(∀ x16:Int,
 let l2_:=ix l0_.Words x16;
(kv a0 x14 x15 x16 x9->
((x16<(ln l0_.Words)->
(Wn x16 (ln l0_.Words))/\
((l2_.Quoted=true->
(([]:ZB)=((qo a0).1.1))/\
(([]:List Sign)=((qo a0).1.2))/\
((3:Int)=((qo a0).2.1))/\
((l2_.At:Int)=((qo a0).2.2))/\
 True))/\
(l2_.Quoted=false->
((ln l2_.Text<=1000))/\
((((zj l2_.Text).2)≠0->
(([]:ZB)=((qo a0).1.1))/\
(([]:List Sign)=((qo a0).1.2))/\
((((zj l2_.Text).2):Int)=((qo a0).2.1))/\
((l2_.At:Int)=((qo a0).2.2))/\
 True))/\
(((zj l2_.Text).2)=0->
(True)/\
(zk (List.length x14+List.length [((zj l2_.Text).1)]))/\
(True)/\
(zk (List.length x15+List.length [l2_]))/\
(I64 (x16+1))/\
(qrk a0 x9 (
(kv a0 (x14++[((zj l2_.Text).1)]) (x15++[l2_]) (x16+1) x9)/\
 qbx a0 (x14++[((zj l2_.Text).1)]) (x15++[l2_]) (x16+1) x9<qbx a0 x14 x15 x16 x9))))))/\
((ln l0_.Words)<=x16->
(I64 (x9+1))/\
(qrl a0 (
(jm a0 x14 x15 (x9+1))/\
 qbw a0 x14 x15 (x9+1)<qbw a0 x7 x8 x9))))))))))/\
((ix l0_.Words 0).Text≠([101,110,100]:ZB)->
(kv a0 x7 x8 0 x9)/\
(∀ x13:List Sign,
(∀ x14:List Word,
(∀ x15:Int,
 let l3_:=ix l0_.Words x15;
(kv a0 x13 x14 x15 x9->
((x15<(ln l0_.Words)->
(Wn x15 (ln l0_.Words))/\
((l3_.Quoted=true->
(([]:ZB)=((qo a0).1.1))/\
(([]:List Sign)=((qo a0).1.2))/\
((3:Int)=((qo a0).2.1))/\
((l3_.At:Int)=((qo a0).2.2))/\
 True))/\
(l3_.Quoted=false->
((ln l3_.Text<=1000))/\
((((zj l3_.Text).2)≠0->
(([]:ZB)=((qo a0).1.1))/\
(([]:List Sign)=((qo a0).1.2))/\
((((zj l3_.Text).2):Int)=((qo a0).2.1))/\
((l3_.At:Int)=((qo a0).2.2))/\
 True))/\
(((zj l3_.Text).2)=0->
(True)/\
(zk (List.length x13+List.length [((zj l3_.Text).1)]))/\
(True)/\
(zk (List.length x14+List.length [l3_]))/\
(I64 (x15+1))/\
(qrk a0 x9 (
(kv a0 (x13++[((zj l3_.Text).1)]) (x14++[l3_]) (x15+1) x9)/\
 qbx a0 (x13++[((zj l3_.Text).1)]) (x14++[l3_]) (x15+1) x9<qbx a0 x13 x14 x15 x9))))))/\
((ln l0_.Words)<=x15->
(I64 (x9+1))/\
(qrl a0 (
(jm a0 x13 x14 (x9+1))/\
 qbw a0 x13 x14 (x9+1)<qbw a0 x7 x8 x9))))))))))/\
((ln (fr ((qa a0).1) 1))<=x9->
(([]:ZB)=((qo a0).1.1))/\
(([]:List Sign)=((qo a0).1.2))/\
((9:Int)=((qo a0).2.1))/\
(((ln a0):Int)=((qo a0).2.2))/\
 True))))))))))))
theorem zdm (a0:ZB):jw (qq XK (jk q8i) (fun j ns=>match j,ns with | 0,[.l 4 y0,.l 5 y1,.i y2]=>jm a0 y0 y1 y2 | 1,[.l 4 y0,.l 5 y1,.i y2,.i y3]=>kv a0 y0 y1 y2 y3 | _,_=>False) (fun j ns=>match j,ns with | 0,[.l 4 y0,.l 5 y1,.i y2]=>qbw a0 y0 y1 y2 | 1,[.l 4 y0,.l 5 y1,.i y2,.i y3]=>qbx a0 y0 y1 y2 y3 | _,_=>0)) {cfg sp with ann:=jv [(18,4090,.inv 0 [.via 7 [.keep,.list 4 true true],.one 8 (.list 5 true false),.one 88 (.int .i64)] []),(18,2094286,.inv 1 [.via 7 [.keep,.list 4 true true],.one 8 (.list 5 true false),.one 154 (.int .i64)] [.one 90 (.int .i64)])]} 6 18 [.str (a0)] (qvk a0)=qrj a0:=by kernel_rfl
def q8j:List (Nat×Ct KT):=[(50,zp5),(102,za8),(46,zp3),(13,zpv)]
abbrev qvl (a0:ZB):PV KT:=.tuple [.agg [.str (((qo a0).1.1)),.list 4 (((qo a0).1.2)) none],.agg [.int .i64 none (((qo a0).2.1)),.int .i64 none (((qo a0).2.2))]]
abbrev qkr (v0:ZB) (p:Prop):Prop:=
((ix (ix ((qa v0).1) 0).Words 1).Text=(ix (ix ((qa v0).1) 0).Words 1).Text)/\
(([]:ZB)=([]:ZB))/\
 p
abbrev qrm (a0:ZB):Prop:=
 let l0_:=(qa a0).1;
 let l3_:=ln (ix l0_ 0).Words;
 let l2_:=ix (ix l0_ 0).Words 1;
(True)/\
((((qa a0).2.1)≠0->
(([]:ZB)=((qo a0).1.1))/\
(([]:List Sign)=((qo a0).1.2))/\
((((qa a0).2.1):Int)=((qo a0).2.1))/\
((((qa a0).2.2):Int)=((qo a0).2.2))/\
 True))/\
(((qa a0).2.1)=0->
(((ln l0_)=0->
(([]:ZB)=((qo a0).1.1))/\
(([]:List Sign)=((qo a0).1.2))/\
((9:Int)=((qo a0).2.1))/\
(((ln a0):Int)=((qo a0).2.2))/\
 True))/\
((ln l0_)≠0->
(Wn 0 (ln l0_))/\
(Wn 0 l3_)/\
(((ix (ix l0_ 0).Words 0).Text≠([112,97,114,116]:ZB)->
(Wn 0 l3_)/\
(([]:ZB)=((qo a0).1.1))/\
(([]:List Sign)=((qo a0).1.2))/\
((3:Int)=((qo a0).2.1))/\
(((ix (ix l0_ 0).Words 0).At:Int)=((qo a0).2.2))/\
 True))/\
((ix (ix l0_ 0).Words 0).Text=([112,97,114,116]:ZB)->
(Wn 0 l3_)/\
(((ix (ix l0_ 0).Words 0).Quoted=true->
(Wn 0 l3_)/\
(([]:ZB)=((qo a0).1.1))/\
(([]:List Sign)=((qo a0).1.2))/\
((3:Int)=((qo a0).2.1))/\
(((ix (ix l0_ 0).Words 0).At:Int)=((qo a0).2.2))/\
 True))/\
((ix (ix l0_ 0).Words 0).Quoted=false->
((l3_≠2->
(Wn 0 l3_)/\
(([]:ZB)=((qo a0).1.1))/\
(([]:List Sign)=((qo a0).1.2))/\
((3:Int)=((qo a0).2.1))/\
(((ix (ix l0_ 0).Words 0).At:Int)=((qo a0).2.2))/\
 True))/\
(l3_=2->
(Wn 1 l3_)/\
((l2_.Quoted=true->
(Wn 1 l3_)/\
(([]:ZB)=((qo a0).1.1))/\
(([]:List Sign)=((qo a0).1.2))/\
((7:Int)=((qo a0).2.1))/\
((l2_.At:Int)=((qo a0).2.2))/\
 True))/\
(l2_.Quoted=false->
(Wn 1 l3_)/\
((ln l2_.Text<=9223372036854775806))/\
(((jg l2_.Text)=false->
(Wn 1 l3_)/\
(([]:ZB)=((qo a0).1.1))/\
(([]:List Sign)=((qo a0).1.2))/\
((7:Int)=((qo a0).2.1))/\
((l2_.At:Int)=((qo a0).2.2))/\
 True))/\
((jg l2_.Text)=true->
(Wn 0 (ln l0_))/\
(Wn 1 l3_)/\
(jn a0 ([]:List Sign) ([]:List Int) 1)/\
(∀ x7:List Sign,
(∀ x8:List Int,
(∀ x9:Int,
 let l1_:=ix l0_ x9;
 let l6_:=ln l1_.Words;
(jn a0 x7 x8 x9->
((x9<(ln l0_)->
(Wn x9 (ln l0_))/\
(Wn 0 l6_)/\
(((ix l1_.Words 0).Text=([101,110,100]:ZB)->
(Wn 0 l6_)/\
(((ix l1_.Words 0).Quoted=false->
((1<l6_->
(Wn 1 l6_)/\
(([]:ZB)=((qo a0).1.1))/\
(([]:List Sign)=((qo a0).1.2))/\
((3:Int)=((qo a0).2.1))/\
(((ix l1_.Words 1).At:Int)=((qo a0).2.2))/\
 True))/\
(l6_<=1->
(I64 (x9+1))/\
(((x9+1)<(ln l0_)->
(I64 (x9+1))/\
(Wn (x9+1) (ln l0_))/\
(Wn 0 (ln (ix l0_ (x9+1)).Words))/\
(([]:ZB)=((qo a0).1.1))/\
(([]:List Sign)=((qo a0).1.2))/\
((3:Int)=((qo a0).2.1))/\
(((ix (ix l0_ (x9+1)).Words 0).At:Int)=((qo a0).2.2))/\
 True))/\
((ln l0_)<=(x9+1)->
((ln l2_.Text<=1000000000/\ln x7<=1000000000))/\
((((zo l2_.Text x7).1)≠0->
(Wn ((zo l2_.Text x7).2) (ln x8))/\
(([]:ZB)=((qo a0).1.1))/\
(([]:List Sign)=((qo a0).1.2))/\
((((zo l2_.Text x7).1):Int)=((qo a0).2.1))/\
(((ix x8 ((zo l2_.Text x7).2)):Int)=((qo a0).2.2))/\
 True))/\
(((zo l2_.Text x7).1)=0->
(l2_.Text=((qo a0).1.1))/\
(x7=((qo a0).1.2))/\
((0:Int)=((qo a0).2.1))/\
((0:Int)=((qo a0).2.2))/\
 True)))))/\
((ix l1_.Words 0).Quoted=true->
(kx a0 x7 x8 0 x9)/\
(∀ x14:List Sign,
(∀ x15:List Int,
(∀ x16:Int,
 let l4_:=ix l1_.Words x16;
(kx a0 x14 x15 x16 x9->
((x16<l6_->
(Wn x16 l6_)/\
((ln l4_.Text<=1000))/\
(Wn x16 l6_)/\
((l4_.Quoted=true->
(Wn x16 l6_)/\
(([]:ZB)=((qo a0).1.1))/\
(([]:List Sign)=((qo a0).1.2))/\
((3:Int)=((qo a0).2.1))/\
((l4_.At:Int)=((qo a0).2.2))/\
 True))/\
(l4_.Quoted=false->
((((zc l4_.Text).2)≠0->
(Wn x16 l6_)/\
(([]:ZB)=((qo a0).1.1))/\
(([]:List Sign)=((qo a0).1.2))/\
((((zc l4_.Text).2):Int)=((qo a0).2.1))/\
((l4_.At:Int)=((qo a0).2.2))/\
 True))/\
(((zc l4_.Text).2)=0->
(True)/\
(zk (List.length x14+List.length [((zc l4_.Text).1)]))/\
(Wn x16 l6_)/\
(True)/\
(zk (List.length x15+List.length ([l4_.At]:List Int)))/\
(I64 (x16+1))/\
(qkr a0 (
(kx a0 (x14++[((zc l4_.Text).1)]) (x15++([l4_.At]:List Int)) (x16+1) x9)/\
 qbz a0 (x14++[((zc l4_.Text).1)]) (x15++([l4_.At]:List Int)) (x16+1) x9<qbz a0 x14 x15 x16 x9))))))/\
(l6_<=x16->
(I64 (x9+1))/\
(qkr a0 (
(jn a0 x14 x15 (x9+1))/\
 qby a0 x14 x15 (x9+1)<qby a0 x7 x8 x9))))))))))/\
((ix l1_.Words 0).Text≠([101,110,100]:ZB)->
(kx a0 x7 x8 0 x9)/\
(∀ x13:List Sign,
(∀ x14:List Int,
(∀ x15:Int,
 let l5_:=ix l1_.Words x15;
(kx a0 x13 x14 x15 x9->
((x15<l6_->
(Wn x15 l6_)/\
((ln l5_.Text<=1000))/\
(Wn x15 l6_)/\
((l5_.Quoted=true->
(Wn x15 l6_)/\
(([]:ZB)=((qo a0).1.1))/\
(([]:List Sign)=((qo a0).1.2))/\
((3:Int)=((qo a0).2.1))/\
((l5_.At:Int)=((qo a0).2.2))/\
 True))/\
(l5_.Quoted=false->
((((zc l5_.Text).2)≠0->
(Wn x15 l6_)/\
(([]:ZB)=((qo a0).1.1))/\
(([]:List Sign)=((qo a0).1.2))/\
((((zc l5_.Text).2):Int)=((qo a0).2.1))/\
((l5_.At:Int)=((qo a0).2.2))/\
 True))/\
(((zc l5_.Text).2)=0->
(True)/\
(zk (List.length x13+List.length [((zc l5_.Text).1)]))/\
(Wn x15 l6_)/\
(True)/\
(zk (List.length x14+List.length ([l5_.At]:List Int)))/\
(I64 (x15+1))/\
(qkr a0 (
(kx a0 (x13++[((zc l5_.Text).1)]) (x14++([l5_.At]:List Int)) (x15+1) x9)/\
 qbz a0 (x13++[((zc l5_.Text).1)]) (x14++([l5_.At]:List Int)) (x15+1) x9<qbz a0 x13 x14 x15 x9))))))/\
(l6_<=x15->
(I64 (x9+1))/\
(qkr a0 (
(jn a0 x13 x14 (x9+1))/\
 qby a0 x13 x14 (x9+1)<qby a0 x7 x8 x9))))))))))/\
((ln l0_)<=x9->
(([]:ZB)=((qo a0).1.1))/\
(([]:List Sign)=((qo a0).1.2))/\
((9:Int)=((qo a0).2.1))/\
(((ln a0):Int)=((qo a0).2.2))/\
 True))))))))))))
theorem zdp (a0:ZB):jw (qq XK (jk q8j) (fun j ns=>match j,ns with | 0,[.l 4 y0,.l 1 y1,.i y2]=>jn a0 y0 y1 y2 | 1,[.l 4 y0,.l 1 y1,.i y2,.i y3]=>kx a0 y0 y1 y2 y3 | _,_=>False) (fun j ns=>match j,ns with | 0,[.l 4 y0,.l 1 y1,.i y2]=>qby a0 y0 y1 y2 | 1,[.l 4 y0,.l 1 y1,.i y2,.i y3]=>qbz a0 y0 y1 y2 y3 | _,_=>0)) {cfg sp with ann:=jv [(19,4090,.inv 0 [.via 7 [.keep,.list 4 true true],.one 8 (.list 1 true false),.one 9 (.int .i64)] []),(19,1047118,.inv 1 [.via 7 [.keep,.list 4 true true],.one 8 (.list 1 true false),.one 13 (.int .i64)] [.one 9 (.int .i64)])]} 6 19 [.str (a0)] (qvl a0)=qrm a0:=by kernel_rfl
def qyz:List (Nat×Ct KT):=[(9,ct9),(18,zpx),(19,zpy),(17,zpw)]
abbrev qn5 (a0:ZB):PV KT:=.sb 0 false ((true)) ((true)=true) ((true)=false)
abbrev qle (a0:ZB):Prop:=
 let l0_:=jj ((qo a0).1.1) ((qo a0).1.2) ((qo a0).1.1) ((qo a0).1.2);
((3000<(ln a0)->
(((ln a0)<=20000->
(True)/\
((true)=(true))/\
 True))/\
(20000<(ln a0)->
((30000<(ln a0)->
(True)/\
((true)=(true))/\
 True))/\
((ln a0)<=30000->
((ln a0<=1000000000))/\
((ln a0<=1000000000))/\
((ln ((qo a0).1.2)<=10000000))/\
((l0_=true->
(((((qo a0).2.1)=((qo a0).2.1)/\((qo a0).2.2)=((qo a0).2.2))->
(True)/\
((true)=(true))/\
 True))/\
((((qo a0).2.1)≠((qo a0).2.1)∨((qo a0).2.2)≠((qo a0).2.2))->
(false=(true))/\
 True)))/\
(l0_=false->
(false=(true))/\
 True)))))/\
((ln a0)<=3000->
((30000<(ln a0)->
(True)/\
((true)=(true))/\
 True))/\
((ln a0)<=30000->
((ln a0<=1000000000))/\
((ln a0<=1000000000))/\
((ln ((qo a0).1.2)<=10000000))/\
((l0_=true->
(((((qo a0).2.1)=((qo a0).2.1)/\((qo a0).2.2)=((qo a0).2.2))->
(True)/\
((true)=(true))/\
 True))/\
((((qo a0).2.1)≠((qo a0).2.1)∨((qo a0).2.2)≠((qo a0).2.2))->
(false=(true))/\
 True)))/\
(l0_=false->
(false=(true))/\
 True)))
theorem q2o (a0:ZB):jw (qq XK (jk qyz) (fun _ _=>False) (fun _ _=>0)) {cfg sp with ann:=jv []} 3 5 [.str (a0)] (qn5 a0)=qle a0:=by kernel_rfl
end Go.Proofs.YtbopmiclcimjgaaGreatDoor
