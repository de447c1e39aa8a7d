import Derived.Test.YtbopmiclcimjgaaGreatDoorOksN
namespace Go.Proofs.YtbopmiclcimjgaaGreatDoor
open Go Go.E2 Go.E3
set_option maxRecDepth 100000
set_option maxHeartbeats 16000000 in
theorem zgz (a0:ZB) (hp:ln a0<=1000):qvs a0:=by
 unfold qvs qiv ql3 qf1 ql4 ql5 ql6
 dsimp only
 have q0:ln ([]:ZB)=0:=rfl
 have q4:ln ([116,117,114,110]:ZB)=4:=rfl
 have q3:ln ([115,105,103]:ZB)=3:=rfl
 have q8:ln ([88,76,66,83,77,81,70,90]:ZB)=8:=rfl
 have q5:ln ([32,94,118,62]:ZB)=4:=rfl
 have s1:sub ([32,94,118,62]:ZB) 1 2=[94]:=rfl
 have s2:sub ([32,94,118,62]:ZB) 2 3=[118]:=rfl
 have s3:sub ([32,94,118,62]:ZB) 3 4=[62]:=rfl
 simp only [q0,q4,q3,q8,q5,s1,s2,s3,zpf,Int.zero_add,zts,zqu,eq_self,true_and]
 clear q0 q4 q3 q8 q5 s1 s2 s3
 have hn:=zb a0
 refine ⟨⟨⟨fun j a b=>absurd a (by omega)⟩,trivial⟩,fun i0=>⟨?_,fun i1=>⟨?_,fun i2=>⟨?_,fun i3=>⟨?_,fun i4=>⟨?_,fun i5=>⟨?_,fun i6=>⟨?_,fun i7=>⟨?_,fun i8=>⟨?_,fun i9=>⟨?_,fun i10=>⟨?_,fun i11=>⟨?_,fun i12=>?_⟩⟩⟩⟩⟩⟩⟩⟩⟩⟩⟩⟩⟩
 .simp only [q3o,w0,w1,w2,w4,w5,w6,w7,zk]
  unhygienic (repeat' (first | exact trivial | (with_reducible exact rfl) | (with_reducible apply And.intro) | intro))
  all_goals first
   | omega
   | (with_reducible exact (pre_nil ‹_›).elim)
   | (with_reducible exact q56)
   | (with_reducible exact zco ‹_› ‹_› ‹_›)
   | (with_reducible exact zcm ‹_› ‹_›)
   | (with_reducible exact qyb ‹_› ‹_›)
   | (with_reducible exact qya ‹_› ‹_›)
   | (with_reducible exact q7l ‹_› ‹_›)
   | (with_reducible exact q7k ‹_› ‹_›)
   | (with_reducible exact zt8 ‹_› ‹_› ‹_› ‹_›)
   | (with_reducible exact zt7 ‹_› ‹_›)
   | (with_reducible exact zsx ‹_› (by omega))
   | (with_reducible exact zsw ‹_› (by omega))
   | (with_reducible exact qkv (by omega))
   | (with_reducible exact qnn ‹_› (by omega) ‹_› ‹_› ‹_›)
   | (with_reducible exact qnl (by omega))
   | (with_reducible exact qsh ‹_› ‹_›)
   | (with_reducible exact q0m ‹_› ‹_›)
   | (with_reducible exact q0l ‹_› ‹_›)
   | (with_reducible exact zs6 ‹_›)
   | (with_reducible exact zno ‹_›)
   | (with_reducible exact zno rfl)
   | (with_reducible exact qzr hp (by omega) ‹_› ‹_› ‹_›)
   | exact Int.le_trans (q12 hp (by omega) ‹_› ‹_› ‹_›) (by decide)
   | (with_reducible exact zs7 ‹_› (by omega))
   | (with_reducible exact zs8 ‹_› ‹_› (by omega))
   | (with_reducible exact zs9 ‹_› ‹_› ‹_› (by omega))
   | (with_reducible exact zta ‹_› ‹_› ‹_› ‹_›)
   | exact qus 1 i0 (by decide) (by decide) (zb9 ‹_› ‹_› ‹_› ‹_› ‹_› (by first | exact qlv ‹_› | exact qlu ‹_›) ‹_› (by omega)) ‹_›
   | exact qut 1 i0 (by decide) (by decide) (zb9 ‹_› ‹_› ‹_› ‹_› ‹_› (by first | exact qlv ‹_› | exact qlu ‹_›) ‹_› (by omega)) ‹_›
   | exact qdz 1 i0 (znb ‹_› ‹_› ‹_› ‹_› ‹_› (by first | exact qlv ‹_› | exact qlu ‹_›) (by first | (left;assumption) | (right;assumption) | (right;omega)))
   | fail "rest"
 .simp only [q3o,w5,zk]
  unhygienic (repeat' (first | exact trivial | (with_reducible exact rfl) | (with_reducible apply And.intro) | intro))
  all_goals first
   | omega
   | (with_reducible exact (pre_nil ‹_›).elim)
   | (with_reducible exact q56)
   | (with_reducible exact zco ‹_› ‹_› ‹_›)
   | (with_reducible exact zcm ‹_› ‹_›)
   | (with_reducible exact qyb ‹_› ‹_›)
   | (with_reducible exact qya ‹_› ‹_›)
   | (with_reducible exact q7l ‹_› ‹_›)
   | (with_reducible exact q7k ‹_› ‹_›)
   | exact qus 2 i1 (by decide) (by decide) (zca ‹_› ‹_› ‹_› ‹_› ‹_›) ‹_›
   | exact qut 2 i1 (by decide) (by decide) (zca ‹_› ‹_› ‹_› ‹_› ‹_›) ‹_›
   | exact qdz 2 i1 (znc ‹_› ‹_› ‹_› ‹_›)
   | exact qdz 2 i1 (zsu ‹_› ‹_›)
   | exact qdz 2 i1 (zqn ‹_›)
   | fail "rest"
 .simp only [q3o,zk]
  unhygienic (repeat' (first | exact trivial | (with_reducible exact rfl) | (with_reducible apply And.intro) | intro))
  all_goals first
   | omega
   | (with_reducible exact (pre_nil ‹_›).elim)
   | exact qus 3 i2 (by decide) (by decide) (zcc ‹_› (by omega)) ‹_›
   | exact qut 3 i2 (by decide) (by decide) (zcc ‹_› (by omega)) ‹_›
   | exact qdz 3 i2 (zcb (.inl ‹_›))
   | exact qdz 3 i2 (zcb (.inr (by omega)))
   | fail "rest"
 .simp only [q3o,w0,w1,w2,w4,w7,w8,w9,w10,zk]
  unhygienic (repeat' (first | exact trivial | (with_reducible exact rfl) | (with_reducible apply And.intro) | intro))
  all_goals first
   | omega
   | (with_reducible exact (pre_nil ‹_›).elim)
   | (with_reducible exact zsx ‹_› (by omega))
   | (with_reducible exact zsw ‹_› (by omega))
   | (with_reducible exact qkv (by omega))
   | (with_reducible exact qnn ‹_› (by omega) ‹_› ‹_› ‹_›)
   | (with_reducible exact qnl (by omega))
   | (with_reducible exact qsh ‹_› ‹_›)
   | (with_reducible exact q0m ‹_› ‹_›)
   | (with_reducible exact q0l ‹_› ‹_›)
   | (with_reducible exact zs6 ‹_›)
   | (with_reducible exact zno ‹_›)
   | (with_reducible exact zno rfl)
   | (with_reducible exact qzr hp (by omega) ‹_› ‹_› ‹_›)
   | exact Int.le_trans (q12 hp (by omega) ‹_› ‹_› ‹_›) (by decide)
   | (with_reducible exact zs7 ‹_› (by omega))
   | (with_reducible exact zs8 ‹_› ‹_› (by omega))
   | (with_reducible exact zs9 ‹_› ‹_› ‹_› (by omega))
   | (with_reducible exact zta ‹_› ‹_› ‹_› ‹_›)
   | (with_reducible exact zt9 ‹_› (by omega))
   | (with_reducible exact zua ‹_› ‹_› (by omega))
   | (with_reducible exact zub ‹_› ‹_› ‹_› (by omega))
   | (with_reducible exact zuc ‹_› ‹_› ‹_› ‹_›)
   | (with_reducible exact zsz ‹_› (by omega))
   | (with_reducible exact zsy ‹_› ‹_›)
   | exact zph ‹_› ‹_› ‹_› ‹_› (qlv ‹_›) (by omega) (by omega)
   | exact zph ‹_› ‹_› ‹_› ‹_› (qlu ‹_›) (by omega) (by omega)
   | exact qus 4 i3 (by decide) (by decide) (zcd ‹_› ‹_› ‹_› ‹_› (by first | exact qlv ‹_› | exact qlu ‹_›) ‹_› (by omega)) ‹_›
   | exact qut 4 i3 (by decide) (by decide) (zcd ‹_› ‹_› ‹_› ‹_› (by first | exact qlv ‹_› | exact qlu ‹_›) ‹_› (by omega)) ‹_›
   | exact qdz 4 i3 (znd ‹_› ‹_› ‹_› (by first | exact qlv ‹_› | exact qlu ‹_›) (by first | (left;assumption) | (right;assumption) | (right;omega)))
   | exact qdz 4 i3 (zqo ‹_›)
   | fail "rest"
 .simp only [ztx,zk]
  simp only [q3o]
  unhygienic (repeat' (first | exact trivial | (with_reducible exact rfl) | (with_reducible apply And.intro) | intro))
  all_goals first
   | omega
   | (with_reducible exact (pre_nil ‹_›).elim)
   | exact qip hp (by omega) (by omega) (by omega)
   | exact Int.le_trans (qip hp (by omega) (by omega) (by omega)) (by decide)
   | exact qus 5 i4 (by decide) (by decide) (zce ‹_› ‹_› (by first | exact qlv ‹_› | exact qlu ‹_›) ‹_› (by omega)) ‹_›
   | exact qut 5 i4 (by decide) (by decide) (zce ‹_› ‹_› (by first | exact qlv ‹_› | exact qlu ‹_›) ‹_› (by omega)) ‹_›
   | exact qdz 5 i4 (znf (by first | exact qlv ‹_› | exact qlu ‹_›) (by first | (left;assumption) | (right;assumption) | (right;omega)))
   | exact qdz 5 i4 (zne (.inl ‹_›))
   | exact qdz 5 i4 (zne (.inr ‹_›))
   | fail "rest"
 .simp only [q3o,w1,w2,w3,w11,zk]
  unhygienic (repeat' (first | exact trivial | (with_reducible exact rfl) | (with_reducible apply And.intro) | intro))
  all_goals first
   | omega
   | (with_reducible exact (pre_nil ‹_›).elim)
   | exact qip hp (by omega) (by omega) (by omega)
   | (with_reducible exact qkv (by omega))
   | (with_reducible exact qnn ‹_› (by omega) ‹_› ‹_› ‹_›)
   | (with_reducible exact qnl (by omega))
   | (with_reducible exact qsh ‹_› ‹_›)
   | (with_reducible exact q0m ‹_› ‹_›)
   | (with_reducible exact q0l ‹_› ‹_›)
   | (with_reducible exact znn ‹_›)
   | (with_reducible exact q55 ‹_›)
   | (with_reducible exact q55 rfl)
   | (with_reducible exact zs1 ‹_› (by omega))
   | (with_reducible exact zs0 ‹_› ‹_›)
   | exact qus 6 i5 (by decide) (by decide) (zcf ‹_› ‹_› ‹_› ‹_› ‹_› ‹_› (by omega)) ‹_›
   | exact qut 6 i5 (by decide) (by decide) (zcf ‹_› ‹_› ‹_› ‹_› ‹_› ‹_› (by omega)) ‹_›
   | exact qdz 6 i5 (zng ‹_› ‹_› ‹_› ‹_› ‹_› (by first | (left;assumption) | (right;assumption) | (right;omega)))
   | fail "rest"
 .simp only [q3o,w1,w2,w3,w12,zk]
  unhygienic (repeat' (first | exact trivial | (with_reducible exact rfl) | (with_reducible apply And.intro) | intro))
  all_goals first
   | omega
   | (with_reducible exact (pre_nil ‹_›).elim)
   | exact qip hp (by omega) (by omega) (by omega)
   | (with_reducible exact qkv (by omega))
   | (with_reducible exact qnn ‹_› (by omega) ‹_› ‹_› ‹_›)
   | (with_reducible exact qnl (by omega))
   | (with_reducible exact qsh ‹_› ‹_›)
   | (with_reducible exact q0m ‹_› ‹_›)
   | (with_reducible exact q0l ‹_› ‹_›)
   | (with_reducible exact znn ‹_›)
   | (with_reducible exact q55 ‹_›)
   | (with_reducible exact q55 rfl)
   | (with_reducible exact zs2 ‹_›)
   | (with_reducible exact zs3 ‹_› ‹_›)
   | (with_reducible exact zs4 ‹_› ‹_› ‹_›)
   | (with_reducible exact zs5 ‹_› ‹_› ‹_› (by omega))
   | exact qus 7 i6 (by decide) (by decide) (zcg ‹_› ‹_› ‹_› ‹_› ‹_› (by omega)) ‹_›
   | exact qut 7 i6 (by decide) (by decide) (zcg ‹_› ‹_› ‹_› ‹_› ‹_› (by omega)) ‹_›
   | exact qdz 7 i6 (znh ‹_› ‹_› ‹_› (by first | (left;assumption) | (right;assumption) | (right;omega)))
   | exact qdz 7 i6 (zqp ‹_›)
   | fail "rest"
 .simp only [q3o,w1,w2,w3,zk]
  unhygienic (repeat' (first | exact trivial | (with_reducible exact rfl) | (with_reducible apply And.intro) | intro))
  all_goals first
   | omega
   | (with_reducible exact (pre_nil ‹_›).elim)
   | exact qip hp (by omega) (by omega) (by omega)
   | (with_reducible exact qkv (by omega))
   | (with_reducible exact qnn ‹_› (by omega) ‹_› ‹_› ‹_›)
   | (with_reducible exact qnl (by omega))
   | (with_reducible exact qsh ‹_› ‹_›)
   | (with_reducible exact q0m ‹_› ‹_›)
   | (with_reducible exact q0l ‹_› ‹_›)
   | (with_reducible exact znn ‹_›)
   | (with_reducible exact q55 ‹_›)
   | (with_reducible exact q55 rfl)
   | exact qus 8 i7 (by decide) (by decide) (qu8 q0d ‹_› ‹_› ‹_› ‹_› (by omega)) ‹_›
   | exact qut 8 i7 (by decide) (by decide) (qu8 q0d ‹_› ‹_› ‹_› ‹_› (by omega)) ‹_›
   | exact qdz 8 i7 (zch q0d ‹_› ‹_› (by first | (left;assumption) | (right;assumption) | (right;omega)))
   | exact qdz 8 i7 (zex q0d ‹_›)
   | fail "rest"
 .skip
  unhygienic (repeat' (first | exact trivial | (with_reducible exact rfl) | (with_reducible apply And.intro) | intro))
  all_goals first
   | omega
   | (with_reducible exact (pre_nil ‹_›).elim)
   | exact qus 9 i8 (by decide) (by decide) (qnj (p:=[91]) rfl ‹_› ‹_›) ‹_›
   | exact qut 9 i8 (by decide) (by decide) (qnj (p:=[91]) rfl ‹_› ‹_›) ‹_›
   | exact qdz 9 i8 (qni (p:=[91]) rfl (.inl ‹_›))
   | exact qdz 9 i8 (qni (p:=[91]) rfl (.inr ‹_›))
   | fail "rest"
 .simp only [q3o,w1,w2,w3,zk]
  unhygienic (repeat' (first | exact trivial | (with_reducible exact rfl) | (with_reducible apply And.intro) | intro))
  all_goals first
   | omega
   | (with_reducible exact (pre_nil ‹_›).elim)
   | exact qip hp (by omega) (by omega) (by omega)
   | (with_reducible exact qkv (by omega))
   | (with_reducible exact qnn ‹_› (by omega) ‹_› ‹_› ‹_›)
   | (with_reducible exact qnl (by omega))
   | (with_reducible exact qsh ‹_› ‹_›)
   | (with_reducible exact q0m ‹_› ‹_›)
   | (with_reducible exact q0l ‹_› ‹_›)
   | (with_reducible exact znn ‹_›)
   | (with_reducible exact q55 ‹_›)
   | (with_reducible exact q55 rfl)
   | exact qus 10 i9 (by decide) (by decide) (qu8 qr7 ‹_› ‹_› ‹_› ‹_› (by omega)) ‹_›
   | exact qut 10 i9 (by decide) (by decide) (qu8 qr7 ‹_› ‹_› ‹_› ‹_› (by omega)) ‹_›
   | exact qdz 10 i9 (zch qr7 ‹_› ‹_› (by first | (left;assumption) | (right;assumption) | (right;omega)))
   | exact qdz 10 i9 (zex qr7 ‹_›)
   | fail "rest"
 .skip
  unhygienic (repeat' (first | exact trivial | (with_reducible exact rfl) | (with_reducible apply And.intro) | intro))
  all_goals first
   | omega
   | (with_reducible exact (pre_nil ‹_›).elim)
   | exact qus 11 i10 (by decide) (by decide) (qnj (p:=[116,117,114,110]) rfl ‹_› ‹_›) ‹_›
   | exact qut 11 i10 (by decide) (by decide) (qnj (p:=[116,117,114,110]) rfl ‹_› ‹_›) ‹_›
   | exact qdz 11 i10 (qni (p:=[116,117,114,110]) rfl (.inl ‹_›))
   | exact qdz 11 i10 (qni (p:=[116,117,114,110]) rfl (.inr ‹_›))
   | fail "rest"
 .skip
  unhygienic (repeat' (first | exact trivial | (with_reducible exact rfl) | (with_reducible apply And.intro) | intro))
  all_goals first
   | omega
   | (with_reducible exact (pre_nil ‹_›).elim)
   | exact qus 12 i11 (by decide) (by decide) (qnj (p:=[115,105,103]) rfl ‹_› ‹_›) ‹_›
   | exact qut 12 i11 (by decide) (by decide) (qnj (p:=[115,105,103]) rfl ‹_› ‹_›) ‹_›
   | exact qdz 12 i11 (qni (p:=[115,105,103]) rfl (.inl ‹_›))
   | exact qdz 12 i11 (qni (p:=[115,105,103]) rfl (.inr ‹_›))
   | fail "rest"
 .exact ztz i12
end Go.Proofs.YtbopmiclcimjgaaGreatDoor
