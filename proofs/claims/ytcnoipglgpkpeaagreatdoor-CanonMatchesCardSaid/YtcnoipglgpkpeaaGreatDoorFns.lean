import Derived.Test.YtcnoipglgpkpeaaGreatDoorOks
namespace Go.Proofs.YtcnoipglgpkpeaaGreatDoor
open Go Go.E2 Go.E3
set_option maxRecDepth 100000
variable {sp:Nat->Option (List V->Heap->Option (CR×Heap))}
theorem q1f (hq:qw (cfg sp)):∀ (m:Nat) (a0 a1:Int),Int.toNat a1=m->(0<=a0/\0<=a1/\a0<=4611686018427387904/\a1<=4611686018427387904)->qam XK szK (cfg sp) 79 [.int .i64 none a0,.int .i64 none a1] (qkz a0 a1):=by
 intro m
 induction m using Nat.strongRecOn with
 | _ m ih=>
  intro a0 a1 hm hp
  have hc:qbv XK szK (cfg sp) 79 (zby a0 a1):=by
   intro ns pre r h hp2
   unfold zby at h
   dsimp only at h
   split at h
   .cases h
    exact ⟨_,rfl,ih _ (by rw [<-hm];exact hp2.2) _ _ rfl hp2.1,zl rfl⟩
   .cases h
  exact qac jo kh (qb hc zf) hq (qx rfl) (by simp [P.flat,P.cellsOf,RT]) (q4i a0 a1) (q4h a0 a1 hp)
theorem q4g (hq:qw (cfg sp)) (a0 a1:Int) (hp:(0<=a0/\0<=a1/\a0<=4611686018427387904/\a1<=4611686018427387904)):qam XK szK (cfg sp) 79 [.int .i64 none a0,.int .i64 none a1] (qkz a0 a1):=q1f hq _ a0 a1 rfl hp
theorem qr6 (hq:qw (cfg sp)):qbv XK szK (cfg sp) 79 q84:=by
 intro ns pre r h hp
 unfold q84 at h
 dsimp only at h
 split at h
 .cases h
  exact ⟨_,rfl,q4g hq _ _ hp,zl rfl⟩
 .cases h
theorem q77 (hq:qw (cfg sp)) (a0 a1:Int):qam XK szK (cfg sp) 43 [.agg [.int .i64 none a0,.int .i64 none a1]] (qsj a0 a1):=
 qac jo kh (qb (qr6 hq) zf) hq (qx rfl) (by simp [P.flat,P.cellsOf,RT]) (q79 a0 a1) (q78 a0 a1 )
theorem qr4 (hq:qw (cfg sp)):qbv XK szK (cfg sp) 43 q82:=by
 intro ns pre r h hp
 unfold q82 at h
 dsimp only at h
 split at h
 .cases h
  exact ⟨_,rfl,q77 hq _ _,zl rfl⟩
 .cases h
theorem q9b (hq:qw (cfg sp)) (a0:List Time) (hp:(ln a0<=1000000000)):qam XK szK (cfg sp) 77 [.list 9 a0 none] (qtv a0):=
 qac jo kh (qb (qr4 hq) zf) hq (qx rfl) (by simp [P.flat,P.cellsOf,RT]) (q9d a0) (q9c a0 hp)
theorem qr5 (hq:qw (cfg sp)):qbv XK szK (cfg sp) 77 q83:=by
 intro ns pre r h hp
 unfold q83 at h
 dsimp only at h
 split at h
 .cases h
  exact ⟨_,rfl,q9b hq _ hp,zl rfl⟩
 .cases h
theorem zaz (hq:qw (cfg sp)) (a0 a1:Int) (hp:(0<=a0/\1<=a1/\a0<=4611686018427387904/\a1<=4611686018427387904)):qam XK szK (cfg sp) 78 [.int .i64 none a0,.int .i64 none a1] (qwa a0 a1):=
 qac jo kh (qb (qr6 hq) zf) hq (qx rfl) (by simp [P.flat,P.cellsOf,RT]) (za1 a0 a1) (za0 a0 a1 hp)
theorem q6i (hq:qw (cfg sp)):qbv XK szK (cfg sp) 78 zfu:=by
 intro ns pre r h hp
 unfold zfu at h
 dsimp only at h
 split at h
 .cases h
  exact ⟨_,rfl,zaz hq _ _ hp,zl rfl⟩
 .cases h
theorem zeo (hq:qw (cfg sp)) (a0 a1 a2 a3:Int):qam XK szK (cfg sp) 42 [.agg [.int .i64 none a0,.int .i64 none a1],.agg [.int .i64 none a2,.int .i64 none a3]] (qz7 a0 a1 a2 a3):=
 qac jo kh (qb (qr5 hq) (qb (q6i hq) zf)) hq (qx rfl) (by simp [P.flat,P.cellsOf,RT]) (zeq a0 a1 a2 a3) (zep a0 a1 a2 a3 )
theorem qjn (hq:qw (cfg sp)):qbv XK szK (cfg sp) 42 qyh:=by
 intro ns pre r h hp
 unfold qyh at h
 dsimp only at h
 split at h
 .cases h
  exact ⟨_,rfl,zeo hq _ _ _ _,zl rfl⟩
 .cases h
theorem zag (hq:qw (cfg sp)) (a0 a1 a2 a3:Int) (hp:(qnp a0 a1 a2 a3)):qam XK szK (cfg sp) 106 [.int .i64 none a0,.int .i64 none a1,.int .i64 none a2,.int .i64 none a3] (qva a0 a1 a2 a3):=
 qac jo kh (qb (qr6 hq) (qb (q6i hq) zf)) hq (qx rfl) (by simp [P.flat,P.cellsOf,RT]) (zai a0 a1 a2 a3) (zah a0 a1 a2 a3 hp)
theorem q1b (hq:qw (cfg sp)):qbv XK szK (cfg sp) 106 q6b:=by
 intro ns pre r h hp
 unfold q6b at h
 dsimp only at h
 split at h
 .cases h
  exact ⟨_,rfl,zag hq _ _ _ _ hp,zl rfl⟩
 .cases h
theorem ze1 (hq:qw (cfg sp)) (a0 a1 a2 a3:Int):qam XK szK (cfg sp) 90 [.agg [.int .i64 none a0,.int .i64 none a1],.agg [.int .i64 none a2,.int .i64 none a3]] (q0l a0 a1 a2 a3):=
 qac jo kh (qb (qr5 hq) (qb (q1b hq) zf)) hq (qx rfl) (by simp [P.flat,P.cellsOf,RT]) (ze3 a0 a1 a2 a3) (ze2 a0 a1 a2 a3 )
theorem zfx (hq:qw (cfg sp)):qbv XK szK (cfg sp) 90 zi1:=by
 intro ns pre r h hp
 unfold zi1 at h
 dsimp only at h
 split at h
 .cases h
  exact ⟨_,rfl,ze1 hq _ _ _ _,zl rfl⟩
 .cases h
theorem q74 (hq:qw (cfg sp)) (a0 a1 a2:Int):qam XK szK (cfg sp) 9 [.agg [.int .i64 none a0,.int .i64 none a1,.int .i64 none a2]] (qsi a0 a1 a2):=
 qac jo kh zf hq (qx rfl) (by simp [P.flat,P.cellsOf,RT]) (q76 a0 a1 a2) (q75 a0 a1 a2 )
theorem qte (hq:qw (cfg sp)):qbv XK szK (cfg sp) 9 ct9:=by
 intro ns pre r h hp
 unfold ct9 at h
 dsimp only at h
 split at h
 .cases h
  exact ⟨_,rfl,q74 hq _ _ _,zl rfl⟩
 .cases h
theorem q3v (hq:qw (cfg sp)) (a0 a1 a2 a3 a4 a5:Int):qam XK szK (cfg sp) 120 [.agg [.int .i64 none a0,.int .i64 none a1,.int .i64 none a2],.agg [.int .i64 none a3,.int .i64 none a4,.int .i64 none a5]] (qqu a0 a1 a2 a3 a4 a5):=
 qac jo kh (qb (qte hq) zf) hq (qx rfl) (by simp [P.flat,P.cellsOf,RT]) (q3x a0 a1 a2 a3 a4 a5) (q3w a0 a1 a2 a3 a4 a5 )
theorem zbw (hq:qw (cfg sp)):qbv XK szK (cfg sp) 120 zbv:=by
 intro ns pre r h hp
 unfold zbv at h
 dsimp only at h
 split at h
 .cases h
  exact ⟨_,rfl,q3v hq _ _ _ _ _ _,zl rfl⟩
 .cases h
theorem za3 (hq:qw (cfg sp)) (a0 a1 a2 a3:Int):qam XK szK (cfg sp) 86 [.agg [.int .i64 none a0,.int .i64 none a1,.int .i64 none a2],.int .i64 none a3] (qwc a0 a1 a2 a3):=
 qac jo kh (qb (qte hq) zf) hq (qx rfl) (by simp [P.flat,P.cellsOf,RT]) (za5 a0 a1 a2 a3) (za4 a0 a1 a2 a3 )
theorem zfv (hq:qw (cfg sp)):qbv XK szK (cfg sp) 86 zi0:=by
 intro ns pre r h hp
 unfold zi0 at h
 dsimp only at h
 split at h
 .cases h
  exact ⟨_,rfl,za3 hq _ _ _ _,zl rfl⟩
 .cases h
theorem zgy (hq:qw (cfg sp)) (a0 a1 a2 a3 a4 a5 a6:Int) (a7:Bool) (a8 a9:Int):qam XK szK (cfg sp) 41 [.agg [.int .i64 none a0,.int .i64 none a1,.int .i64 none a2,.int .i64 none a3,.int .i64 none a4,.int .i64 none a5,.int .i64 none a6,.sb 0 false a7 (a7=true) (a7=false),.int .i64 none a8,.int .i64 none a9]] (q2n a0 a1 a2 a3 a4 a5 a6 a7 a8 a9):=
 qac jo kh (qb (qr4 hq) (qb (qte hq) zf)) hq (qx rfl) (by simp [P.flat,P.cellsOf,RT]) (zg0 a0 a1 a2 a3 a4 a5 a6 a7 a8 a9) (zgz a0 a1 a2 a3 a4 a5 a6 a7 a8 a9 )
theorem zfj (hq:qw (cfg sp)):qbv XK szK (cfg sp) 41 ziq:=by
 intro ns pre r h hp
 unfold ziq at h
 dsimp only at h
 split at h
 .cases h
  exact ⟨_,rfl,zgy hq _ _ _ _ _ _ _ _ _ _,zl rfl⟩
 .cases h
theorem q7y (hq:qw (cfg sp)) (a0:List Event) (hp:(ln a0<=1000000000)):qam XK szK (cfg sp) 22 [.list 11 a0 none] (qsg a0):=
 qac jo kh (qb (zfj hq) (qb (qjn hq) zf)) hq (qx rfl) (by simp [P.flat,P.cellsOf,RT]) (q70 a0) (q7z a0 hp)
theorem qim (hq:qw (cfg sp)):qbv XK szK (cfg sp) 22 qvl:=by
 intro ns pre r h hp
 unfold qvl at h
 dsimp only at h
 split at h
 .cases h
  exact ⟨_,rfl,q7y hq _ hp,zl rfl⟩
 .cases h
theorem zaq (hq:qw (cfg sp)) (a0:List Event) (hp:(ln a0<=1000000000)):qam XK szK (cfg sp) 45 [.list 11 a0 none] (qv7 a0):=
 zb8 jo kh zf hq (qx rfl) (by simp [P.flat,P.cellsOf,RT]) (zas a0) (zar a0 hp)
theorem q6g (hq:qw (cfg sp)):qbv XK szK (cfg sp) 45 zfl:=by
 intro ns pre r h hp
 unfold zfl at h
 dsimp only at h
 split at h
 .cases h
  exact ⟨_,rfl,zaq hq _ hp,zl rfl⟩
 .cases h
theorem q8s (hq:qw (cfg sp)) (a0 a1:Int):qam XK szK (cfg sp) 88 [.agg [.int .i64 none a0,.int .i64 none a1]] (qst a0 a1):=
 qac jo kh (qb (qr4 hq) zf) hq (qx rfl) (by simp [P.flat,P.cellsOf,RT]) (q8u a0 a1) (q8t a0 a1 )
theorem q6j (hq:qw (cfg sp)):qbv XK szK (cfg sp) 88 zfw:=by
 intro ns pre r h hp
 unfold zfw at h
 dsimp only at h
 split at h
 .cases h
  exact ⟨_,rfl,q8s hq _ _,zl rfl⟩
 .cases h
theorem q8m (hq:qw (cfg sp)) (a0:List Event) (hp:(ln a0<=1000000000)):qam XK szK (cfg sp) 109 [.list 11 a0 none] (qsq a0):=
 qac jo kh (qb (qim hq) (qb (qjn hq) zf)) hq (qx rfl) (by simp [P.flat,P.cellsOf,RT]) (q8o a0) (q8n a0 hp)
theorem q1c (hq:qw (cfg sp)):qbv XK szK (cfg sp) 109 q6c:=by
 intro ns pre r h hp
 unfold q6c at h
 dsimp only at h
 split at h
 .cases h
  exact ⟨_,rfl,q8m hq _ hp,zl rfl⟩
 .cases h
theorem q3y (hq:qw (cfg sp)) (a0:List Event) (a1 a2 a3:Int) (hp:(ln a0<=1000000000)):qam XK szK (cfg sp) 110 [.list 11 a0 none,.agg [.int .i64 none a1,.int .i64 none a2,.int .i64 none a3]] (qqv a0 a1 a2 a3):=
 qac jo kh (qb (qim hq) (qb (qte hq) (qb (zbw hq) (qb (qjn hq) zf)))) hq (qx rfl) (by simp [P.flat,P.cellsOf,RT]) (q30 a0 a1 a2 a3) (q3z a0 a1 a2 a3 hp)
theorem q1d (hq:qw (cfg sp)):qbv XK szK (cfg sp) 110 q6d:=by
 intro ns pre r h hp
 unfold q6d at h
 dsimp only at h
 split at h
 .cases h
  exact ⟨_,rfl,q3y hq _ _ _ _ hp,zl rfl⟩
 .cases h
theorem za6 (hq:qw (cfg sp)) (a0:List Event) (a1:Int) (hp:(ln a0<=1000000000)):qam XK szK (cfg sp) 49 [.list 11 a0 none,.int .i64 none a1] (qwd a0 a1):=
 qac jo kh (qb (qim hq) (qb (zfv hq) (qb (qjn hq) zf))) hq (qx rfl) (by simp [P.flat,P.cellsOf,RT]) (za8 a0 a1) (za7 a0 a1 hp)
theorem zfm (hq:qw (cfg sp)):qbv XK szK (cfg sp) 49 zis:=by
 intro ns pre r h hp
 unfold zis at h
 dsimp only at h
 split at h
 .cases h
  exact ⟨_,rfl,za6 hq _ _ hp,zl rfl⟩
 .cases h
theorem q0p (hq:qw (cfg sp)) (a0:List Event) (a1 a2:Int) (hp:(ln a0<=1000000000)):qam XK szK (cfg sp) 51 [.list 11 a0 none,.agg [.int .i64 none a1,.int .i64 none a2]] (qnv a0 a1 a2):=
 qac jo kh (qb (qim hq) (qb (q6j hq) (qb (zfx hq) (qb (qjn hq) zf)))) hq (qx rfl) (by simp [P.flat,P.cellsOf,RT]) (q0r a0 a1 a2) (q0q a0 a1 a2 hp)
theorem zfn (hq:qw (cfg sp)):qbv XK szK (cfg sp) 51 zit:=by
 intro ns pre r h hp
 unfold zit at h
 dsimp only at h
 split at h
 .cases h
  exact ⟨_,rfl,q0p hq _ _ _ hp,zl rfl⟩
 .cases h
theorem q8b (hq:qw (cfg sp)) (a0:List Event) (a1 a2:Int) (hp:(ln a0<=1000000000)):qam XK szK (cfg sp) 53 [.list 11 a0 none,.agg [.int .i64 none a1,.int .i64 none a2]] (qsk a0 a1 a2):=
 qac jo kh (qb (qim hq) (qb (q6j hq) (qb (qjn hq) zf))) hq (qx rfl) (by simp [P.flat,P.cellsOf,RT]) (q8d a0 a1 a2) (q8c a0 a1 a2 hp)
theorem zfo (hq:qw (cfg sp)):qbv XK szK (cfg sp) 53 ziu:=by
 intro ns pre r h hp
 unfold ziu at h
 dsimp only at h
 split at h
 .cases h
  exact ⟨_,rfl,q8b hq _ _ _ hp,zl rfl⟩
 .cases h
theorem q71 (hq:qw (cfg sp)) (a0 a1 a2 a3:Int):qam XK szK (cfg sp) 44 [.agg [.int .i64 none a0,.int .i64 none a1,.int .i64 none a2,.int .i64 none a3]] (qsh a0 a1 a2 a3):=
 qac jo kh zf hq (qx rfl) (by simp [P.flat,P.cellsOf,RT]) (q73 a0 a1 a2 a3) (q72 a0 a1 a2 a3 )
theorem zfk (hq:qw (cfg sp)):qbv XK szK (cfg sp) 44 zir:=by
 intro ns pre r h hp
 unfold zir at h
 dsimp only at h
 split at h
 .cases h
  exact ⟨_,rfl,q71 hq _ _ _ _,zl rfl⟩
 .cases h
theorem q7v (hq:qw (cfg sp)) (a0 a1 a2:Int) (a3 a4:Bool) (a5 a6 a7 a8 a9 a10:Int):qam XK szK (cfg sp) 23 [.agg [.int .i64 none a0,.int .i64 none a1,.int .i64 none a2,.sb 0 false a3 (a3=true) (a3=false),.sb 0 false a4 (a4=true) (a4=false),.int .i64 none a5,.int .i64 none a6,.int .i64 none a7,.int .i64 none a8,.int .i64 none a9,.int .i64 none a10]] (qsf a0 a1 a2 a3 a4 a5 a6 a7 a8 a9 a10):=
 qac jo kh (qb (qr4 hq) (qb (zfk hq) zf)) hq (qx rfl) (by simp [P.flat,P.cellsOf,RT]) (q7x a0 a1 a2 a3 a4 a5 a6 a7 a8 a9 a10) (q7w a0 a1 a2 a3 a4 a5 a6 a7 a8 a9 a10 )
theorem zff (hq:qw (cfg sp)):qbv XK szK (cfg sp) 23 zim:=by
 intro ns pre r h hp
 unfold zim at h
 dsimp only at h
 split at h
 .cases h
  exact ⟨_,rfl,q7v hq _ _ _ _ _ _ _ _ _ _ _,zl rfl⟩
 .cases h
theorem q88 (hq:qw (cfg sp)) (a0:List Event) (hp:(ln a0<=1000000000)):qam XK szK (cfg sp) 67 [.list 11 a0 none] (qtu a0):=
 qac jo kh zf hq (qx rfl) (by simp [P.flat,P.cellsOf,RT]) (q9a a0) (q89 a0 hp)
theorem q6h (hq:qw (cfg sp)):qbv XK szK (cfg sp) 67 zfp:=by
 intro ns pre r h hp
 unfold zfp at h
 dsimp only at h
 split at h
 .cases h
  exact ⟨_,rfl,q88 hq _ hp,zl rfl⟩
 .cases h
theorem zaw (hq:qw (cfg sp)) (a0:List Event) (a1 a2 a3:Int) (a4 a5:Bool) (a6 a7 a8 a9 a10 a11:Int) (hp:(ln a0<=1000000000)):qam XK szK (cfg sp) 8 [.list 11 a0 none,.agg [.int .i64 none a1,.int .i64 none a2,.int .i64 none a3,.sb 0 false a4 (a4=true) (a4=false),.sb 0 false a5 (a5=true) (a5=false),.int .i64 none a6,.int .i64 none a7,.int .i64 none a8,.int .i64 none a9,.int .i64 none a10,.int .i64 none a11]] (qv9 a0 a1 a2 a3 a4 a5 a6 a7 a8 a9 a10 a11):=
 qac jo kh (qb (qim hq) (qb (zff hq) (qb (q1c hq) (qb (q6h hq) (qb (q1d hq) (qb (zfm hq) (qb (zfn hq) (qb (zfo hq) (qb (q6g hq) zf))))))))) hq (qx rfl) (by simp [P.flat,P.cellsOf,RT]) (zay a0 a1 a2 a3 a4 a5 a6 a7 a8 a9 a10 a11) (zax a0 a1 a2 a3 a4 a5 a6 a7 a8 a9 a10 a11 hp)
theorem zbx (hq:qw (cfg sp)):qbv XK szK (cfg sp) 8 ct8:=by
 intro ns pre r h hp
 unfold ct8 at h
 dsimp only at h
 split at h
 .cases h
  exact ⟨_,rfl,zaw hq _ _ _ _ _ _ _ _ _ _ _ _ hp,zl rfl⟩
 .cases h
theorem q4x (hq:qw (cfg sp)) (a0 a1:Int) (hp:((0:Int)<=a0/\(a0:Int)<=62/\(-1:Int)<=a1/\(a1:Int)<=1)):qam XK szK (cfg sp) 105 [.agg [.int .i64 none a0,.int .i64 none a1]] (qrb a0 a1):=
 qac jo kh zf hq (qx rfl) (by simp [P.flat,P.cellsOf,RT]) (q4z a0 a1) (q4y a0 a1 hp)
theorem zbu (hq:qw (cfg sp)):qbv XK szK (cfg sp) 105 zbt:=by
 intro ns pre r h hp
 unfold zbt at h
 dsimp only at h
 split at h
 .cases h
  exact ⟨_,rfl,q4x hq _ _ hp,zl rfl⟩
 .cases h
theorem ze5 (hq:qw (cfg sp)) (a0 a1 a2 a3:Int):qam XK szK (cfg sp) 70 [.agg [.int .i64 none a0,.int .i64 none a1],.agg [.int .i64 none a2,.int .i64 none a3]] (q0s a0 a1 a2 a3):=
 qac jo kh (qb (qr5 hq) (qb (qr6 hq) zf)) hq (qx rfl) (by simp [P.flat,P.cellsOf,RT]) (ze7 a0 a1 a2 a3) (ze6 a0 a1 a2 a3 )
theorem zfs (hq:qw (cfg sp)):qbv XK szK (cfg sp) 70 ziy:=by
 intro ns pre r h hp
 unfold ziy at h
 dsimp only at h
 split at h
 .cases h
  exact ⟨_,rfl,ze5 hq _ _ _ _,zl rfl⟩
 .cases h
theorem zer (hq:qw (cfg sp)) (a0 a1 a2 a3:Int):qam XK szK (cfg sp) 71 [.agg [.int .i64 none a0,.int .i64 none a1],.agg [.int .i64 none a2,.int .i64 none a3]] (q0c a0 a1 a2 a3):=
 qac jo kh (qb (qr5 hq) (qb (q1b hq) zf)) hq (qx rfl) (by simp [P.flat,P.cellsOf,RT]) (zet a0 a1 a2 a3) (zes a0 a1 a2 a3 )
theorem zft (hq:qw (cfg sp)):qbv XK szK (cfg sp) 71 ziz:=by
 intro ns pre r h hp
 unfold ziz at h
 dsimp only at h
 split at h
 .cases h
  exact ⟨_,rfl,zer hq _ _ _ _,zl rfl⟩
 .cases h
theorem qz8 (hq:qw (cfg sp)) (a0 a1 a2 a3 a4 a5:Int):qam XK szK (cfg sp) 68 [.agg [.int .i64 none a0,.int .i64 none a1,.int .i64 none a2],.agg [.int .i64 none a3,.int .i64 none a4,.int .i64 none a5]] (qnt a0 a1 a2 a3 a4 a5):=
 qac jo kh (qb (qte hq) (qb (zbu hq) zf)) hq (qx rfl) (by simp [P.flat,P.cellsOf,RT]) (q0a a0 a1 a2 a3 a4 a5) (qz9 a0 a1 a2 a3 a4 a5 )
theorem zfq (hq:qw (cfg sp)):qbv XK szK (cfg sp) 68 ziv:=by
 intro ns pre r h hp
 unfold ziv at h
 dsimp only at h
 split at h
 .cases h
  exact ⟨_,rfl,qz8 hq _ _ _ _ _ _,zl rfl⟩
 .cases h
theorem zeu (hq:qw (cfg sp)) (a0:List Event) (hp:(ln a0<=1000000000)):qam XK szK (cfg sp) 69 [.list 11 a0 none] (q0e a0):=
 qac jo kh (qb (qim hq) (qb (qjn hq) zf)) hq (qx rfl) (by simp [P.flat,P.cellsOf,RT]) (zew a0) (zev a0 hp)
theorem zfr (hq:qw (cfg sp)):qbv XK szK (cfg sp) 69 ziw:=by
 intro ns pre r h hp
 unfold ziw at h
 dsimp only at h
 split at h
 .cases h
  exact ⟨_,rfl,zeu hq _ hp,zl rfl⟩
 .cases h
theorem zac (hq:qw (cfg sp)) (a0:List Event) (a1 a2 a3:Int) (a4 a5:Bool) (a6 a7 a8 a9 a10 a11:Int) (a12:List Event) (hp:((qm a0).1=0/\(qm a12).1=0)):qam XK szK (cfg sp) 34 [.list 11 a0 none,.agg [.int .i64 none a1,.int .i64 none a2,.int .i64 none a3,.sb 0 false a4 (a4=true) (a4=false),.sb 0 false a5 (a5=true) (a5=false),.int .i64 none a6,.int .i64 none a7,.int .i64 none a8,.int .i64 none a9,.int .i64 none a10,.int .i64 none a11],.list 11 a12 none] (qu5 a0 a1 a2 a3 a4 a5 a6 a7 a8 a9 a10 a11 a12):=
 qac jo kh (qb (q1c hq) (qb (q6h hq) (qb (q1d hq) (qb (q6g hq) (qb (zfq hq) zf))))) hq (qx rfl) (by simp [P.flat,P.cellsOf,RT]) (zae a0 a1 a2 a3 a4 a5 a6 a7 a8 a9 a10 a11 a12) (zad a0 a1 a2 a3 a4 a5 a6 a7 a8 a9 a10 a11 a12 hp)
theorem zfg (hq:qw (cfg sp)):qbv XK szK (cfg sp) 34 zin:=by
 intro ns pre r h hp
 unfold zin at h
 dsimp only at h
 split at h
 .cases h
  exact ⟨_,rfl,zac hq _ _ _ _ _ _ _ _ _ _ _ _ _ hp,zl rfl⟩
 .cases h
theorem q4m (hq:qw (cfg sp)) (a0 a1:List Event) (a2 a3:Int) (hp:(ln a0<=1000000000/\ln a1<=1000000000)):qam XK szK (cfg sp) 35 [.list 11 a0 none,.list 11 a1 none,.agg [.int .i64 none a2,.int .i64 none a3]] (qq6 a0 a1 a2 a3):=
 qac jo kh (qb (zfr hq) (qb (zfs hq) (qb (zft hq) zf))) hq (qx rfl) (by simp [P.flat,P.cellsOf,RT]) (q4o a0 a1 a2 a3) (q4n a0 a1 a2 a3 hp)
theorem zfh (hq:qw (cfg sp)):qbv XK szK (cfg sp) 35 zio:=by
 intro ns pre r h hp
 unfold zio at h
 dsimp only at h
 split at h
 .cases h
  exact ⟨_,rfl,q4m hq _ _ _ _ hp,zl rfl⟩
 .cases h
theorem q8g (hq:qw (cfg sp)) (a0 a1:List Event) (hp:(ln a0<=1000000000/\ln a1<=1000000000)):qam XK szK (cfg sp) 14 [.list 11 a0 none,.list 11 a1 none] (qsl a0 a1):=
 qac jo kh (qb (qim hq) (qb (zfg hq) (qb (zfh hq) (qb (zbx hq) zf)))) hq (qx rfl) (by simp [P.flat,P.cellsOf,RT]) (q8i a0 a1) (q8h a0 a1 hp)
theorem zfb (hq:qw (cfg sp)):qbv XK szK (cfg sp) 14 zij:=by
 intro ns pre r h hp
 unfold zij at h
 dsimp only at h
 split at h
 .cases h
  exact ⟨_,rfl,q8g hq _ _ hp,zl rfl⟩
 .cases h
theorem zey (hq:qw (cfg sp)) (a0 a1:Int) (hp:((1:Int)<=a1/\(a1:Int)<=10000000/\(-9223372036854775808:Int)<=a0/\(a0:Int)<=9223372036854775807)):qam XK szK (cfg sp) 20 [.int .i64 none a0,.int .i64 none a1] (q0j a0 a1):=
 qac jo kh zf hq (qx rfl) (by simp [P.flat,P.cellsOf,RT]) (ze0 a0 a1) (zez a0 a1 hp)
theorem q6e (hq:qw (cfg sp)):qbv XK szK (cfg sp) 20 zfd:=by
 intro ns pre r h hp
 unfold zfd at h
 dsimp only at h
 split at h
 .cases h
  exact ⟨_,rfl,zey hq _ _ hp,zl rfl⟩
 .cases h
theorem zkp (hq:qw (cfg sp)) (a0 a1:Int) (hp:((0:Int)<=a0/\(a0:Int)<=1000000000000/\(1:Int)<=a1/\(a1:Int)<=1000000000000)):qam XK szK (cfg sp) 39 [.int .i64 none a0,.int .i64 none a1] (zbh a0 a1):=
 qac jo kh zf hq (qx rfl) (by simp [P.flat,P.cellsOf,RT]) (zkr a0 a1) (zkq a0 a1 hp)
theorem q6f (hq:qw (cfg sp)):qbv XK szK (cfg sp) 39 zfi:=by
 intro ns pre r h hp
 unfold zfi at h
 dsimp only at h
 split at h
 .cases h
  exact ⟨_,rfl,zkp hq _ _ hp,zl rfl⟩
 .cases h
theorem zba (hq:qw (cfg sp)) (a0 a1 a2 a3:Int) (hp:((0:Int)<=a0/\(a0:Int)<=100000/\(1:Int)<=a1/\(a1:Int)<=100000/\(0:Int)<=a2/\(a2:Int)<=100000/\(1:Int)<=a3/\(a3:Int)<=100000)):qam XK szK (cfg sp) 21 [.agg [.int .i64 none a0,.int .i64 none a1],.agg [.int .i64 none a2,.int .i64 none a3]] (qwe a0 a1 a2 a3):=
 qac jo kh (qb (q6f hq) zf) hq (qx rfl) (by simp [P.flat,P.cellsOf,RT]) (zbc a0 a1 a2 a3) (zbb a0 a1 a2 a3 hp)
theorem zfe (hq:qw (cfg sp)):qbv XK szK (cfg sp) 21 zil:=by
 intro ns pre r h hp
 unfold zil at h
 dsimp only at h
 split at h
 .cases h
  exact ⟨_,rfl,zba hq _ _ _ _ hp,zl rfl⟩
 .cases h
theorem q8p (hq:qw (cfg sp)) (a0:List Int) (a1:Int) (hp:(ln a0<=9223372036854775807/\(0:Int)<=a1/\(a1:Int)<=20/\∀ x ∈ a0,I64 x)):qam XK szK (cfg sp) 6 [.list 1 a0 none,.int .i64 none a1] (qss a0 a1):=
 zb8 jo kh (qb (q6e hq) (qb (zfe hq) zf)) hq (qx rfl) (by simp [P.flat,P.cellsOf,RT]) (q8r a0 a1) (q8q a0 a1 hp)
theorem zix (hq:qw (cfg sp)):qbv XK szK (cfg sp) 6 ct6:=by
 intro ns pre r h hp
 unfold ct6 at h
 dsimp only at h
 split at h
 .cases h
  exact ⟨_,rfl,q8p hq _ _ hp,zl rfl⟩
 .cases h
theorem zcs (hq:qw (cfg sp)) (a0:Int) (hp:(I64 a0)):qam XK szK (cfg sp) 18 [.int .i64 none a0] (qw9 a0):=
 qac jo kh (qb (q6e hq) (qb (q6f hq) zf)) hq (qx rfl) (by simp [P.flat,P.cellsOf,RT]) (zcu a0) (zct a0 hp)
theorem zfc (hq:qw (cfg sp)):qbv XK szK (cfg sp) 18 zik:=by
 intro ns pre r h hp
 unfold zik at h
 dsimp only at h
 split at h
 .cases h
  exact ⟨_,rfl,zcs hq _ hp,zl rfl⟩
 .cases h
theorem qvp (hq:qw (cfg sp)) (hf10:qbv XK szK (cfg sp) 10 zfa) (a0:List Int) (a1:Int) (hp:(ln a0<=9223372036854775807/\(∀ x ∈ a0,I64 x)/\I64 a1)):qam XK szK (cfg sp) 5 [.list 1 a0 none,.int .i64 none a1] (qk8 a0 a1):=
 qac jo kh (qb (zix hq) (qb (zfc hq) (qb (zbx hq) (qb hf10 (qb (zfb hq) zf))))) hq (qx rfl) (by simp [P.flat,P.cellsOf,RT]) (qvr a0 a1) (qvq a0 a1 hp)
end Go.Proofs.YtcnoipglgpkpeaaGreatDoor
