import Derived.Test.YtpgchdcifbaioaaGreatDoorOka
namespace Go.Proofs.YtpgchdcifbaioaaGreatDoor
open Go Go.E2 Go.E3
set_option maxRecDepth 100000
variable {sp:Nat->Option (List V->Heap->Option (CR×Heap))}
theorem zsd (a:qd (cfg sp)):kf XK szK (cfg sp) 153 zsc:=by
 intro ns b r h c;unfold zsc at h;dsimp only at h;split at h
 .cases h;exact ⟨_,rfl,znn zi a (f:=153) rfl (by kernel_rfl) _ _,qn rfl⟩
 .cases h
theorem zqg (a:qd (cfg sp)) (a0:ZB) (b:(ln a0<=9223372036854775806)):jd XK szK (cfg sp) 41 [.str a0] (q5h a0):=
 zo zz zi ql a (qf rfl) (by simp [P.flat,P.cellsOf,RT]) (zqi a0) (zqh a0 b)
theorem zjm (a:qd (cfg sp)):kf XK szK (cfg sp) 41 zyq:=by
 intro ns b r h c;unfold zyq at h;dsimp only at h;split at h
 .cases h;exact ⟨_,rfl,zqg a _ c,qn rfl⟩
 .cases h
theorem zlv (b:qd (cfg sp)) (a0 a a2 a3:Int):jd XK szK (cfg sp) 76 [.agg [.int .i64 none a0,.int .i64 none a,.int .i64 none a2,.int .i64 none a3]] (qz4 a0 a a2 a3):=
 zo zz zi ql b (qf rfl) (by simp [P.flat,P.cellsOf,RT]) (zlx a0 a a2 a3) (zlw a0 a a2 a3 )
theorem zjr (a:qd (cfg sp)):kf XK szK (cfg sp) 76 zy6:=by
 intro ns b r h c;unfold zy6 at h;dsimp only at h;split at h
 .cases h;exact ⟨_,rfl,zlv a _ _ _ _,qn rfl⟩
 .cases h
theorem zxr (k:qd (cfg sp)) (a0 i a2 a3:Int) (a4:Bool) (a5:Int) (g h:Bool) (j a9 a b:Int) (a12:Bool) (c d e f:Int):jd XK szK (cfg sp) 45 [.agg [.int .i64 none a0,.int .i64 none i,.int .i64 none a2,.int .i64 none a3,.sb 0 false a4 (a4=true) (a4=false),.int .i64 none a5,.sb 0 false g (g=true) (g=false),.sb 0 false h (h=true) (h=false),.int .i64 none j,.int .i64 none a9,.int .i64 none a,.int .i64 none b,.sb 0 false a12 (a12=true) (a12=false),.int .i64 none c,.int .i64 none d,.int .i64 none e,.int .i64 none f]] (za1 a0 i a2 a3 a4 a5 g h j a9 a b a12 c d e f):=
 zo zz zi (qb (zjr k) ql) k (qf rfl) (by simp [P.flat,P.cellsOf,RT]) (zxt a0 i a2 a3 a4 a5 g h j a9 a b a12 c d e f) (zxs a0 i a2 a3 a4 a5 g h j a9 a b a12 c d e f )
theorem q8t (a:qd (cfg sp)):kf XK szK (cfg sp) 45 zsq:=by
 intro ns b r h c;unfold zsq at h;dsimp only at h;split at h
 .cases h;exact ⟨_,rfl,zxr a _ _ _ _ _ _ _ _ _ _ _ _ _ _ _ _ _,qn rfl⟩
 .cases h
theorem zfh (b:qd (cfg sp)) (a0:ZB) (a:List Sign) (c:(ln a0<=1000000000/\ln a<=1000000000)):jd XK szK (cfg sp) 29 [.agg [.str a0,.list 4 a none]] (qxv a0 a):=
 zo zz zi (qb (zjm b) (qb (q8t b) ql)) b (qf rfl) (by simp [P.flat,P.cellsOf,RT]) (zfj a0 a) (zfi a0 a c)
theorem zyk (a:qd (cfg sp)):kf XK szK (cfg sp) 29 z3h:=by
 intro ns b r h c;unfold z3h at h;dsimp only at h;split at h
 .cases h;exact ⟨_,rfl,zfh a _ _ c,qn rfl⟩
 .cases h
theorem q8g (b:qd (cfg sp)) (a0 a:List Sign) (c:(ln a0<=10000000)):jd XK szK (cfg sp) 15 [.list 4 a0 none,.list 4 a none] (qr5 a0 a):=
 zo zz zi ql b (qf rfl) (by simp [P.flat,P.cellsOf,RT]) (q8h a0 a) (qt4 a0 a c)
theorem zx8 (a:qd (cfg sp)):kf XK szK (cfg sp) 15 z25:=by
 intro ns b r h c;unfold z25 at h;dsimp only at h;split at h
 .cases h;exact ⟨_,rfl,q8g a _ _ c,qn rfl⟩
 .cases h
theorem zp7 (a:qd (cfg sp)) (a0:List Sign) (b:(ln a0<=10000000)):jd XK szK (cfg sp) 37 [.list 4 a0 none] (q5f a0):=
 zo zz zi ql a (qf rfl) (by simp [P.flat,P.cellsOf,RT]) (zp9 a0) (zp8 a0 b)
theorem zyo (a:qd (cfg sp)):kf XK szK (cfg sp) 37 z3l:=by
 intro ns b r h c;unfold z3l at h;dsimp only at h;split at h
 .cases h;exact ⟨_,rfl,zp7 a _ c,qn rfl⟩
 .cases h
theorem zz0 (b:qd (cfg sp)) (a0 a:List Sign) (c:(ln a0<=1/\ln a<=1)):jd XK szK (cfg sp) 33 [.agg [.list 4 a0 none,.list 4 a none]] (zc5 a0 a):=
 zo zz zi (qb (zyo b) ql) b (qf rfl) (by simp [P.flat,P.cellsOf,RT]) (zz2 a0 a) (zz1 a0 a c)
theorem zyl (a:qd (cfg sp)):kf XK szK (cfg sp) 33 z3i:=by
 intro ns b r h c;unfold z3i at h;dsimp only at h;split at h
 .cases h;exact ⟨_,rfl,zz0 a _ _ c,qn rfl⟩
 .cases h
theorem zrg (m:qd (cfg sp)) (a0 k:List Sign) (a2 a3 a4 a5:Int) (i:Bool) (l:Int) (j a9:Bool) (b c a12 d:Int) (a:Bool) (e f g h:Int):jd XK szK (cfg sp) 35 [.agg [.list 4 a0 none,.list 4 k none],.agg [.int .i64 none a2,.int .i64 none a3,.int .i64 none a4,.int .i64 none a5,.sb 0 false i (i=true) (i=false),.int .i64 none l,.sb 0 false j (j=true) (j=false),.sb 0 false a9 (a9=true) (a9=false),.int .i64 none b,.int .i64 none c,.int .i64 none a12,.int .i64 none d,.sb 0 false a (a=true) (a=false),.int .i64 none e,.int .i64 none f,.int .i64 none g,.int .i64 none h]] (q5t a0 k a2 a3 a4 a5 i l j a9 b c a12 d a e f g h):=
 zo zz zi ql m (qf rfl) (by simp [P.flat,P.cellsOf,RT]) (zri a0 k a2 a3 a4 a5 i l j a9 b c a12 d a e f g h) (zrh a0 k a2 a3 a4 a5 i l j a9 b c a12 d a e f g h )
theorem zym (a:qd (cfg sp)):kf XK szK (cfg sp) 35 z3j:=by
 intro ns b r h c;unfold z3j at h;dsimp only at h;split at h
 .cases h;exact ⟨_,rfl,zrg a _ _ _ _ _ _ _ _ _ _ _ _ _ _ _ _ _ _ _,qn rfl⟩
 .cases h
theorem zm1 (a:qd (cfg sp)) (a0:List Sign) (b:(ln a0<=1000000000)):jd XK szK (cfg sp) 36 [.list 4 a0 none] (q00 a0):=
 zo zz zi ql a (qf rfl) (by simp [P.flat,P.cellsOf,RT]) (zm3 a0) (zm2 a0 b)
theorem zyn (a:qd (cfg sp)):kf XK szK (cfg sp) 36 z3k:=by
 intro ns b r h c;unfold z3k at h;dsimp only at h;split at h
 .cases h;exact ⟨_,rfl,zm1 a _ c,qn rfl⟩
 .cases h
theorem zpn (b:qd (cfg sp)) (a0:ZB) (a:List Page) (c:(smB a)):jd XK szK (cfg sp) 70 [.agg [.str a0,.list 8 a none]] (q3r a0 a):=
 zo zz zi ql b (qf rfl) (by simp [P.flat,P.cellsOf,RT]) (zpp a0 a) (zpo a0 a c)
theorem q8x (a:qd (cfg sp)):kf XK szK (cfg sp) 70 zsv:=by
 intro ns b r h c;unfold zsv at h;dsimp only at h;split at h
 .cases h;exact ⟨_,rfl,zpn a _ _ c,qn rfl⟩
 .cases h
theorem z0w (b:qd (cfg sp)) (a0:ZB) (a:List Page) (c:(smB a/\qy a)):jd XK szK (cfg sp) 40 [.agg [.str a0,.list 8 a none]] (zd0 a0 a):=
 zo zz zi (qb (q8x b) ql) b (qf rfl) (by simp [P.flat,P.cellsOf,RT]) (z0y a0 a) (z0x a0 a c)
theorem zyp (a:qd (cfg sp)):kf XK szK (cfg sp) 40 z3m:=by
 intro ns b r h c;unfold z3m at h;dsimp only at h;split at h
 .cases h;exact ⟨_,rfl,z0w a _ _ c,qn rfl⟩
 .cases h
theorem zu5 (b:qd (cfg sp)) (a0:ZB) (a:List Page) (a2:Int) (c:(smB a/\qy a/\(0:Int)<=a2/\(a2:Int)<=1000000000000)):jd XK szK (cfg sp) 72 [.agg [.str a0,.list 8 a none],.int .i64 none a2] (q7a a0 a a2):=
 zo zz zi (qb (q8x b) ql) b (qf rfl) (by simp [P.flat,P.cellsOf,RT]) (zu7 a0 a a2) (zu6 a0 a a2 c)
theorem zy5 (a:qd (cfg sp)):kf XK szK (cfg sp) 72 z3y:=by
 intro ns b r h c;unfold z3y at h;dsimp only at h;split at h
 .cases h;exact ⟨_,rfl,zu5 a _ _ _ c,qn rfl⟩
 .cases h
theorem zo8 (b:qd (cfg sp)) (a0:List Sign) (a:Int) (a2:Bool) (a3:Int) (a4 a5:List Sign) (c:(ln a0<=5000/\ln a4<=1/\ln a5<=1)):jd XK szK (cfg sp) 42 [.agg [.list 4 a0 none,.int .i64 none a,.sb 0 false a2 (a2=true) (a2=false),.int .i64 none a3],.agg [.list 4 a4 none,.list 4 a5 none]] (q3l a0 a a2 a3 a4 a5):=
 zo zz zi (qb (zyl b) ql) b (qf rfl) (by simp [P.flat,P.cellsOf,RT]) (zpb a0 a a2 a3 a4 a5) (zpa a0 a a2 a3 a4 a5 c)
theorem zyr (a:qd (cfg sp)):kf XK szK (cfg sp) 42 z3n:=by
 intro ns b r h c;unfold z3n at h;dsimp only at h;split at h
 .cases h;exact ⟨_,rfl,zo8 a _ _ _ _ _ _ c,qn rfl⟩
 .cases h
theorem zxb (a:qd (cfg sp)) (a0:ZB) (b:List Page) (c:(ln a0<=1000000000/\smB b/\qy b)):jd XK szK (cfg sp) 43 [.agg [.str a0,.list 8 b none]] (q75 a0 b):=
 zo zz zi (qb (zyp a) (qb (zyk a) (qb (zy5 a) (qb (q8x a) (qb (zyn a) ql))))) a (qf rfl) (by simp [P.flat,P.cellsOf,RT]) (zxd a0 b) (zxc a0 b c)
theorem zys (a:qd (cfg sp)):kf XK szK (cfg sp) 43 z3o:=by
 intro ns b r h c;unfold z3o at h;dsimp only at h;split at h
 .cases h;exact ⟨_,rfl,zxb a _ _ c,qn rfl⟩
 .cases h
theorem zls (a:qd (cfg sp)) (a0:ZB) (b:List Page) (c:(ln a0<=1000000000/\smB b)):jd XK szK (cfg sp) 16 [.agg [.str a0,.list 8 b none]] (qz3 a0 b):=
 zo zz zi (qb (zjm a) (qb (zyr a) (qb (zym a) (qb (zys a) ql)))) a (qf rfl) (by simp [P.flat,P.cellsOf,RT]) (zlu a0 b) (zlt a0 b c)
theorem zx9 (a:qd (cfg sp)):kf XK szK (cfg sp) 16 z26:=by
 intro ns b r h c;unfold z26 at h;dsimp only at h;split at h
 .cases h;exact ⟨_,rfl,zls a _ _ c,qn rfl⟩
 .cases h
theorem q79 (b:qd (cfg sp)) (a0 a:ZB):jd XK szK (cfg sp) 64 [.str a0,.str a] (qr1 a0 a):=
 zo zz zi ql b (qf rfl) (by simp [P.flat,P.cellsOf,RT]) (q8b a0 a) (q8a a0 a )
theorem q8v (a:qd (cfg sp)):kf XK szK (cfg sp) 64 zss:=by
 intro ns b r h c;unfold zss at h;dsimp only at h;split at h
 .cases h;exact ⟨_,rfl,q79 a _ _,qn rfl⟩
 .cases h
theorem zpw (b:qd (cfg sp)) (a0 a a2 a3:Int):jd XK szK (cfg sp) 135 [.agg [.int .i64 none a0,.int .i64 none a,.int .i64 none a2,.int .i64 none a3]] (q3y a0 a a2 a3):=
 zo zz zi ql b (qf rfl) (by simp [P.flat,P.cellsOf,RT]) (zpy a0 a a2 a3) (zpx a0 a a2 a3 )
theorem zbz (a:qd (cfg sp)):kf XK szK (cfg sp) 135 zjj:=by
 intro ns b r h c;unfold zjj at h;dsimp only at h;split at h
 .cases h;exact ⟨_,rfl,zpw a _ _ _ _,qn rfl⟩
 .cases h
theorem zmj (b:qd (cfg sp)) (a0 a a2 a3:Int):jd XK szK (cfg sp) 91 [.agg [.int .i64 none a0,.int .i64 none a,.int .i64 none a2,.int .i64 none a3]] (q0g a0 a a2 a3):=
 zo zz zi (qb (zjr b) (qb (zbz b) ql)) b (qf rfl) (by simp [P.flat,P.cellsOf,RT]) (zml a0 a a2 a3) (zmk a0 a a2 a3 )
theorem zjs (a:qd (cfg sp)):kf XK szK (cfg sp) 91 zy7:=by
 intro ns b r h c;unfold zy7 at h;dsimp only at h;split at h
 .cases h;exact ⟨_,rfl,zmj a _ _ _ _,qn rfl⟩
 .cases h
theorem zf3 (a:qd (cfg sp)) (a0:ZB):jd XK szK (cfg sp) 95 [.str a0] (qx3 a0):=
 zo zz zi (qb (zbz a) ql) a (qf rfl) (by simp [P.flat,P.cellsOf,RT]) (zf5 a0) (zf4 a0 )
theorem zju (a:qd (cfg sp)):kf XK szK (cfg sp) 95 zy9:=by
 intro ns b r h c;unfold zy9 at h;dsimp only at h;split at h
 .cases h;exact ⟨_,rfl,zf3 a _,qn rfl⟩
 .cases h
theorem zfv (a:qd (cfg sp)) (a0:ZB) (b:(ln a0<=1000000)):jd XK szK (cfg sp) 63 [.str a0] (qx0 a0):=
 zo zz zi ql a (qf rfl) (by simp [P.flat,P.cellsOf,RT]) (zfx a0) (zfw a0 b)
theorem qzn (a:qd (cfg sp)):kf XK szK (cfg sp) 63 zm8:=by
 intro ns b r h c;unfold zm8 at h;dsimp only at h;split at h
 .cases h;exact ⟨_,rfl,zfv a _ c,qn rfl⟩
 .cases h
theorem zgb (a:qd (cfg sp)) (a0:ZB) (b:(ln a0<=1000000)):jd XK szK (cfg sp) 65 [.str a0] (qx5 a0):=
 zo zz zi (qb (qzn a) ql) a (qf rfl) (by simp [P.flat,P.cellsOf,RT]) (zgd a0) (zgc a0 b)
theorem q8w (a:qd (cfg sp)):kf XK szK (cfg sp) 65 zst:=by
 intro ns b r h c;unfold zst at h;dsimp only at h;split at h
 .cases h;exact ⟨_,rfl,zgb a _ c,qn rfl⟩
 .cases h
theorem q4j (b:qd (cfg sp)) (a0:ZB) (a:Int) (c:(U8 a)):jd XK szK (cfg sp) 94 [.str a0,.int .u8 none a] (qpr a0 a):=
 zo zz zi (qb (zsd b) ql) b (qf rfl) (by simp [P.flat,P.cellsOf,RT]) (q4l a0 a) (q4k a0 a c)
theorem zjt (a:qd (cfg sp)):kf XK szK (cfg sp) 94 zy8:=by
 intro ns b r h c;unfold zy8 at h;dsimp only at h;split at h
 .cases h;exact ⟨_,rfl,q4j a _ _ c,qn rfl⟩
 .cases h
theorem zq7 (g:qd (cfg sp)) (j:kf XK szK (cfg sp) 17 qrx) (a0 k a2 a3:Int) (a4:Bool) (a5:Int) (h i:Bool) (l a9 a b:Int) (a12:Bool) (c d e f:Int):jd XK szK (cfg sp) 18 [.agg [.int .i64 none a0,.int .i64 none k,.int .i64 none a2,.int .i64 none a3,.sb 0 false a4 (a4=true) (a4=false),.int .i64 none a5,.sb 0 false h (h=true) (h=false),.sb 0 false i (i=true) (i=false),.int .i64 none l,.int .i64 none a9,.int .i64 none a,.int .i64 none b,.sb 0 false a12 (a12=true) (a12=false),.int .i64 none c,.int .i64 none d,.int .i64 none e,.int .i64 none f]] (q5q a0 k a2 a3 a4 a5 h i l a9 a b a12 c d e f):=
 zo zz zi (qb (q8t g) (qb j (qb (q8v g) (qb (q8w g) (qb (zjs g) (qb (zjt g) (qb (zju g) (qb (qzn g) ql)))))))) g (qf rfl) (by simp [P.flat,P.cellsOf,RT]) (zq9 a0 k a2 a3 a4 a5 h i l a9 a b a12 c d e f) (zq8 a0 k a2 a3 a4 a5 h i l a9 a b a12 c d e f )
theorem zya (b:qd (cfg sp)) (a:kf XK szK (cfg sp) 17 qrx):kf XK szK (cfg sp) 18 z27:=by
 intro ns c r h d;unfold z27 at h;dsimp only at h;split at h
 .cases h;exact ⟨_,rfl,zq7 b a _ _ _ _ _ _ _ _ _ _ _ _ _ _ _ _ _,qn rfl⟩
 .cases h
theorem zqv (a:qd (cfg sp)) (b:kf XK szK (cfg sp) 17 qrx) (a0:ZB) (c:(ln a0<=30000)):jd XK szK (cfg sp) 66 [.str a0] (q5m a0):=
 zo zz zi (qb b (qb (q8v a) (qb (q8w a) (qb (zjs a) (qb (zjt a) (qb (zju a) (qb (qzn a) (qb (q8t a) ql)))))))) a (qf rfl) (by simp [P.flat,P.cellsOf,RT]) (zqx a0) (zqw a0 c)
theorem zy3 (b:qd (cfg sp)) (a:kf XK szK (cfg sp) 17 qrx):kf XK szK (cfg sp) 66 z3w:=by
 intro ns c r h d;unfold z3w at h;dsimp only at h;split at h
 .cases h;exact ⟨_,rfl,zqv b a _ d,qn rfl⟩
 .cases h
theorem zqy (c:qd (cfg sp)) (a:kf XK szK (cfg sp) 61 zb2) (a0 b:ZB) (d:(ln b=1/\ln a0<=100000000)):jd XK szK (cfg sp) 23 [.str a0,.str b] (q5n a0 b):=
 zo zz zi (qb a ql) c (qf rfl) (by simp [P.flat,P.cellsOf,RT]) (zq0 a0 b) (zqz a0 b d)
theorem zye (b:qd (cfg sp)) (a:kf XK szK (cfg sp) 61 zb2):kf XK szK (cfg sp) 23 z3c:=by
 intro ns c r h d;unfold z3c at h;dsimp only at h;split at h
 .cases h;exact ⟨_,rfl,zqy b a _ _ d,qn rfl⟩
 .cases h
theorem q76 (b:qd (cfg sp)) (a0 a:ZB):jd XK szK (cfg sp) 24 [.str a0,.str a] (qr0 a0 a):=
 zo zz zi ql b (qf rfl) (by simp [P.flat,P.cellsOf,RT]) (q78 a0 a) (q77 a0 a )
theorem zyf (a:qd (cfg sp)):kf XK szK (cfg sp) 24 z3d:=by
 intro ns b r h c;unfold z3d at h;dsimp only at h;split at h
 .cases h;exact ⟨_,rfl,q76 a _ _,qn rfl⟩
 .cases h
theorem zq1 (d:qd (cfg sp)) (a:kf XK szK (cfg sp) 17 qrx) (b:kf XK szK (cfg sp) 19 zb1) (a0:ZB) (c:List Page) (e:(ln a0<=1000000/\smB c)):jd XK szK (cfg sp) 6 [.agg [.str a0,.list 8 c none]] (q5o a0 c):=
 zo zz zi (qb (zx9 d) (qb a (qb (zya d a) (qb b ql)))) d (qf rfl) (by simp [P.flat,P.cellsOf,RT]) (zq3 a0 c) (zq2 a0 c e)
theorem zsu (c:qd (cfg sp)) (a:kf XK szK (cfg sp) 17 qrx) (b:kf XK szK (cfg sp) 19 zb1):kf XK szK (cfg sp) 6 ct6:=by
 intro ns d r h e;unfold ct6 at h;dsimp only at h;split at h
 .cases h;exact ⟨_,rfl,zq1 c a b _ _ e,qn rfl⟩
 .cases h
theorem zil (a:qd (cfg sp)) (b:kf XK szK (cfg sp) 17 qrx) (a0:List ZB) (c:(qi4 a0)):jd XK szK (cfg sp) 25 [.list 2 a0 none] (qyz a0):=
 zo zz zi (qb (qzn a) (qb (q8v a) (qb (q8w a) (qb (zy3 a b) ql)))) a (qf rfl) (by simp [P.flat,P.cellsOf,RT]) (zin a0) (zim a0 c)
theorem zyg (b:qd (cfg sp)) (a:kf XK szK (cfg sp) 17 qrx):kf XK szK (cfg sp) 25 z3e:=by
 intro ns c r h d;unfold z3e at h;dsimp only at h;split at h
 .cases h;exact ⟨_,rfl,zil b a _ d,qn rfl⟩
 .cases h
theorem zl5 (b:qd (cfg sp)) (c:kf XK szK (cfg sp) 61 zb2) (a:kf XK szK (cfg sp) 17 qrx) (d:kf XK szK (cfg sp) 19 zb1) (a0:ZB) (e:(okP a0)):jd XK szK (cfg sp) 8 [.str a0] (q0a a0):=
 zj4 zz zi (qb (zye b c) (qb (zyf b) (qb (zyg b a) (qb (zsu b a d) ql)))) b (qf rfl) (by simp [P.flat,P.cellsOf,RT]) (zl7 a0) (zl6 a0 e)
theorem z3z (d:qd (cfg sp)) (a:kf XK szK (cfg sp) 61 zb2) (b:kf XK szK (cfg sp) 17 qrx) (c:kf XK szK (cfg sp) 19 zb1):kf XK szK (cfg sp) 8 ct8:=by
 intro ns e r h f;unfold ct8 at h;dsimp only at h;split at h
 .cases h;exact ⟨_,rfl,zl5 d a b c _ f,qn rfl⟩
 .cases h
theorem q99 (d:qd (cfg sp)) (a0:List Sign) (b:Int) (a2:Bool) (a3:Int) (a4:List Sign) (a5:Int) (a:Bool) (c:Int) (e:(ln a0<=10000000)):jd XK szK (cfg sp) 28 [.agg [.list 4 a0 none,.int .i64 none b,.sb 0 false a2 (a2=true) (a2=false),.int .i64 none a3],.agg [.list 4 a4 none,.int .i64 none a5,.sb 0 false a (a=true) (a=false),.int .i64 none c]] (qsj a0 b a2 a3 a4 a5 a c):=
 zo zz zi (qb (zx8 d) ql) d (qf rfl) (by simp [P.flat,P.cellsOf,RT]) (zab a0 b a2 a3 a4 a5 a c) (zaa a0 b a2 a3 a4 a5 a c e)
theorem zyj (a:qd (cfg sp)):kf XK szK (cfg sp) 28 z3g:=by
 intro ns b r h c;unfold z3g at h;dsimp only at h;split at h
 .cases h;exact ⟨_,rfl,q99 a _ _ _ _ _ _ _ _ c,qn rfl⟩
 .cases h
theorem zo0 (b:qd (cfg sp)) (a0:ZB) (a:List Page) (a2:ZB) (a3:List Page) (c:(ln a<=5000/\okB a)):jd XK szK (cfg sp) 10 [.agg [.str a0,.list 8 a none],.agg [.str a2,.list 8 a3 none]] (q3b a0 a a2 a3):=
 zo zz zi (qb (zyj b) ql) b (qf rfl) (by simp [P.flat,P.cellsOf,RT]) (zo2 a0 a a2 a3) (zo1 a0 a a2 a3 c)
theorem zx7 (a:qd (cfg sp)):kf XK szK (cfg sp) 10 z23:=by
 intro ns b r h c;unfold z23 at h;dsimp only at h;split at h
 .cases h;exact ⟨_,rfl,zo0 a _ _ _ _ c,qn rfl⟩
 .cases h
theorem zqd (a:qd (cfg sp)) (a0:ZB) (b:(ln a0<=9223372036854775806)):jd XK szK (cfg sp) 50 [.str a0] (q5g a0):=
 zo zz zi ql a (qf rfl) (by simp [P.flat,P.cellsOf,RT]) (zqf a0) (zqe a0 b)
theorem zjn (a:qd (cfg sp)):kf XK szK (cfg sp) 50 zyt:=by
 intro ns b r h c;unfold zyt at h;dsimp only at h;split at h
 .cases h;exact ⟨_,rfl,zqd a _ c,qn rfl⟩
 .cases h
theorem ze9 (b:qd (cfg sp)) (a0 a a2 a3:Int):jd XK szK (cfg sp) 119 [.agg [.int .i64 none a0,.int .i64 none a,.int .i64 none a2,.int .i64 none a3]] (qxt a0 a a2 a3):=
 zo zz zi ql b (qf rfl) (by simp [P.flat,P.cellsOf,RT]) (zfb a0 a a2 a3) (zfa a0 a a2 a3 )
theorem zby (a:qd (cfg sp)):kf XK szK (cfg sp) 119 zji:=by
 intro ns b r h c;unfold zji at h;dsimp only at h;split at h
 .cases h;exact ⟨_,rfl,ze9 a _ _ _ _,qn rfl⟩
 .cases h
theorem z1s (k:qd (cfg sp)) (a0 i a2 a3:Int) (a4:Bool) (a5:Int) (g h:Bool) (j a9 a b:Int) (a12:Bool) (c d e f:Int):jd XK szK (cfg sp) 118 [.agg [.int .i64 none a0,.int .i64 none i,.int .i64 none a2,.int .i64 none a3,.sb 0 false a4 (a4=true) (a4=false),.int .i64 none a5,.sb 0 false g (g=true) (g=false),.sb 0 false h (h=true) (h=false),.int .i64 none j,.int .i64 none a9,.int .i64 none a,.int .i64 none b,.sb 0 false a12 (a12=true) (a12=false),.int .i64 none c,.int .i64 none d,.int .i64 none e,.int .i64 none f]] (ze2 a0 i a2 a3 a4 a5 g h j a9 a b a12 c d e f):=
 zo zz zi ql k (qf rfl) (by simp [P.flat,P.cellsOf,RT]) (z1u a0 i a2 a3 a4 a5 g h j a9 a b a12 c d e f) (z1t a0 i a2 a3 a4 a5 g h j a9 a b a12 c d e f )
theorem zr5 (a:qd (cfg sp)):kf XK szK (cfg sp) 118 zr4:=by
 intro ns b r h c;unfold zr4 at h;dsimp only at h;split at h
 .cases h;exact ⟨_,rfl,z1s a _ _ _ _ _ _ _ _ _ _ _ _ _ _ _ _ _,qn rfl⟩
 .cases h
theorem zoq (k:qd (cfg sp)) (a0 i a2 a3:Int) (a4:Bool) (a5:Int) (g h:Bool) (j a9 a b:Int) (a12:Bool) (c d e f:Int):jd XK szK (cfg sp) 120 [.agg [.int .i64 none a0,.int .i64 none i,.int .i64 none a2,.int .i64 none a3,.sb 0 false a4 (a4=true) (a4=false),.int .i64 none a5,.sb 0 false g (g=true) (g=false),.sb 0 false h (h=true) (h=false),.int .i64 none j,.int .i64 none a9,.int .i64 none a,.int .i64 none b,.sb 0 false a12 (a12=true) (a12=false),.int .i64 none c,.int .i64 none d,.int .i64 none e,.int .i64 none f]] (q20 a0 i a2 a3 a4 a5 g h j a9 a b a12 c d e f):=
 zo zz zi ql k (qf rfl) (by simp [P.flat,P.cellsOf,RT]) (zos a0 i a2 a3 a4 a5 g h j a9 a b a12 c d e f) (zor a0 i a2 a3 a4 a5 g h j a9 a b a12 c d e f )
theorem zr7 (a:qd (cfg sp)):kf XK szK (cfg sp) 120 zr6:=by
 intro ns b r h c;unfold zr6 at h;dsimp only at h;split at h
 .cases h;exact ⟨_,rfl,zoq a _ _ _ _ _ _ _ _ _ _ _ _ _ _ _ _ _,qn rfl⟩
 .cases h
theorem zxo (i:qd (cfg sp)) (a0 j a2 a3:Int) (a4:Bool) (a5:Int) (g h:Bool) (k a9 a b:Int) (a12:Bool) (c d e f:Int):jd XK szK (cfg sp) 55 [.agg [.int .i64 none a0,.int .i64 none j,.int .i64 none a2,.int .i64 none a3,.sb 0 false a4 (a4=true) (a4=false),.int .i64 none a5,.sb 0 false g (g=true) (g=false),.sb 0 false h (h=true) (h=false),.int .i64 none k,.int .i64 none a9,.int .i64 none a,.int .i64 none b,.sb 0 false a12 (a12=true) (a12=false),.int .i64 none c,.int .i64 none d,.int .i64 none e,.int .i64 none f]] (za0 a0 j a2 a3 a4 a5 g h k a9 a b a12 c d e f):=
 zo zz zi (qb (zr5 i) (qb (zby i) (qb (zr7 i) ql))) i (qf rfl) (by simp [P.flat,P.cellsOf,RT]) (zxq a0 j a2 a3 a4 a5 g h k a9 a b a12 c d e f) (zxp a0 j a2 a3 a4 a5 g h k a9 a b a12 c d e f )
theorem q8u (a:qd (cfg sp)):kf XK szK (cfg sp) 55 zsr:=by
 intro ns b r h c;unfold zsr at h;dsimp only at h;split at h
 .cases h;exact ⟨_,rfl,zxo a _ _ _ _ _ _ _ _ _ _ _ _ _ _ _ _ _,qn rfl⟩
 .cases h
theorem zfe (b:qd (cfg sp)) (a0:ZB) (a:List Sign) (c:(ln a0<=1000000000/\ln a<=1000000000)):jd XK szK (cfg sp) 113 [.agg [.str a0,.list 4 a none]] (qxu a0 a):=
 zo zz zi (qb (zjn b) (qb (q8u b) ql)) b (qf rfl) (by simp [P.flat,P.cellsOf,RT]) (zfg a0 a) (zff a0 a c)
theorem zrv (a:qd (cfg sp)):kf XK szK (cfg sp) 113 zru:=by
 intro ns b r h c;unfold zru at h;dsimp only at h;split at h
 .cases h;exact ⟨_,rfl,zfe a _ _ c,qn rfl⟩
 .cases h
theorem zg8 (a:qd (cfg sp)) (a0:List Sign) (b:(ln a0<=1000000000)):jd XK szK (cfg sp) 116 [.list 4 a0 none] (qye a0):=
 zo zz zi ql a (qf rfl) (by simp [P.flat,P.cellsOf,RT]) (zha a0) (zg9 a0 b)
theorem zr1 (a:qd (cfg sp)):kf XK szK (cfg sp) 116 zr0:=by
 intro ns b r h c;unfold zr0 at h;dsimp only at h;split at h
 .cases h;exact ⟨_,rfl,zg8 a _ c,qn rfl⟩
 .cases h
theorem zt8 (b:qd (cfg sp)) (a0:List Sign) (a:Int) (c:(0<=a/\a<=ln a0/\ln a0<=1000000000)):jd XK szK (cfg sp) 53 [.list 4 a0 none,.int .i64 none a] (q6r a0 a):=
 zo zz zi ql b (qf rfl) (by simp [P.flat,P.cellsOf,RT]) (zua a0 a) (zt9 a0 a c)
theorem zyw (a:qd (cfg sp)):kf XK szK (cfg sp) 53 z3s:=by
 intro ns b r h c;unfold z3s at h;dsimp only at h;split at h
 .cases h;exact ⟨_,rfl,zt8 a _ _ c,qn rfl⟩
 .cases h
theorem zm9 (b:qd (cfg sp)) (a0:List Sign) (a:Int) (c:(0<=a/\a<=ln a0/\ln a0<=1000000000)):jd XK szK (cfg sp) 117 [.list 4 a0 none,.int .i64 none a] (q08 a0 a):=
 zo zz zi ql b (qf rfl) (by simp [P.flat,P.cellsOf,RT]) (znb a0 a) (zna a0 a c)
theorem zr3 (a:qd (cfg sp)):kf XK szK (cfg sp) 117 zr2:=by
 intro ns b r h c;unfold zr2 at h;dsimp only at h;split at h
 .cases h;exact ⟨_,rfl,zm9 a _ _ c,qn rfl⟩
 .cases h
theorem z1n (a:qd (cfg sp)) (a0:List Sign) (b:(ln a0<=1000000000)):jd XK szK (cfg sp) 115 [.list 4 a0 none] (ze0 a0):=
 zo zz zi ql a (qf rfl) (by simp [P.flat,P.cellsOf,RT]) (z1p a0) (z1o a0 b)
theorem zrz (a:qd (cfg sp)):kf XK szK (cfg sp) 115 zry:=by
 intro ns b r h c;unfold zry at h;dsimp only at h;split at h
 .cases h;exact ⟨_,rfl,z1n a _ c,qn rfl⟩
 .cases h
theorem ziq (b:qd (cfg sp)) (a0:ZB) (a:List Page) (c:(smB a)):jd XK szK (cfg sp) 51 [.agg [.str a0,.list 8 a none]] (qy0 a0 a):=
 zo zz zi ql b (qf rfl) (by simp [P.flat,P.cellsOf,RT]) (zis a0 a) (zir a0 a c)
theorem zyu (a:qd (cfg sp)):kf XK szK (cfg sp) 51 z3q:=by
 intro ns b r h c;unfold z3q at h;dsimp only at h;split at h
 .cases h;exact ⟨_,rfl,ziq a _ _ c,qn rfl⟩
 .cases h
theorem zv9 (b:qd (cfg sp)) (a0 a:List Sign) (c:(ln a0<=10000000)):jd XK szK (cfg sp) 52 [.list 4 a0 none,.list 4 a none] (q7p a0 a):=
 zo zz zi ql b (qf rfl) (by simp [P.flat,P.cellsOf,RT]) (zwb a0 a) (zwa a0 a c)
theorem zyv (a:qd (cfg sp)):kf XK szK (cfg sp) 52 z3r:=by
 intro ns b r h c;unfold z3r at h;dsimp only at h;split at h
 .cases h;exact ⟨_,rfl,zv9 a _ _ c,qn rfl⟩
 .cases h
theorem z2v (b:qd (cfg sp)) (a0:List Int) (a:Int) (c:(ln a0<=1000000000)):jd XK szK (cfg sp) 114 [.list 1 a0 none,.int .i64 none a] (zjc a0 a):=
 zo zz zi ql b (qf rfl) (by simp [P.flat,P.cellsOf,RT]) (z2x a0 a) (z2w a0 a c)
theorem zrx (a:qd (cfg sp)):kf XK szK (cfg sp) 114 zrw:=by
 intro ns b r h c;unfold zrw at h;dsimp only at h;split at h
 .cases h;exact ⟨_,rfl,z2v a _ _ c,qn rfl⟩
 .cases h
theorem zp1 (a:qd (cfg sp)) (a0:ZB) (b:List Sign) (a2:List Int) (a3:List Staff) (c:(ln a0<=1000000000/\qz2 b a2 a3)):jd XK szK (cfg sp) 54 [.agg [.str a0,.list 4 b none],.list 1 a2 none,.list 7 a3 none] (q39 a0 b a2 a3):=
 zo zz zi (qb (zrv a) (qb (zrx a) (qb (zrz a) (qb (zr1 a) (qb (zr3 a) ql))))) a (qf rfl) (by simp [P.flat,P.cellsOf,RT]) (zp3 a0 b a2 a3) (zp2 a0 b a2 a3 c)
theorem zyx (a:qd (cfg sp)):kf XK szK (cfg sp) 54 z3t:=by
 intro ns b r h c;unfold z3t at h;dsimp only at h;split at h
 .cases h;exact ⟨_,rfl,zp1 a _ _ _ _ c,qn rfl⟩
 .cases h
theorem zly (a:qd (cfg sp)) (a0:ZB) (b:List Page) (c:(ln a0<=1000000000/\smB b)):jd XK szK (cfg sp) 20 [.agg [.str a0,.list 8 b none]] (qz5 a0 b):=
 zo zz zi (qb (zjn a) (qb (zyu a) (qb (zyw a) (qb (zyv a) (qb (zyx a) ql))))) a (qf rfl) (by simp [P.flat,P.cellsOf,RT]) (zl0 a0 b) (zlz a0 b c)
theorem zyb (a:qd (cfg sp)):kf XK szK (cfg sp) 20 z29:=by
 intro ns b r h c;unfold z29 at h;dsimp only at h;split at h
 .cases h;exact ⟨_,rfl,zly a _ _ c,qn rfl⟩
 .cases h
theorem zud (b:qd (cfg sp)) (a0:ZB) (a:List Page) (c:(ln a0<=9223372036854775807/\ln a<=9223372036854775807/\∀ p ∈ a,ln p.Staves<=9223372036854775807/\∀ s ∈ p.Staves,ln s.Signs<=9223372036854775807)):jd XK szK (cfg sp) 4 [.agg [.str a0,.list 8 a none]] (q6t a0 a):=
 zo zz zi ql b (qf rfl) (by simp [P.flat,P.cellsOf,RT]) (zug a0 a) (zue a0 a c)
theorem z3p (a:qd (cfg sp)):kf XK szK (cfg sp) 4 ct4:=by
 intro ns b r h c;unfold ct4 at h;dsimp only at h;split at h
 .cases h;exact ⟨_,rfl,zud a _ _ c,qn rfl⟩
 .cases h
theorem zwr (b:qd (cfg sp)) (a0:ZB) (a:Int) (c:(U8 a)):jd XK szK (cfg sp) 170 [.str a0,.int .u8 none a] (q7y a0 a):=
 zo zz zi ql b (qf rfl) (by simp [P.flat,P.cellsOf,RT]) (zwt a0 a) (zws a0 a c)
theorem zsj (a:qd (cfg sp)):kf XK szK (cfg sp) 170 zsi:=by
 intro ns b r h c;unfold zsi at h;dsimp only at h;split at h
 .cases h;exact ⟨_,rfl,zwr a _ _ c,qn rfl⟩
 .cases h
theorem zfp (a:qd (cfg sp)) (a0:Int):jd XK szK (cfg sp) 56 [.int .i64 none a0] (qxy a0):=
 zo zz zi ql a (qf rfl) (by simp [P.flat,P.cellsOf,RT]) (zfr a0) (zfq a0 )
theorem zyy (a:qd (cfg sp)):kf XK szK (cfg sp) 56 z3u:=by
 intro ns b r h c;unfold z3u at h;dsimp only at h;split at h
 .cases h;exact ⟨_,rfl,zfp a _,qn rfl⟩
 .cases h
theorem zmn (a:qd (cfg sp)) (a0:ZB):jd XK szK (cfg sp) 159 [.str a0] (q0i a0):=
 zo zz zi ql a (qf rfl) (by simp [P.flat,P.cellsOf,RT]) (zmp a0) (zmo a0 )
theorem zsf (a:qd (cfg sp)):kf XK szK (cfg sp) 159 zse:=by
 intro ns b r h c;unfold zse at h;dsimp only at h;split at h
 .cases h;exact ⟨_,rfl,zmn a _,qn rfl⟩
 .cases h
theorem zb7 (c:qd (cfg sp)):∀ (m:Nat) (a:Int),((if a<0 then (1000:Nat) else Int.toNat a))=m->(-100<=a/\a<=100)->jd XK szK (cfg sp) 60 [.int .i64 none a] (qp9 a):=by
 intro m
 induction m using Nat.strongRecOn with
 | _ m d=>
  intro a e f;have g:kf XK szK (cfg sp) 60 (zsy a):=by
   intro ns i r h b;unfold zsy at h;dsimp only at h;split at h
   .cases h;exact ⟨_,rfl,d _ (by rw [<-e];exact b.2) _ rfl b.1,qn rfl⟩
   .cases h
  exact zj4 zz zi (qb g ql) c (qf rfl) (by simp [P.flat,P.cellsOf,RT]) (zgy a) (zgx a f)
theorem zgw (a:qd (cfg sp)) (a0:Int) (b:(-100<=a0/\a0<=100)):jd XK szK (cfg sp) 60 [.int .i64 none a0] (qp9 a0):=zb7 a _ a0 rfl b
theorem zjq (a:qd (cfg sp)):kf XK szK (cfg sp) 60 zy2:=by
 intro ns b r h c;unfold zy2 at h;dsimp only at h;split at h
 .cases h;exact ⟨_,rfl,zgw a _ c,qn rfl⟩
 .cases h
theorem ztm (k:qd (cfg sp)) (a0 i a2 a3:Int) (a4:Bool) (a5:Int) (g h:Bool) (j a9 a b:Int) (a12:Bool) (c d e f:Int) (l:(-100<=a2/\a2<=100)):jd XK szK (cfg sp) 57 [.agg [.int .i64 none a0,.int .i64 none i,.int .i64 none a2,.int .i64 none a3,.sb 0 false a4 (a4=true) (a4=false),.int .i64 none a5,.sb 0 false g (g=true) (g=false),.sb 0 false h (h=true) (h=false),.int .i64 none j,.int .i64 none a9,.int .i64 none a,.int .i64 none b,.sb 0 false a12 (a12=true) (a12=false),.int .i64 none c,.int .i64 none d,.int .i64 none e,.int .i64 none f]] (q6l a0 i a2 a3 a4 a5 g h j a9 a b a12 c d e f):=
 zo zz zi (qb (zjq k) ql) k (qf rfl) (by simp [P.flat,P.cellsOf,RT]) (zto a0 i a2 a3 a4 a5 g h j a9 a b a12 c d e f) (ztn a0 i a2 a3 a4 a5 g h j a9 a b a12 c d e f l)
theorem zjo (a:qd (cfg sp)):kf XK szK (cfg sp) 57 zyz:=by
 intro ns b r h c;unfold zyz at h;dsimp only at h;split at h
 .cases h;exact ⟨_,rfl,ztm a _ _ _ _ _ _ _ _ _ _ _ _ _ _ _ _ _ c,qn rfl⟩
 .cases h
theorem zwv (k:qd (cfg sp)) (a0 i a2 a3:Int) (a4:Bool) (a5:Int) (g h:Bool) (j a9 a b:Int) (a12:Bool) (c d e f:Int) (l:(-100<=a2/\a2<=100/\0<=a5/\a5<=3)):jd XK szK (cfg sp) 58 [.agg [.int .i64 none a0,.int .i64 none i,.int .i64 none a2,.int .i64 none a3,.sb 0 false a4 (a4=true) (a4=false),.int .i64 none a5,.sb 0 false g (g=true) (g=false),.sb 0 false h (h=true) (h=false),.int .i64 none j,.int .i64 none a9,.int .i64 none a,.int .i64 none b,.sb 0 false a12 (a12=true) (a12=false),.int .i64 none c,.int .i64 none d,.int .i64 none e,.int .i64 none f]] (q70 a0 i a2 a3 a4 a5 g h j a9 a b a12 c d e f):=
 zo zz zi (qb (zjo k) ql) k (qf rfl) (by simp [P.flat,P.cellsOf,RT]) (zwx a0 i a2 a3 a4 a5 g h j a9 a b a12 c d e f) (zww a0 i a2 a3 a4 a5 g h j a9 a b a12 c d e f l)
theorem zy0 (a:qd (cfg sp)):kf XK szK (cfg sp) 58 z3v:=by
 intro ns b r h c;unfold z3v at h;dsimp only at h;split at h
 .cases h;exact ⟨_,rfl,zwv a _ _ _ _ _ _ _ _ _ _ _ _ _ _ _ _ _ c,qn rfl⟩
 .cases h
theorem zmg (b:qd (cfg sp)) (a0 a a2 a3:Int):jd XK szK (cfg sp) 59 [.agg [.int .i64 none a0,.int .i64 none a,.int .i64 none a2,.int .i64 none a3]] (q0f a0 a a2 a3):=
 zo zz zi (qb (zby b) ql) b (qf rfl) (by simp [P.flat,P.cellsOf,RT]) (zmi a0 a a2 a3) (zmh a0 a a2 a3 )
theorem zjp (a:qd (cfg sp)):kf XK szK (cfg sp) 59 zy1:=by
 intro ns b r h c;unfold zy1 at h;dsimp only at h;split at h
 .cases h;exact ⟨_,rfl,zmg a _ _ _ _,qn rfl⟩
 .cases h
theorem zra (g:qd (cfg sp)) (a0 j a2 a3:Int) (a4:Bool) (a5:Int) (h i:Bool) (k a9 a b:Int) (a12:Bool) (c d e f:Int):jd XK szK (cfg sp) 22 [.agg [.int .i64 none a0,.int .i64 none j,.int .i64 none a2,.int .i64 none a3,.sb 0 false a4 (a4=true) (a4=false),.int .i64 none a5,.sb 0 false h (h=true) (h=false),.sb 0 false i (i=true) (i=false),.int .i64 none k,.int .i64 none a9,.int .i64 none a,.int .i64 none b,.sb 0 false a12 (a12=true) (a12=false),.int .i64 none c,.int .i64 none d,.int .i64 none e,.int .i64 none f]] (q5r a0 j a2 a3 a4 a5 h i k a9 a b a12 c d e f):=
 zo zz zi (qb (q8u g) (qb (zyy g) (qb (zjo g) (qb (zy0 g) (qb (zjp g) (qb (zjq g) ql)))))) g (qf rfl) (by simp [P.flat,P.cellsOf,RT]) (zrc a0 j a2 a3 a4 a5 h i k a9 a b a12 c d e f) (zrb a0 j a2 a3 a4 a5 h i k a9 a b a12 c d e f )
theorem zyd (a:qd (cfg sp)):kf XK szK (cfg sp) 22 z3b:=by
 intro ns b r h c;unfold z3b at h;dsimp only at h;split at h
 .cases h;exact ⟨_,rfl,zra a _ _ _ _ _ _ _ _ _ _ _ _ _ _ _ _ _,qn rfl⟩
 .cases h
theorem zfs (a:qd (cfg sp)) (a0:ZB) (b:(ln a0<=1000000)):jd XK szK (cfg sp) 166 [.str a0] (qxz a0):=
 zo zz zi ql a (qf rfl) (by simp [P.flat,P.cellsOf,RT]) (zfu a0) (zft a0 b)
theorem zb0 (a:qd (cfg sp)):kf XK szK (cfg sp) 166 zjk:=by
 intro ns b r h c;unfold zjk at h;dsimp only at h;split at h
 .cases h;exact ⟨_,rfl,zfs a _ c,qn rfl⟩
 .cases h
theorem zf8 (a:qd (cfg sp)) (a0:ZB) (b:(ln a0<=1000000)):jd XK szK (cfg sp) 172 [.str a0] (qx4 a0):=
 zo zz zi (qb (zb0 a) ql) a (qf rfl) (by simp [P.flat,P.cellsOf,RT]) (zga a0) (zf9 a0 b)
theorem zsn (a:qd (cfg sp)):kf XK szK (cfg sp) 172 zsm:=by
 intro ns b r h c;unfold zsm at h;dsimp only at h;split at h
 .cases h;exact ⟨_,rfl,zf8 a _ c,qn rfl⟩
 .cases h
theorem z2o (a:qd (cfg sp)) (a0:Int) (b:(0<=a0/\a0<=15)):jd XK szK (cfg sp) 173 [.int .i64 none a0] (zi5 a0):=
 zo zz zi ql a (qf rfl) (by simp [P.flat,P.cellsOf,RT]) (z2q a0) (z2p a0 b)
theorem zsp (a:qd (cfg sp)):kf XK szK (cfg sp) 173 zso:=by
 intro ns b r h c;unfold zso at h;dsimp only at h;split at h
 .cases h;exact ⟨_,rfl,z2o a _ c,qn rfl⟩
 .cases h
theorem zf0 (a:qd (cfg sp)) (a0:ZB):jd XK szK (cfg sp) 171 [.str a0] (qx1 a0):=
 zo zz zi (qb (zsp a) (qb (zjp a) ql)) a (qf rfl) (by simp [P.flat,P.cellsOf,RT]) (zf2 a0) (zf1 a0 )
theorem zsl (a:qd (cfg sp)):kf XK szK (cfg sp) 171 zsk:=by
 intro ns b r h c;unfold zsk at h;dsimp only at h;split at h
 .cases h;exact ⟨_,rfl,zf0 a _,qn rfl⟩
 .cases h
theorem zql (b:qd (cfg sp)) (a0:ZB) (a:Int) (c:(U8 a/\ln a0<=1000000)):jd XK szK (cfg sp) 165 [.str a0,.int .u8 none a] (q5i a0 a):=
 zo zz zi ql b (qf rfl) (by simp [P.flat,P.cellsOf,RT]) (zqn a0 a) (zqm a0 a c)
theorem zsh (a:qd (cfg sp)):kf XK szK (cfg sp) 165 zsg:=by
 intro ns b r h c;unfold zsg at h;dsimp only at h;split at h
 .cases h;exact ⟨_,rfl,zql a _ _ c,qn rfl⟩
 .cases h
theorem zqs (a:qd (cfg sp)) (a0:ZB) (b:(ln a0<=30000)):jd XK szK (cfg sp) 126 [.str a0] (q5l a0):=
 zo zz zi (qb (zsf a) (qb (zsn a) (qb (zsj a) (qb (zsl a) (qb (zb0 a) (qb (zsh a) (qb (q8u a) ql))))))) a (qf rfl) (by simp [P.flat,P.cellsOf,RT]) (zqu a0) (zqt a0 b)
theorem zsb (a:qd (cfg sp)):kf XK szK (cfg sp) 126 zsa:=by
 intro ns b r h c;unfold zsa at h;dsimp only at h;split at h
 .cases h;exact ⟨_,rfl,zqs a _ c,qn rfl⟩
 .cases h
theorem zb5 (c:qd (cfg sp)):∀ (m:Nat) (a:Int),((if a<0 then (1000:Nat) else Int.toNat a))=m->(-100<=a/\a<=100)->jd XK szK (cfg sp) 21 [.int .i64 none a] (qp8 a):=by
 intro m
 induction m using Nat.strongRecOn with
 | _ m d=>
  intro a e f;have g:kf XK szK (cfg sp) 21 (zsx a):=by
   intro ns i r h b;unfold zsx at h;dsimp only at h;split at h
   .cases h;exact ⟨_,rfl,d _ (by rw [<-e];exact b.2) _ rfl b.1,qn rfl⟩
   .cases h
  exact zj4 zz zi (qb g ql) c (qf rfl) (by simp [P.flat,P.cellsOf,RT]) (zgv a) (zgu a f)
theorem zgt (a:qd (cfg sp)) (a0:Int) (b:(-100<=a0/\a0<=100)):jd XK szK (cfg sp) 21 [.int .i64 none a0] (qp8 a0):=zb5 a _ a0 rfl b
theorem zyc (a:qd (cfg sp)):kf XK szK (cfg sp) 21 z3a:=by
 intro ns b r h c;unfold z3a at h;dsimp only at h;split at h
 .cases h;exact ⟨_,rfl,zgt a _ c,qn rfl⟩
 .cases h
theorem zza (b:qd (cfg sp)) (a0:ZB) (a:Int) (c:(U8 a/\ln a0<=100000000)):jd XK szK (cfg sp) 27 [.str a0,.int .u8 none a] (zb3 a0 a):=
 zo zz zi ql b (qf rfl) (by simp [P.flat,P.cellsOf,RT]) (zzc a0 a) (zzb a0 a c)
theorem zjl (a:qd (cfg sp)):kf XK szK (cfg sp) 27 zyi:=by
 intro ns b r h c;unfold zyi at h;dsimp only at h;split at h
 .cases h;exact ⟨_,rfl,zza a _ _ c,qn rfl⟩
 .cases h
theorem zpc (a:qd (cfg sp)) (a0:ZB) (b:(ln a0<=100000000)):jd XK szK (cfg sp) 125 [.str a0] (q3n a0):=
 zo zz zi ql a (qf rfl) (by simp [P.flat,P.cellsOf,RT]) (zpe a0) (zpd a0 b)
theorem zr9 (a:qd (cfg sp)):kf XK szK (cfg sp) 125 zr8:=by
 intro ns b r h c;unfold zr8 at h;dsimp only at h;split at h
 .cases h;exact ⟨_,rfl,zpc a _ c,qn rfl⟩
 .cases h
theorem zpj (a:qd (cfg sp)) (a0:List ZB) (b:(qi4 a0)):jd XK szK (cfg sp) 67 [.list 2 a0 none] (q3q a0):=
 zo zz zi (qb (zr9 a) (qb (zsb a) ql)) a (qf rfl) (by simp [P.flat,P.cellsOf,RT]) (zpl a0) (zpk a0 b)
theorem zy4 (a:qd (cfg sp)):kf XK szK (cfg sp) 67 z3x:=by
 intro ns b r h c;unfold z3x at h;dsimp only at h;split at h
 .cases h;exact ⟨_,rfl,zpj a _ c,qn rfl⟩
 .cases h
theorem zv1 (a:qd (cfg sp)) (a0:List ZB) (b:(okR a0)):jd XK szK (cfg sp) 26 [.list 2 a0 none] (q7h a0):=
 zj4 zz zi (qb (zjl a) (qb (zy4 a) ql)) a (qf rfl) (by simp [P.flat,P.cellsOf,RT]) (zv3 a0) (zv2 a0 b)
theorem zyh (a:qd (cfg sp)):kf XK szK (cfg sp) 26 z3f:=by
 intro ns b r h c;unfold z3f at h;dsimp only at h;split at h
 .cases h;exact ⟨_,rfl,zv1 a _ c,qn rfl⟩
 .cases h
theorem zq4 (b:qd (cfg sp)) (a0:ZB) (a:List Page) (c:(ln a0<=1000000/\smB a)):jd XK szK (cfg sp) 7 [.agg [.str a0,.list 8 a none]] (q5p a0 a):=
 zo zz zi (qb (zyb b) (qb (zyc b) (qb (zyd b) ql))) b (qf rfl) (by simp [P.flat,P.cellsOf,RT]) (zq6 a0 a) (zq5 a0 a c)
theorem zsw (a:qd (cfg sp)):kf XK szK (cfg sp) 7 ct7:=by
 intro ns b r h c;unfold ct7 at h;dsimp only at h;split at h
 .cases h;exact ⟨_,rfl,zq4 a _ _ c,qn rfl⟩
 .cases h
theorem zl8 (a:qd (cfg sp)) (a0:ZB) (b:(okS a0)):jd XK szK (cfg sp) 9 [.str a0] (q0b a0):=
 zo zz zi (qb (zjl a) (qb (zyh a) (qb (zsw a) ql))) a (qf rfl) (by simp [P.flat,P.cellsOf,RT]) (zma a0) (zl9 a0 b)
theorem z30 (a:qd (cfg sp)):kf XK szK (cfg sp) 9 ct9:=by
 intro ns b r h c;unfold ct9 at h;dsimp only at h;split at h
 .cases h;exact ⟨_,rfl,zl8 a _ c,qn rfl⟩
 .cases h
theorem zc1 (c:qd (cfg sp)) (f:kf XK szK (cfg sp) 5 ct5) (a:kf XK szK (cfg sp) 17 qrx) (b:kf XK szK (cfg sp) 19 zb1) (e:kf XK szK (cfg sp) 61 zb2) (a0:ZB) (d:List Page) (a2:ZB) (g:(ln a0<=9223372036854775807/\ln d<=9223372036854775807/\(∀ p ∈ d,ln p.Staves<=9223372036854775807/\∀ s ∈ p.Staves,ln s.Signs<=9223372036854775807)/\ln a2<=9223372036854775807)):jd XK szK (cfg sp) 3 [.agg [.str a0,.list 8 d none],.str a2] (qu3 a0 d a2):=
 zo zz zi (qb (z3p c) (qb f (qb (zsu c a b) (qb (zsw c) (qb (z3z c e a b) (qb (z30 c) (qb (zx7 c) ql))))))) c (qf rfl) (by simp [P.flat,P.cellsOf,RT]) (zc3 a0 d a2) (zc2 a0 d a2 g)
end Go.Proofs.YtpgchdcifbaioaaGreatDoor
