import Derived.Test.YtpdphcekmhajdaaGreatDoorOks
namespace Go.Proofs.YtpdphcekmhajdaaGreatDoor
open Go Go.E2 Go.E3
set_option maxRecDepth 100000
variable {sp:Nat->Option (List V->Heap->Option (CR×Heap))}
theorem zlk (a:qx (cfg sp)):j8 XK szK (cfg sp) 137 zlj:=by
 intro ns b r h c;unfold zlj at h;dsimp only at h;split at h
 .cases h;exact ⟨_,rfl,zh0 kz a (f:=137) rfl (by kernel_rfl) _ _,zm rfl⟩
 .cases h
theorem zkg (a:qx (cfg sp)) (a0:ZB) (b:(ln a0<=9223372036854775806)):qa2 XK szK (cfg sp) 41 [.str a0] (q2f a0):=
 jd qal kz zh a (za rfl) (by simp [P.flat,P.cellsOf,RT]) (zki a0) (zkh a0 b)
theorem zef (a:qx (cfg sp)):j8 XK szK (cfg sp) 41 zq1:=by
 intro ns b r h c;unfold zq1 at h;dsimp only at h;split at h
 .cases h;exact ⟨_,rfl,zkg a _ c,zm rfl⟩
 .cases h
theorem zgu (b:qx (cfg sp)) (a0 a a2 a3:Int):qa2 XK szK (cfg sp) 67 [.agg [.int .i64 none a0,.int .i64 none a,.int .i64 none a2,.int .i64 none a3]] (qxl a0 a a2 a3):=
 jd qal kz zh b (za rfl) (by simp [P.flat,P.cellsOf,RT]) (zgw a0 a a2 a3) (zgv a0 a a2 a3 )
theorem zeg (a:qx (cfg sp)):j8 XK szK (cfg sp) 67 zq8:=by
 intro ns b r h c;unfold zq8 at h;dsimp only at h;split at h
 .cases h;exact ⟨_,rfl,zgu a _ _ _ _,zm rfl⟩
 .cases h
theorem zp8 (k:qx (cfg sp)) (a0 i a2 a3:Int) (a4:Bool) (a5:Int) (g h:Bool) (j a9 a b:Int) (a12:Bool) (c d e f:Int):qa2 XK szK (cfg sp) 42 [.agg [.int .i64 none a0,.int .i64 none i,.int .i64 none a2,.int .i64 none a3,.sb 0 false a4 (a4=true) (a4=false),.int .i64 none a5,.sb 0 false g (g=true) (g=false),.sb 0 false h (h=true) (h=false),.int .i64 none j,.int .i64 none a9,.int .i64 none a,.int .i64 none b,.sb 0 false a12 (a12=true) (a12=false),.int .i64 none c,.int .i64 none d,.int .i64 none e,.int .i64 none f]] (q7h a0 i a2 a3 a4 a5 g h j a9 a b a12 c d e f):=
 jd qal kz (qd (zeg k) zh) k (za rfl) (by simp [P.flat,P.cellsOf,RT]) (zqa a0 i a2 a3 a4 a5 g h j a9 a b a12 c d e f) (zp9 a0 i a2 a3 a4 a5 g h j a9 a b a12 c d e f )
theorem q5f (a:qx (cfg sp)):j8 XK szK (cfg sp) 42 zll:=by
 intro ns b r h c;unfold zll at h;dsimp only at h;split at h
 .cases h;exact ⟨_,rfl,zp8 a _ _ _ _ _ _ _ _ _ _ _ _ _ _ _ _ _,zm rfl⟩
 .cases h
theorem za7 (b:qx (cfg sp)) (a0:ZB) (a:List Sign) (c:(ln a0<=1000000000/\ln a<=1000000000)):qa2 XK szK (cfg sp) 19 [.agg [.str a0,.list 4 a none]] (qvm a0 a):=
 jd qal kz (qd (zef b) (qd (q5f b) zh)) b (za rfl) (by simp [P.flat,P.cellsOf,RT]) (za9 a0 a) (za8 a0 a c)
theorem zea (a:qx (cfg sp)):j8 XK szK (cfg sp) 19 zqo:=by
 intro ns b r h c;unfold zqo at h;dsimp only at h;split at h
 .cases h;exact ⟨_,rfl,za7 a _ _ c,zm rfl⟩
 .cases h
theorem q4y (b:qx (cfg sp)) (a0 a:List Sign) (c:(ln a0<=10000000)):qa2 XK szK (cfg sp) 15 [.list 4 a0 none,.list 4 a none] (qqv a0 a):=
 jd qal kz zh b (za rfl) (by simp [P.flat,P.cellsOf,RT]) (q40 a0 a) (q4z a0 a c)
theorem zqn (a:qx (cfg sp)):j8 XK szK (cfg sp) 15 zu5:=by
 intro ns b r h c;unfold zu5 at h;dsimp only at h;split at h
 .cases h;exact ⟨_,rfl,q4y a _ _ c,zm rfl⟩
 .cases h
theorem zj2 (a:qx (cfg sp)) (a0:List Sign) (b:(ln a0<=10000000)):qa2 XK szK (cfg sp) 27 [.list 4 a0 none] (q2c a0):=
 jd qal kz zh a (za rfl) (by simp [P.flat,P.cellsOf,RT]) (zj4 a0) (zj3 a0 b)
theorem zee (a:qx (cfg sp)):j8 XK szK (cfg sp) 27 zqt:=by
 intro ns b r h c;unfold zqt at h;dsimp only at h;split at h
 .cases h;exact ⟨_,rfl,zj2 a _ c,zm rfl⟩
 .cases h
theorem zr1 (b:qx (cfg sp)) (a0 a:List Sign) (c:(ln a0<=1/\ln a<=1)):qa2 XK szK (cfg sp) 23 [.agg [.list 4 a0 none,.list 4 a none]] (q9a a0 a):=
 jd qal kz (qd (zee b) zh) b (za rfl) (by simp [P.flat,P.cellsOf,RT]) (zr3 a0 a) (zr2 a0 a c)
theorem zeb (a:qx (cfg sp)):j8 XK szK (cfg sp) 23 zqp:=by
 intro ns b r h c;unfold zqp at h;dsimp only at h;split at h
 .cases h;exact ⟨_,rfl,zr1 a _ _ c,zm rfl⟩
 .cases h
theorem zk2 (m:qx (cfg sp)) (a0 k:List Sign) (a2 a3 a4 a5:Int) (i:Bool) (l:Int) (j a9:Bool) (b c a12 d:Int) (a:Bool) (e f g h:Int):qa2 XK szK (cfg sp) 25 [.agg [.list 4 a0 none,.list 4 k none],.agg [.int .i64 none a2,.int .i64 none a3,.int .i64 none a4,.int .i64 none a5,.sb 0 false i (i=true) (i=false),.int .i64 none l,.sb 0 false j (j=true) (j=false),.sb 0 false a9 (a9=true) (a9=false),.int .i64 none b,.int .i64 none c,.int .i64 none a12,.int .i64 none d,.sb 0 false a (a=true) (a=false),.int .i64 none e,.int .i64 none f,.int .i64 none g,.int .i64 none h]] (q2m a0 k a2 a3 a4 a5 i l j a9 b c a12 d a e f g h):=
 jd qal kz zh m (za rfl) (by simp [P.flat,P.cellsOf,RT]) (zk4 a0 k a2 a3 a4 a5 i l j a9 b c a12 d a e f g h) (zk3 a0 k a2 a3 a4 a5 i l j a9 b c a12 d a e f g h )
theorem zec (a:qx (cfg sp)):j8 XK szK (cfg sp) 25 zqr:=by
 intro ns b r h c;unfold zqr at h;dsimp only at h;split at h
 .cases h;exact ⟨_,rfl,zk2 a _ _ _ _ _ _ _ _ _ _ _ _ _ _ _ _ _ _ _,zm rfl⟩
 .cases h
theorem zhl (a:qx (cfg sp)) (a0:List Sign) (b:(ln a0<=1000000000)):qa2 XK szK (cfg sp) 26 [.list 4 a0 none] (qye a0):=
 jd qal kz zh a (za rfl) (by simp [P.flat,P.cellsOf,RT]) (zhn a0) (zhm a0 b)
theorem zed (a:qx (cfg sp)):j8 XK szK (cfg sp) 26 zqs:=by
 intro ns b r h c;unfold zqs at h;dsimp only at h;split at h
 .cases h;exact ⟨_,rfl,zhl a _ c,zm rfl⟩
 .cases h
theorem zri (b:qx (cfg sp)) (a0:List Sign) (a:Int) (a2:Bool) (c:(ln a0<=500)):qa2 XK szK (cfg sp) 24 [.list 4 a0 none,.int .i64 none a,.sb 0 false a2 (a2=true) (a2=false)] (q8q a0 a a2):=
 jd qal kz zh b (za rfl) (by simp [P.flat,P.cellsOf,RT]) (zrk a0 a a2) (zrj a0 a a2 c)
theorem zqq (a:qx (cfg sp)):j8 XK szK (cfg sp) 24 zu6:=by
 intro ns b r h c;unfold zu6 at h;dsimp only at h;split at h
 .cases h;exact ⟨_,rfl,zri a _ _ _ c,zm rfl⟩
 .cases h
theorem zkc (a:qx (cfg sp)) (a0:ZB) (b:List Sign) (a2 a3:Int) (c:(ln a0<=1000000000/\ln b<=500)):qa2 XK szK (cfg sp) 5 [.agg [.str a0,.list 4 b none],.int .i64 none a2,.int .i64 none a3] (q2e a0 b a2 a3):=
 jd qal kz (qd (zea a) (qd (zeb a) (qd (zqq a) (qd (zec a) (qd (zed a) (qd (zee a) zh)))))) a (za rfl) (by simp [P.flat,P.cellsOf,RT]) (zke a0 b a2 a3) (zkd a0 b a2 a3 c)
theorem zvi (a:qx (cfg sp)):j8 XK szK (cfg sp) 5 ct5:=by
 intro ns b r h c;unfold ct5 at h;dsimp only at h;split at h
 .cases h;exact ⟨_,rfl,zkc a _ _ _ _ c,zm rfl⟩
 .cases h
theorem zji (b:qx (cfg sp)) (a0:ZB) (a:List Page) (c:(smB a)):qa2 XK szK (cfg sp) 76 [.agg [.str a0,.list 8 a none]] (q0y a0 a):=
 jd qal kz zh b (za rfl) (by simp [P.flat,P.cellsOf,RT]) (zjk a0 a) (zjj a0 a c)
theorem q5i (a:qx (cfg sp)):j8 XK szK (cfg sp) 76 zlo:=by
 intro ns b r h c;unfold zlo at h;dsimp only at h;split at h
 .cases h;exact ⟨_,rfl,zji a _ _ c,zm rfl⟩
 .cases h
theorem zsx (b:qx (cfg sp)) (a0:ZB) (a:List Page) (c:(smB a/\qt a)):qa2 XK szK (cfg sp) 65 [.agg [.str a0,.list 8 a none]] (q92 a0 a):=
 jd qal kz (qd (q5i b) zh) b (za rfl) (by simp [P.flat,P.cellsOf,RT]) (zsz a0 a) (zsy a0 a c)
theorem zq7 (a:qx (cfg sp)):j8 XK szK (cfg sp) 65 zvk:=by
 intro ns b r h c;unfold zvk at h;dsimp only at h;split at h
 .cases h;exact ⟨_,rfl,zsx a _ _ c,zm rfl⟩
 .cases h
theorem zns (b:qx (cfg sp)) (a0:ZB) (a:List Page) (a2:Int) (c:(smB a/\qt a/\(0:Int)<=a2/\(a2:Int)<=1000000000000)):qa2 XK szK (cfg sp) 74 [.agg [.str a0,.list 8 a none],.int .i64 none a2] (q3x a0 a a2):=
 jd qal kz (qd (q5i b) zh) b (za rfl) (by simp [P.flat,P.cellsOf,RT]) (znu a0 a a2) (znt a0 a a2 c)
theorem zq9 (a:qx (cfg sp)):j8 XK szK (cfg sp) 74 zvm:=by
 intro ns b r h c;unfold zvm at h;dsimp only at h;split at h
 .cases h;exact ⟨_,rfl,zns a _ _ _ c,zm rfl⟩
 .cases h
theorem zjd (b:qx (cfg sp)) (a0:List Sign) (a:Int) (a2:Bool) (a3:Int) (a4 a5:List Sign) (c:(ln a0<=500/\ln a4<=1/\ln a5<=1)):qa2 XK szK (cfg sp) 52 [.agg [.list 4 a0 none,.int .i64 none a,.sb 0 false a2 (a2=true) (a2=false),.int .i64 none a3],.agg [.list 4 a4 none,.list 4 a5 none]] (q0t a0 a a2 a3 a4 a5):=
 jd qal kz (qd (zeb b) zh) b (za rfl) (by simp [P.flat,P.cellsOf,RT]) (zjf a0 a a2 a3 a4 a5) (zje a0 a a2 a3 a4 a5 c)
theorem zq4 (a:qx (cfg sp)):j8 XK szK (cfg sp) 52 zvg:=by
 intro ns b r h c;unfold zvg at h;dsimp only at h;split at h
 .cases h;exact ⟨_,rfl,zjd a _ _ _ _ _ _ c,zm rfl⟩
 .cases h
theorem zpo (a:qx (cfg sp)) (a0:ZB) (b:List Page) (c:(ln a0<=1000000000/\smB b/\qt b)):qa2 XK szK (cfg sp) 53 [.agg [.str a0,.list 8 b none]] (q4n a0 b):=
 jd qal kz (qd (zq7 a) (qd (zea a) (qd (zq9 a) (qd (q5i a) (qd (zed a) zh))))) a (za rfl) (by simp [P.flat,P.cellsOf,RT]) (zpq a0 b) (zpp a0 b c)
theorem zq5 (a:qx (cfg sp)):j8 XK szK (cfg sp) 53 zvh:=by
 intro ns b r h c;unfold zvh at h;dsimp only at h;split at h
 .cases h;exact ⟨_,rfl,zpo a _ _ c,zm rfl⟩
 .cases h
theorem zgr (a:qx (cfg sp)) (a0:ZB) (b:List Page) (c:(ln a0<=1000000000/\smB b)):qa2 XK szK (cfg sp) 29 [.agg [.str a0,.list 8 b none]] (qxk a0 b):=
 jd qal kz (qd (zef a) (qd (zq4 a) (qd (zec a) (qd (zq5 a) zh)))) a (za rfl) (by simp [P.flat,P.cellsOf,RT]) (zgt a0 b) (zgs a0 b c)
theorem zqv (a:qx (cfg sp)):j8 XK szK (cfg sp) 29 zu8:=by
 intro ns b r h c;unfold zu8 at h;dsimp only at h;split at h
 .cases h;exact ⟨_,rfl,zgr a _ _ c,zm rfl⟩
 .cases h
theorem zut (b:qx (cfg sp)) (a0 a:Int) (c:(I64 a0/\(1:Int)<=a/\(a:Int)<=1048576)):qa2 XK szK (cfg sp) 7 [.int .i64 none a0,.int .i64 none a] (zdv a0 a):=
 jd qal kz zh b (za rfl) (by simp [P.flat,P.cellsOf,RT]) (zuv a0 a) (zuu a0 a c)
theorem zlp (a:qx (cfg sp)):j8 XK szK (cfg sp) 7 ct7:=by
 intro ns b r h c;unfold ct7 at h;dsimp only at h;split at h
 .cases h;exact ⟨_,rfl,zut a _ _ c,zm rfl⟩
 .cases h
theorem zum (b:qx (cfg sp)) (a0:List Int) (a:Int) (c:(ln a0<=1000000000)):qa2 XK szK (cfg sp) 46 [.list 1 a0 none,.int .i64 none a] (zdt a0 a):=
 jd qal kz zh b (za rfl) (by simp [P.flat,P.cellsOf,RT]) (zuo a0 a) (zun a0 a c)
theorem zq2 (a:qx (cfg sp)):j8 XK szK (cfg sp) 46 zve:=by
 intro ns b r h c;unfold zve at h;dsimp only at h;split at h
 .cases h;exact ⟨_,rfl,zum a _ _ c,zm rfl⟩
 .cases h
theorem zjv (b:qx (cfg sp)) (a0 a a2 a3 a4:Int) (c:((0:Int)<=a4/\(a4:Int)<=100)):qa2 XK szK (cfg sp) 50 [.agg [.int .i64 none a0,.int .i64 none a,.int .i64 none a2,.int .i64 none a3],.int .i64 none a4] (q2b a0 a a2 a3 a4):=
 jd qal kz zh b (za rfl) (by simp [P.flat,P.cellsOf,RT]) (zjx a0 a a2 a3 a4) (zjw a0 a a2 a3 a4 c)
theorem zq3 (a:qx (cfg sp)):j8 XK szK (cfg sp) 50 zvf:=by
 intro ns b r h c;unfold zvf at h;dsimp only at h;split at h
 .cases h;exact ⟨_,rfl,zjv a _ _ _ _ _ c,zm rfl⟩
 .cases h
theorem zp4 (b:qx (cfg sp)) (a:List Int) (c:(ln a<=80/\∀ n ∈ a,I64 n)):qa2 XK szK (cfg sp) 28 [.list 1 a none] (q7f a):=
 jd qal kz (qd (zq2 b) (qd (zlp b) (qd (zq3 b) zh))) b (za rfl) (by simp [P.flat,P.cellsOf,RT]) (zp6 a) (zp5 a c)
theorem zqu (a:qx (cfg sp)):j8 XK szK (cfg sp) 28 zu7:=by
 intro ns b r h c;unfold zu7 at h;dsimp only at h;split at h
 .cases h;exact ⟨_,rfl,zp4 a _ c,zm rfl⟩
 .cases h
theorem zj9 (b:qx (cfg sp)) (a:List Int) (c:(ln a<=80/\∀ n ∈ a,I64 n)):qa2 XK szK (cfg sp) 6 [.list 1 a none] (q2d a):=
 jd qal kz (qd (zqu b) zh) b (za rfl) (by simp [P.flat,P.cellsOf,RT]) (zkb a) (zka a c)
theorem zvl (a:qx (cfg sp)):j8 XK szK (cfg sp) 6 ct6:=by
 intro ns b r h c;unfold ct6 at h;dsimp only at h;split at h
 .cases h;exact ⟨_,rfl,zj9 a _ c,zm rfl⟩
 .cases h
theorem q4t (b:qx (cfg sp)) (a0 a:ZB):qa2 XK szK (cfg sp) 62 [.str a0,.str a] (qqt a0 a):=
 jd qal kz zh b (za rfl) (by simp [P.flat,P.cellsOf,RT]) (q4v a0 a) (q4u a0 a )
theorem q5g (a:qx (cfg sp)):j8 XK szK (cfg sp) 62 zlm:=by
 intro ns b r h c;unfold zlm at h;dsimp only at h;split at h
 .cases h;exact ⟨_,rfl,q4t a _ _,zm rfl⟩
 .cases h
theorem zjo (b:qx (cfg sp)) (a0 a a2 a3:Int):qa2 XK szK (cfg sp) 122 [.agg [.int .i64 none a0,.int .i64 none a,.int .i64 none a2,.int .i64 none a3]] (q04 a0 a a2 a3):=
 jd qal kz zh b (za rfl) (by simp [P.flat,P.cellsOf,RT]) (zjq a0 a a2 a3) (zjp a0 a a2 a3 )
theorem q76 (a:qx (cfg sp)):j8 XK szK (cfg sp) 122 zd9:=by
 intro ns b r h c;unfold zd9 at h;dsimp only at h;split at h
 .cases h;exact ⟨_,rfl,zjo a _ _ _ _,zm rfl⟩
 .cases h
theorem zg7 (b:qx (cfg sp)) (a0 a a2 a3:Int):qa2 XK szK (cfg sp) 91 [.agg [.int .i64 none a0,.int .i64 none a,.int .i64 none a2,.int .i64 none a3]] (qxv a0 a a2 a3):=
 jd qal kz (qd (zeg b) (qd (q76 b) zh)) b (za rfl) (by simp [P.flat,P.cellsOf,RT]) (zg9 a0 a a2 a3) (zg8 a0 a a2 a3 )
theorem zeh (a:qx (cfg sp)):j8 XK szK (cfg sp) 91 zra:=by
 intro ns b r h c;unfold zra at h;dsimp only at h;split at h
 .cases h;exact ⟨_,rfl,zg7 a _ _ _ _,zm rfl⟩
 .cases h
theorem zbi (a:qx (cfg sp)) (a0:ZB):qa2 XK szK (cfg sp) 95 [.str a0] (qvq a0):=
 jd qal kz (qd (q76 a) zh) a (za rfl) (by simp [P.flat,P.cellsOf,RT]) (zbk a0) (zbj a0 )
theorem zej (a:qx (cfg sp)):j8 XK szK (cfg sp) 95 zrc:=by
 intro ns b r h c;unfold zrc at h;dsimp only at h;split at h
 .cases h;exact ⟨_,rfl,zbi a _,zm rfl⟩
 .cases h
theorem zbe (a:qx (cfg sp)) (a0:ZB) (b:(ln a0<=1000000)):qa2 XK szK (cfg sp) 61 [.str a0] (qvo a0):=
 jd qal kz zh a (za rfl) (by simp [P.flat,P.cellsOf,RT]) (zbg a0) (zbf a0 b)
theorem qw6 (a:qx (cfg sp)):j8 XK szK (cfg sp) 61 zhr:=by
 intro ns b r h c;unfold zhr at h;dsimp only at h;split at h
 .cases h;exact ⟨_,rfl,zbe a _ c,zm rfl⟩
 .cases h
theorem zbm (a:qx (cfg sp)) (a0:ZB) (b:(ln a0<=1000000)):qa2 XK szK (cfg sp) 63 [.str a0] (qvr a0):=
 jd qal kz (qd (qw6 a) zh) a (za rfl) (by simp [P.flat,P.cellsOf,RT]) (zbo a0) (zbn a0 b)
theorem q5h (a:qx (cfg sp)):j8 XK szK (cfg sp) 63 zln:=by
 intro ns b r h c;unfold zln at h;dsimp only at h;split at h
 .cases h;exact ⟨_,rfl,zbm a _ c,zm rfl⟩
 .cases h
theorem q1i (b:qx (cfg sp)) (a0:ZB) (a:Int) (c:(U8 a)):qa2 XK szK (cfg sp) 94 [.str a0,.int .u8 none a] (qod a0 a):=
 jd qal kz (qd (zlk b) zh) b (za rfl) (by simp [P.flat,P.cellsOf,RT]) (q1k a0 a) (q1j a0 a c)
theorem zei (a:qx (cfg sp)):j8 XK szK (cfg sp) 94 zrb:=by
 intro ns b r h c;unfold zrb at h;dsimp only at h;split at h
 .cases h;exact ⟨_,rfl,q1i a _ _ c,zm rfl⟩
 .cases h
theorem zkv (g:qx (cfg sp)) (j:j8 XK szK (cfg sp) 30 qqq) (a0 k a2 a3:Int) (a4:Bool) (a5:Int) (h i:Bool) (l a9 a b:Int) (a12:Bool) (c d e f:Int):qa2 XK szK (cfg sp) 31 [.agg [.int .i64 none a0,.int .i64 none k,.int .i64 none a2,.int .i64 none a3,.sb 0 false a4 (a4=true) (a4=false),.int .i64 none a5,.sb 0 false h (h=true) (h=false),.sb 0 false i (i=true) (i=false),.int .i64 none l,.int .i64 none a9,.int .i64 none a,.int .i64 none b,.sb 0 false a12 (a12=true) (a12=false),.int .i64 none c,.int .i64 none d,.int .i64 none e,.int .i64 none f]] (q2k a0 k a2 a3 a4 a5 h i l a9 a b a12 c d e f):=
 jd qal kz (qd (q5f g) (qd j (qd (q5g g) (qd (q5h g) (qd (zeh g) (qd (zei g) (qd (zej g) (qd (qw6 g) zh)))))))) g (za rfl) (by simp [P.flat,P.cellsOf,RT]) (zkx a0 k a2 a3 a4 a5 h i l a9 a b a12 c d e f) (zkw a0 k a2 a3 a4 a5 h i l a9 a b a12 c d e f )
theorem zqw (b:qx (cfg sp)) (a:j8 XK szK (cfg sp) 30 qqq):j8 XK szK (cfg sp) 31 zu9:=by
 intro ns c r h d;unfold zu9 at h;dsimp only at h;split at h
 .cases h;exact ⟨_,rfl,zkv b a _ _ _ _ _ _ _ _ _ _ _ _ _ _ _ _ _,zm rfl⟩
 .cases h
theorem zkm (a:qx (cfg sp)) (b:j8 XK szK (cfg sp) 30 qqq) (a0:ZB) (c:(ln a0<=1000)):qa2 XK szK (cfg sp) 64 [.str a0] (q2h a0):=
 jd qal kz (qd b (qd (q5g a) (qd (q5h a) (qd (zeh a) (qd (zei a) (qd (zej a) (qd (qw6 a) (qd (q5f a) zh)))))))) a (za rfl) (by simp [P.flat,P.cellsOf,RT]) (zko a0) (zkn a0 c)
theorem zq6 (b:qx (cfg sp)) (a:j8 XK szK (cfg sp) 30 qqq):j8 XK szK (cfg sp) 64 zvj:=by
 intro ns c r h d;unfold zvj at h;dsimp only at h;split at h
 .cases h;exact ⟨_,rfl,zkm b a _ d,zm rfl⟩
 .cases h
theorem zkp (c:qx (cfg sp)) (a:j8 XK szK (cfg sp) 59 q78) (a0 b:ZB) (d:(ln b=1/\ln a0<=100000000)):qa2 XK szK (cfg sp) 33 [.str a0,.str b] (q2i a0 b):=
 jd qal kz (qd a zh) c (za rfl) (by simp [P.flat,P.cellsOf,RT]) (zkr a0 b) (zkq a0 b d)
theorem zqx (b:qx (cfg sp)) (a:j8 XK szK (cfg sp) 59 q78):j8 XK szK (cfg sp) 33 zva:=by
 intro ns c r h d;unfold zva at h;dsimp only at h;split at h
 .cases h;exact ⟨_,rfl,zkp b a _ _ d,zm rfl⟩
 .cases h
theorem q4p (b:qx (cfg sp)) (a0 a:ZB):qa2 XK szK (cfg sp) 34 [.str a0,.str a] (qqs a0 a):=
 jd qal kz zh b (za rfl) (by simp [P.flat,P.cellsOf,RT]) (q4r a0 a) (q4q a0 a )
theorem zqy (a:qx (cfg sp)):j8 XK szK (cfg sp) 34 zvb:=by
 intro ns b r h c;unfold zvb at h;dsimp only at h;split at h
 .cases h;exact ⟨_,rfl,q4p a _ _,zm rfl⟩
 .cases h
theorem zks (d:qx (cfg sp)) (a:j8 XK szK (cfg sp) 30 qqq) (b:j8 XK szK (cfg sp) 32 q77) (a0:ZB) (c:List Page) (e:(ln a0<=1000000/\smB c)):qa2 XK szK (cfg sp) 8 [.agg [.str a0,.list 8 c none]] (q2j a0 c):=
 jd qal kz (qd (zqv d) (qd a (qd (zqw d a) (qd b zh)))) d (za rfl) (by simp [P.flat,P.cellsOf,RT]) (zku a0 c) (zkt a0 c e)
theorem zlq (c:qx (cfg sp)) (a:j8 XK szK (cfg sp) 30 qqq) (b:j8 XK szK (cfg sp) 32 q77):j8 XK szK (cfg sp) 8 ct8:=by
 intro ns d r h e;unfold ct8 at h;dsimp only at h;split at h
 .cases h;exact ⟨_,rfl,zks c a b _ _ e,zm rfl⟩
 .cases h
theorem zde (a:qx (cfg sp)) (b:j8 XK szK (cfg sp) 30 qqq) (a0:List ZB) (c:(qn0 a0)):qa2 XK szK (cfg sp) 35 [.list 2 a0 none] (qwn a0):=
 jd qal kz (qd (qw6 a) (qd (q5g a) (qd (q5h a) (qd (zq6 a b) zh)))) a (za rfl) (by simp [P.flat,P.cellsOf,RT]) (zdg a0) (zdf a0 c)
theorem zqz (b:qx (cfg sp)) (a:j8 XK szK (cfg sp) 30 qqq):j8 XK szK (cfg sp) 35 zvc:=by
 intro ns c r h d;unfold zvc at h;dsimp only at h;split at h
 .cases h;exact ⟨_,rfl,zde b a _ d,zm rfl⟩
 .cases h
theorem zg1 (b:qx (cfg sp)) (c:j8 XK szK (cfg sp) 59 q78) (a:j8 XK szK (cfg sp) 30 qqq) (d:j8 XK szK (cfg sp) 32 q77) (a0:ZB) (e:(okP a0)):qa2 XK szK (cfg sp) 9 [.str a0] (qxq a0):=
 zx8 qal kz (qd (zqx b c) (qd (zqy b) (qd (zqz b a) (qd (zlq b a d) zh)))) b (za rfl) (by simp [P.flat,P.cellsOf,RT]) (zg3 a0) (zg2 a0 e)
theorem zvn (d:qx (cfg sp)) (a:j8 XK szK (cfg sp) 59 q78) (b:j8 XK szK (cfg sp) 30 qqq) (c:j8 XK szK (cfg sp) 32 q77):j8 XK szK (cfg sp) 9 ct9:=by
 intro ns e r h f;unfold ct9 at h;dsimp only at h;split at h
 .cases h;exact ⟨_,rfl,zg1 d a b c _ f,zm rfl⟩
 .cases h
theorem q6v (d:qx (cfg sp)) (a0:List Sign) (b:Int) (a2:Bool) (a3:Int) (a4:List Sign) (a5:Int) (a:Bool) (c:Int) (e:(ln a0<=10000000)):qa2 XK szK (cfg sp) 36 [.agg [.list 4 a0 none,.int .i64 none b,.sb 0 false a2 (a2=true) (a2=false),.int .i64 none a3],.agg [.list 4 a4 none,.int .i64 none a5,.sb 0 false a (a=true) (a=false),.int .i64 none c]] (qq8 a0 b a2 a3 a4 a5 a c):=
 jd qal kz (qd (zqn d) zh) d (za rfl) (by simp [P.flat,P.cellsOf,RT]) (q6x a0 b a2 a3 a4 a5 a c) (q6w a0 b a2 a3 a4 a5 a c e)
theorem zq0 (a:qx (cfg sp)):j8 XK szK (cfg sp) 36 zvd:=by
 intro ns b r h c;unfold zvd at h;dsimp only at h;split at h
 .cases h;exact ⟨_,rfl,q6v a _ _ _ _ _ _ _ _ c,zm rfl⟩
 .cases h
theorem zi7 (b:qx (cfg sp)) (a0:ZB) (a:List Page) (a2:ZB) (a3:List Page) (c:(ln a<=500/\okB a)):qa2 XK szK (cfg sp) 10 [.agg [.str a0,.list 8 a none],.agg [.str a2,.list 8 a3 none]] (q0n a0 a a2 a3):=
 jd qal kz (qd (zq0 b) zh) b (za rfl) (by simp [P.flat,P.cellsOf,RT]) (zi9 a0 a a2 a3) (zi8 a0 a a2 a3 c)
theorem zqm (a:qx (cfg sp)):j8 XK szK (cfg sp) 10 zu4:=by
 intro ns b r h c;unfold zu4 at h;dsimp only at h;split at h
 .cases h;exact ⟨_,rfl,zi7 a _ _ _ _ c,zm rfl⟩
 .cases h
theorem q87 (c:qx (cfg sp)) (f:j8 XK szK (cfg sp) 4 ct4) (a:j8 XK szK (cfg sp) 30 qqq) (b:j8 XK szK (cfg sp) 32 q77) (d:j8 XK szK (cfg sp) 59 q78) (a0:List Int) (e a2:Int) (g:(zt6 a0/\I64 e/\I64 a2)):qa2 XK szK (cfg sp) 3 [.list 1 a0 none,.int .i64 none e,.int .i64 none a2] (qtd a0 e a2):=
 jd qal kz (qd f (qd (zvl c) (qd (zlp c) (qd (zvi c) (qd (zlq c a b) (qd (zvn c d a b) (qd (zqm c) zh))))))) c (za rfl) (by simp [P.flat,P.cellsOf,RT]) (q89 a0 e a2) (q88 a0 e a2 g)
end Go.Proofs.YtpdphcekmhajdaaGreatDoor
