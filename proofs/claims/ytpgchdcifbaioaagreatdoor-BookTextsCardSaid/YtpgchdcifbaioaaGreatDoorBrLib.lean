import Derived.Test.YtpgchdcifbaioaaGreatDoorM2
import Derived.Test.YtpgchdcifbaioaaGreatDoorRows
import Derived.Shelf.LaysM
import Derived.Shelf.Strings.SplitCore
import Derived.Shelf.Strings.Search3
import Derived.Shelf.Strings.Count
import Derived.Lib.SplitLaws
import Derived.Shelf.Strings.OnBuilder
namespace Go.E2
open Go
set_option maxRecDepth 100000
section
variable {F:Fence} {P:Program} {m m':Machine} {e:Ending} {f:FuncId} {args:Array Value} {w:World} {n:Nat} {R:Ending->World->Prop}
theorem q1h (a:qhb F) (m:Machine):m.fenced P F:=λg _=>⟨λh=>(by rw [a.2.2] at h;cases h),.inl (a.1 _),λf _=>a.1 f,λd h=>(by rw [a.2.1] at h;cases h)⟩
theorem zm7 (a:qhb F) (h:Comes P m m' e):ComesIn (Machine.fenced P F) P m m' e:=by
 cases e with
 | returned v=>exact (StepsIn.of_steps h).mono λm _=>q1h a m
 | panicked c=>exact (StepsIn.of_steps h).mono λm _=>q1h a m
 | outgrown=>exact h
theorem q0x (a:qhb F) (h:Calls P f args w R):CallsIn F n P f args w R:=⟨a.1 f,λcs _=>by
 obtain ⟨e,w',fr,r,s,x⟩:=h cs;exact ⟨e,w',fr,r,zm7 a s,x⟩⟩
end
def quk (c:UInt8) (s:ZB):List (ZB):=Lib.splitK [c] 0 (Lib.count s [c]) s
def qrs (t:Nat) (args:List V) (H:Heap):Option (CR×Heap):=
 match args with
 | [.str s,.str [c],.int .i64 z,.int .i64 n]=>if s.length<4294967281/\z=0/\n = -1 then
   some (.ret (.slice H.next 0 0 (quk c s).length 1 (some (quk c s).length)),H.new (.row ((quk c s).map V.str) t 0 0 0 true)) else none
 | _=>none
theorem zd2 {G:qk} {w:World}:∀ l:List ByteArray,qq G w ((l.map (·.data.toList)).map V.str) (l.map Value.string)
 | []=>qq.nil
 | x::l=>qq.cons (by simp only [Rel]) (zd2 l)
theorem zik {P:Program} {ρ:Go.Shelf.Ren} (L:Go.Proofs.Lays.n221 P ρ) (o:(P.info? (ρ.t 9)).map (λi=>(i.zero,i.size,i.bytes))=some (some (.string ByteArray.empty),1,16)):qbx P (ρ.f 221) (qrs (ρ.t 9)):=by
 intro args H r H' h G w j E B;unfold qrs at h;split at h
 .rename_i s c z n;split at h
  .rename_i p;obtain ⟨p,rfl,rfl⟩:=p;cases h;simp only [qq,Rel] at B;obtain ⟨x,N,I,rfl,y,O,rfl,rfl,z,Q,rfl,rfl,u,us,rfl,rfl,rfl⟩:=B;have q:j = #[.string ⟨s.toArray⟩,.string ⟨#[c]⟩,.int .i64 0,.int .i64 (-1)]:=by apply Array.ext';simpa using I
   have l:(⟨s.toArray⟩:ByteArray).size=s.length:=by simp [ByteArray.size]
   have b:Lib.countB ⟨s.toArray⟩ ⟨#[c]⟩=Lib.count s [c]:=rfl;have J:Lib.count s [c]<=s.length:=by rw [Lib.count_one];exact List.count_le_length
   have a:(Lib.splitB ⟨#[c]⟩ 0 (Lib.count s [c]) ⟨s.toArray⟩).length=Lib.count s [c]+1:=Lib.splitB_all ⟨#[c]⟩ (zN 1) 0 _ _ b;have C:(Lib.splitB ⟨#[c]⟩ 0 (Lib.count s [c]) ⟨s.toArray⟩).map (·.data.toList)=quk c s:=Lib.splitB_data _ 0 _ _;have D:=Go.Proofs.Any.strings_genSplit_core L o ⟨s.toArray⟩ ⟨#[c]⟩ 0 (-1) (Lib.count s [c]+1) w (by rw [l];exact p) (zN 1) (Nat.zero_le _)
    (λx R _=>(Go.Proofs.Any.strings_Index_one {L with} x c _).mono λe w' ⟨v,A⟩=>⟨by rw [v,Lib.indexB,Lib.index_one],A⟩)
    ((Go.Proofs.Any.strings_Count_one {L with} ⟨s.toArray⟩ c w).mono λe w' ⟨v,A⟩=>⟨by rw [v,b,Lib.count_one];rfl,A⟩) (by decide) (by decide) (by rw [zT (by decide),b,l];omega)
   rw [Nat.add_sub_cancel,a] at D;refine ⟨_,_,L.f221,rfl,rfl,λF S K=>?_⟩;rw [q];refine q0x K (D.mono ?_);rintro e w' ⟨rfl,rfl⟩;have m:=E.newRow (cells:=(quk c s).map V.str) (by rw [<-C];exact zd2 _) [] (ρ.t 9) true (λ_=>rfl);have g:(quk c s).length=Lib.count s [c]+1:=by rw [<-C,List.length_map,a]
   have d:Lib.cellsOf (Lib.splitB ⟨#[c]⟩ 0 (Lib.count s [c]) ⟨s.toArray⟩) (Lib.count s [c]+1)=((Lib.splitB ⟨#[c]⟩ 0 (Lib.count s [c]) ⟨s.toArray⟩).map Value.string++[]).toArray:=by
    rw [<-a,Lib.cellsOf_full,zJ]
   rw [d,<-g];refine ⟨_,m,_,rfl,?_⟩;simp only [Rel];refine ⟨w.heap.size,0,_,0,_,ρ.t 9,_,_,qdz _ _ _ _,rfl,.inr rfl,zN _,zN _,by simp,.inl rfl,λk M=>?_,qn9,?_⟩
   .cases M;exact ⟨rfl,by simp⟩
   .simp [a,g]
  .cases h
 .cases h
theorem Step.below {H:Heap} {G:qk} {w w':World} (a:Sim H G w) (h:Go.RowKit.Below w.heap.size w w'):Step H G w H G w':=by
 have c:=h.block;have f:=h.size;have d:∀ b x,w.shape? b=some x->w'.shape? b=some x:=by
  intro b x h;unfold World.shape? at h ⊢;by_cases j:b<w.heap.size
  .rw [c b j];exact h
  .rw [Array.getElem?_eq_none (by omega)] at h;cases h
 have i:Ext H.ro G w G w':=⟨λ_ _ _ h=>h,λb h k=>⟨c b h,k⟩,f,d,λnm g b e n _ h=>c b (a.lt _ _ _ _ _ h).1,h.os,h.output⟩;exact ⟨i,⟨λnm g b e n h=>⟨zL (a.lt _ _ _ _ _ h).1 f,(a.lt _ _ _ _ _ h).2⟩,a.inj,λnm o l m=>(a.obj nm o l m).up i.up (λ_ _ h=>h) λg b e n h=>c b (a.lt _ _ _ _ _ h).1,a.ro,a.zm,a.globs⟩,
  zN _,rfl,rfl,λ_ _=>rfl,λ_ _ _ h _=>h,λnm _ h=>⟨h,λg b e n p=>c b (a.lt _ _ _ _ _ p).1,λ_ _ h=>h⟩⟩
def q3u:List V->Option (List ZB)
 | []=>some []
 | .str s::l=>(q3u l).map (s::·)
 | _=>none
theorem q7x {G:qk} {w:World}:∀ {c:List V} {a:List ZB} {l:List Value},q3u c=some a->qq G w c l->l=a.map λx=>Value.string ⟨x.toArray⟩
 | [],a,l,h,b=>by
  cases h;simpa [qq] using b
 | v::c,a,l,h,b=>by
  unfold q3u at h;split at h
  .rename_i e;cases e
  .rename_i s g e;cases e;obtain ⟨i,d,rfl⟩:=zM.1 h;simp only [qq,Rel] at b;obtain ⟨x,j,rfl,rfl,f⟩:=b;rw [q7x d f];rfl
  .cases h
theorem q7w:∀ a:List ZB,q3u (a.map V.str)=some a
 | []=>rfl
 | x::a=>by simp [q3u,q7w a]
def qqn (args:List V) (H:Heap):Option (CR×Heap):=
 match args with
 | [.nils,.str _]=>some (.ret (.str []),H)
 | [.slice nm g off len sz _,.str a]=>if len=0 then some (.ret (.str []),H) else if sz=1 then
   match (jz H len (.ptr nm g off (off+len))).bind q3u with
   | some b=>if len<=140737488355328/\(Lib.join b a).length<=140737488355328 then some (.ret (.str (Lib.join b a)),H) else none
   | none=>none
   else none
 | _=>none
theorem zns {P:Program} {ρ:Go.Shelf.Ren} (L:Go.Proofs.Lays.n156 P ρ) (X:Go.Proofs.Builder.Extra P ρ):qbx P (ρ.f 156) qqn:=by
 intro args H r H' h G w i q B;unfold qqn at h;split at h
 .rename_i d;cases h;simp only [qq,Rel] at B;obtain ⟨x,k,D,rfl,y,V,rfl,rfl,rfl⟩:=B;have o:i = #[.slice none 0 0,.string ⟨d.toArray⟩]:=by apply Array.ext';simpa using D
  refine ⟨_,_,L.f156,rfl,rfl,λF W E=>?_⟩;rw [o];refine q0x E ((Go.Proofs.Any.strings_Join_none L X none 0 ⟨d.toArray⟩ w).mono ?_);rintro e w' ⟨rfl,rfl⟩;exact ⟨G,Step.refl q,_,rfl,by simp only [Rel]⟩
 .rename_i nm g off len sz cap d;simp only [qq] at B;obtain ⟨x,k,D,I,y,V,rfl,O,rfl⟩:=B;simp only [Rel] at O;subst O;have Y:=I;simp only [Rel] at I;obtain ⟨b,s,n,ro,c,e,m,ad,Q,rfl,C,Z,q4,q5,J,q7,q8,q9⟩:=I;have o:i = #[.slice (some ad) len c,.string ⟨d.toArray⟩]:=by apply Array.ext';simpa using D
  refine ⟨_,_,L.f156,rfl,rfl,λF W E=>?_⟩;rw [o];refine q0x E ?_;split at h
  .rename_i R;cases h;subst R;refine (Go.Proofs.Any.strings_Join_none L X (some ad) c ⟨d.toArray⟩ w).mono ?_;rintro e w' ⟨rfl,rfl⟩;exact ⟨G,Step.refl q,_,rfl,by simp only [Rel]⟩
  .rename_i R;split at h
   .rename_i K;subst K;split at h
    .rename_i k M;split at h
     .rename_i S;cases h;obtain ⟨cs,h2,h3⟩:=zI.1 M;have hp:Rel G w (.ptr nm g off (off+len)) (.pointer (some ⟨b,off-s,none⟩)):=by
       simp only [Rel];exact ⟨b,s,n,Q,q4,by omega,rfl⟩
      obtain ⟨a,l,ha,hh,T,a1⟩:=qgs q hp h2;cases ha;have t:=q7x h3 T;have p:k.length=len:=by
       have:=T.length;rw [t,List.length_map] at this;omega
      have N:ad=⟨b,off-s,none⟩:=by
       rcases C with C | C
       .omega
       .rcases J with J | J
        .rw [C,show off-s=ro by omega]
        .omega
      subst N;have u:(k.map λx=>(⟨x.toArray⟩:ByteArray)).map (·.data.toList)=k:=by
       rw [List.map_map];exact (List.map_congr_left (λx _=>rfl)).trans (List.map_id k)
      have v:b<w.heap.size:=(q.lt _ _ _ _ _ Q).1;have U:=Go.Proofs.Any.strings_Join L X b (off-s) c (k.map λx=>(⟨x.toArray⟩:ByteArray)) ⟨d.toArray⟩ w (λj x A=>by
       have:=hh j (.string x) (by rw [t,List.getElem?_map];rw [List.getElem?_map] at A;obtain ⟨z,K,rfl⟩:=zM.1 A;rw [K];rfl)
       rwa [qgf] at this) v (by rw [List.length_map,p];exact S.1) (by rw [List.length_map,p];exact Z) (by rw [u];exact S.2)
      rw [u,List.length_map,p] at U;refine U.mono ?_;rintro e w' ⟨rfl,hw⟩;exact ⟨G,Step.below q hw,_,rfl,by simp only [Rel]⟩
     .cases h
    .cases h
   .cases h
 .cases h
end Go.E2
namespace Go.Proofs.YtpgchdcifbaioaaGreatDoor
open Go.Shelf
set_option maxRecDepth 100000
def z5v:Ren:=⟨λ| 221=>61 | 268=>121 | 138=>122 | 143=>123 | 195=>143 | 197=>144 | 218=>145 | 219=>146 | 260=>155 | 217=>136 | 225=>156 | 224=>157 | 267=>158 | 266=>153 | 314=>169 | n=>n,λ| 31=>54 | 105=>181 | 46=>191 | 119=>202 | 139=>205 | 138=>204 | 146=>206 | 51=>188 | n=>n,λ| 1=>2 | n=>n⟩
theorem z5u:Lays.n221 Tryz.prog z5v where
 mixed:=by kernel_rfl
 f138:=Tryz.func122.trans (congrArg some (by kernel_rfl))
 f143:=Tryz.func123.trans (congrArg some (by kernel_rfl))
 f195:=Tryz.func143.trans (congrArg some (by kernel_rfl))
 f197:=Tryz.func144.trans (congrArg some (by kernel_rfl))
 f217:=Tryz.func136.trans (congrArg some (by kernel_rfl))
 f218:=Tryz.func145.trans (congrArg some (by kernel_rfl))
 f219:=Tryz.func146.trans (congrArg some (by kernel_rfl))
 f221:=Tryz.func61.trans (congrArg some (by kernel_rfl))
 f224:=Tryz.func157.trans (congrArg some (by kernel_rfl))
 f225:=Tryz.func156.trans (congrArg some (by kernel_rfl))
 f260:=Tryz.func155.trans (congrArg some (by kernel_rfl))
 f266:=Tryz.func153.trans (congrArg some (by kernel_rfl))
 f267:=Tryz.func158.trans (congrArg some (by kernel_rfl))
 f268:=Tryz.func121.trans (congrArg some (by kernel_rfl))
 f314:=Tryz.func169.trans (congrArg some (by kernel_rfl))
 t0:=Tryz.underlying0
 a0:=Tryz.isAgg0
 z0:=Tryz.sizeOf0
 v0:=Tryz.zeroValue0
 t3:=Tryz.underlying3
 a3:=Tryz.isAgg3
 z3:=Tryz.sizeOf3
 v3:=Tryz.zeroValue3
 t4:=Tryz.underlying4
 a4:=Tryz.isAgg4
 z4:=Tryz.sizeOf4
 v4:=Tryz.zeroValue4
 t5:=Tryz.underlying5
 a5:=Tryz.isAgg5
 z5:=Tryz.sizeOf5
 v5:=Tryz.zeroValue5
 t9:=Tryz.underlying9
 a9:=Tryz.isAgg9
 z9:=Tryz.sizeOf9
 v9:=Tryz.zeroValue9
 t21:=Tryz.underlying21
 a21:=Tryz.isAgg21
 z21:=Tryz.sizeOf21
 v21:=Tryz.zeroValue21
 t31:=Tryz.underlying54
 a31:=Tryz.isAgg54
 z31:=Tryz.sizeOf54
 v31:=Tryz.zeroValue54
 t46:=Tryz.underlying191
 a46:=Tryz.isAgg191
 z46:=Tryz.sizeOf191
 v46:=Tryz.zeroValue191
 t51:=Tryz.underlying188
 a51:=Tryz.isAgg188
 z51:=Tryz.sizeOf188
 v51:=Tryz.zeroValue188
 t105:=Tryz.underlying181
 a105:=Tryz.isAgg181
 z105:=Tryz.sizeOf181
 v105:=Tryz.zeroValue181
 t119:=Tryz.underlying202
 a119:=Tryz.isAgg202
 z119:=Tryz.sizeOf202
 t138:=Tryz.underlying204
 a138:=Tryz.isAgg204
 z138:=Tryz.sizeOf204
 v138:=Tryz.zeroValue204
 t139:=Tryz.underlying205
 a139:=Tryz.isAgg205
 z139:=Tryz.sizeOf205
 v139:=Tryz.zeroValue205
 t146:=Tryz.underlying206
 a146:=Tryz.isAgg206
 z146:=Tryz.sizeOf206
 v146:=Tryz.zeroValue206
 g1:=by kernel_rfl
 g3:=by kernel_rfl
 g4:=by kernel_rfl
theorem z1e:E2.qbx Tryz.prog 61 (E2.qrs 9):=E2.zik z5u (by kernel_rfl)
def z2c:Ren:=⟨λ| 156=>19 | 165=>49 | 166=>47 | 169=>48 | 240=>109 | 241=>110 | 276=>139 | 277=>140 | n=>n,λ| 31=>54 | 72=>95 | 76=>106 | 70=>92 | 37=>93 | 75=>105 | 127=>150 | 164=>176 | 80=>109 | n=>n,λn=>n⟩
theorem z64:Lays.n156 Tryz.prog z2c where
 mixed:=by kernel_rfl
 f156:=Tryz.func19.trans (congrArg some (by kernel_rfl))
 f165:=Tryz.func49.trans (congrArg some (by kernel_rfl))
 f166:=Tryz.func47.trans (congrArg some (by kernel_rfl))
 f169:=Tryz.func48.trans (congrArg some (by kernel_rfl))
 f240:=Tryz.func109.trans (congrArg some (by kernel_rfl))
 f241:=Tryz.func110.trans (congrArg some (by kernel_rfl))
 f276:=Tryz.func139.trans (congrArg some (by kernel_rfl))
 f277:=Tryz.func140.trans (congrArg some (by kernel_rfl))
 t0:=Tryz.underlying0
 a0:=Tryz.isAgg0
 z0:=Tryz.sizeOf0
 v0:=Tryz.zeroValue0
 t3:=Tryz.underlying3
 a3:=Tryz.isAgg3
 z3:=Tryz.sizeOf3
 v3:=Tryz.zeroValue3
 t4:=Tryz.underlying4
 a4:=Tryz.isAgg4
 z4:=Tryz.sizeOf4
 v4:=Tryz.zeroValue4
 t9:=Tryz.underlying9
 a9:=Tryz.isAgg9
 z9:=Tryz.sizeOf9
 v9:=Tryz.zeroValue9
 t20:=Tryz.underlying20
 a20:=Tryz.isAgg20
 z20:=Tryz.sizeOf20
 v20:=Tryz.zeroValue20
 t31:=Tryz.underlying54
 a31:=Tryz.isAgg54
 z31:=Tryz.sizeOf54
 v31:=Tryz.zeroValue54
 t37:=Tryz.underlying93
 a37:=Tryz.isAgg93
 z37:=Tryz.sizeOf93
 v37:=Tryz.zeroValue93
 t70:=Tryz.underlying92
 a70:=Tryz.isAgg92
 z70:=Tryz.sizeOf92
 v70:=Tryz.zeroValue92
 t72:=Tryz.underlying95
 a72:=Tryz.isAgg95
 z72:=Tryz.sizeOf95
 v72:=Tryz.zeroValue95
 t75:=Tryz.underlying105
 a75:=Tryz.isAgg105
 z75:=Tryz.sizeOf105
 v75:=Tryz.zeroValue105
 t76:=Tryz.underlying106
 a76:=Tryz.isAgg106
 z76:=Tryz.sizeOf106
 v76:=Tryz.zeroValue106
 t127:=Tryz.underlying150
 a127:=Tryz.isAgg150
 z127:=Tryz.sizeOf150
 v127:=Tryz.zeroValue150
 t164:=Tryz.underlying176
 a164:=Tryz.isAgg176
 z164:=Tryz.sizeOf176
 v164:=Tryz.zeroValue176
theorem z65:Builder.Extra Tryz.prog z2c where
 sizeBuilder:=by kernel_rfl
 liesBuilder:=by kernel_rfl
 t5:=Tryz.underlying5
 a5:=Tryz.isAgg5
 z5:=Tryz.sizeOf5
 v5:=Tryz.zeroValue5
 infoByte:=by kernel_rfl
 cellsByte:=by kernel_rfl
 sizeByte:=by kernel_rfl
 neB5:=by decide
theorem z4h:E2.qbx Tryz.prog 19 E2.qqn:=E2.zns z64 z65
end Go.Proofs.YtpgchdcifbaioaaGreatDoor
