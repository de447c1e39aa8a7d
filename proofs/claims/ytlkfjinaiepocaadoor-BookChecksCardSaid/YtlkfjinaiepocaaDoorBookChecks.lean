/- THE LAW BookChecks of the chapter 39: the call returns true and nothing that was there before it is turned, whatever the arguments. No condition beyond its row's own: the listed variables read as the program's text lays them. -/
import Derived.Test.YtlkfjinaiepocaaDoorCards
import Derived.Test.YtlkfjinaiepocaaDoorTie
import Derived.Test.YtlkfjinaiepocaaDoorFns
import Derived.Test.YtlkfjinaiepocaaDoorM6
import Derived.Test.YtlkfjinaiepocaaDoorBookAwakeF
import Derived.WalkKit
import Derived.ProofKit
import Derived.OpenShut
import Derived.ChangeMaps5
import Derived.Deep.DeepHandedRow
namespace Go.Proofs.YtlkfjinaiepocaaDoor.bookChecks
open Go.ChangeShapes Go.WideShapes Go.ChangeAt Go.RowKit Go.ChangeMaps
set_option maxRecDepth 100000

/-- The element size of a list that lies in a cell: a staff begins with a list, a sign does not. -/
def szF (arr:Array Value) (off:Nat):Nat:=match arr[off]? with
  | some (.slice ..)=>4
  | _=>17

theorem own:ownKnob Tryd.prog.godebug=none:=by kernel_rfl
theorem q1u:bookAwake.qqw.qul=true:=by kernel_rfl
theorem q8o:E2.qbv Tryd.prog bookAwake.qqw.f bookAwake.qqw.q35:=E2.q5e Tryd.checked.mixed bookAwake.tables bookAwake.zkl (by kernel_rfl) bookAwake.zbt

/-- The calls that are answered by a fact: that of 'awake'. -/
def sp (f:Nat):Option (List E2.V->E2.Heap->Option (E2.CR×E2.Heap)):=if f=8 then some bookAwake.qqw.q35 else none
theorem zjw:E3.zbc (cfg sp):=fun f hf=>by
  show sp f=none
  unfold sp
  rw [zF]
  rintro rfl
  cases hf
theorem quiet:E3.qm (cfg sp):=⟨zjw,fun f h=>by cases h⟩
theorem zlr:∀ f s,sp f=some s->E2.qbv Tryd.prog f s:=by
  intro f s h
  unfold sp at h
  split at h
  . rename_i hf
    cases h
    subst hf
    exact q8o
  . cases h
theorem q8n (H:E2.Heap) (hg:H.zd=(cfg sp).ng) (ho:∀ gn o,(cfg sp).gobj gn=some o->H.get gn=some o/\gn<H.next):E2.qda (cfg sp).E (.func 8) [] H fun v H'=>v=.bool true/\H'=H:=
  E2.q40 (s:=bookAwake.qqw.q35) rfl (E2.zhb q1u hg fun x hx=>ho x.1 x.2 (E3.qnm (by kernel_rfl) hx)) ⟨rfl,rfl⟩
theorem zey:E3.qaa XK szK (cfg sp) 8 [] q9d:=E3.zb5 zo (v:=.bool true) .sb rfl q8n fun H M=>.sb .rfl .rfl fun h0=>absurd rfl h0
theorem zez:E3.qba XK szK (cfg sp) 8 ct8:=by
  intro ns pre r h hp
  unfold ct8 at h
  dsimp only at h
  split at h
  . cases h
    exact ⟨_,rfl,zey,E3.qz rfl⟩
  . cases h

/-! ### The listed variables -/
theorem q42 {a b:Array Value} {t t':TypeId} {f f':Nat×Nat} (h:some (Obj.cells a t f)=some (Obj.cells b t' f')):t=t':=by
  cases h
  rfl
theorem globals:Tryd.prog.globals.size=1:=by kernel_rfl
theorem q9v:(Rows.bookChecksRow.laid.filter fun x=>x.2.handleName?.isSome)=[]:=by kernel_rfl
noncomputable def qko:List Value:=(E2.qll Tryd.prog 10 116 Rows.laid_tactus_sign_uses).getD []
theorem zkf:E2.qll Tryd.prog 10 116 Rows.laid_tactus_sign_uses=some qko:=by kernel_rfl
theorem zky:qko≠[]:=by
  intro h
  have:qko.isEmpty=false:=by kernel_rfl
  rw [h] at this
  cases this
theorem zjm:Tryd.prog.globalNamed "tactus/sign.uses" = some 0:=by kernel_rfl
theorem zj6:(Tryd.prog.globals[0]?).map (·.type)=some 116:=by kernel_rfl
theorem zku:((((begin Tryd.prog (fun _ _=>0) default).world).heap[0]?).bind Obj.row?).map (·.2)=some 116:=by kernel_rfl
theorem zgn:("tactus/sign.uses",Rows.laid_tactus_sign_uses) ∈ Rows.bookChecksRow.laid:=by
  exact List.mem_of_getElem? (i:=0) rfl
theorem zhy {W:World} (hL:laidMet Tryd.prog Rows.bookChecksRow.laid W) (hsh:W.ShapedOpen Tryd.prog):W.heap[0]? = some (.cells qko.toArray 116 (0,0)):=by
  obtain ⟨ps,h1,_,h2⟩:=hL
  obtain ⟨t',h3⟩:=E2.qve h1 (fun b off hb=>(h2 b off hb).1) (name:= "tactus/sign.uses") (d:=Rows.laid_tactus_sign_uses) zgn zjm zj6 zkf zky
  have h4:=zku
  obtain ⟨⟨zero,t⟩,h5,h6⟩:=zM.1 h4
  simp only at h6
  subst h6
  obtain ⟨cs,h7,_⟩:=hsh.1 0 zero 116 (by rw [globals];decide) h5
  have h9:=q42 (h3.symm.trans h7)
  rw [h9] at h3
  exact h3
theorem zd0 {W:World} (hsh:W.ShapedOpen Tryd.prog):1<=W.heap.size:=by
  obtain ⟨⟨zero,t⟩,h5,h6⟩:=zM.1 zku
  obtain ⟨cs,h7,_⟩:=hsh.1 0 zero t (by rw [globals];decide) h5
  exact (Array.getElem?_eq_some_iff.1 h7).1
theorem q29:(qko.all fun x=>!E3.qkf x)=true:=by kernel_rfl
theorem qa9:bookAwake.zd=[(0,.row (qko.map E3.qn1) 116 0 0 0 false)]:=by kernel_rfl
theorem toText {W:World} (hL:laidMetH Tryd.prog Rows.bookChecksRow.laid W):laidMet Tryd.prog Rows.bookChecksRow.laid W:=by
  unfold laidMetH at hL
  rw [q9v] at hL
  exact hL
/-- The variables lie there. -/
theorem laid {W:World} (hL:laidMetH Tryd.prog Rows.bookChecksRow.laid W) (hsh:W.ShapedOpen Tryd.prog) (gn:Nat) (o:E2.O) (h:(cfg sp).gobj gn=some o):(E3.qdb W szF 1).get gn=some o/\gn<(E3.qdb W szF 1).next:=by
  have hm:=E3.qdl (show E3.look bookAwake.zd gn=some o from h)
  have hsz:=zd0 hsh
  rw [qa9] at hm
  simp only [zD,zP,List.not_mem_nil,or_false] at hm
  obtain ⟨rfl,rfl⟩:=hm
  have hg:=E3.qmx (F:=szF) (ng:=1) (zhy (toText hL) hsh)
  rw [List.toList_toArray,E3.qmf q29] at hg
  exact ⟨hg,show 0<W.heap.size by omega⟩
/-- The fields that are used, as truth values. -/
noncomputable def zh4:List Bool:=qko.map fun
  | .bool b=>b
  | _=>false
theorem zk4:q2t 0=some (zh4.map E3.P.lit):=by kernel_rfl
theorem zk5:qko.map E3.qn1=zh4.map E2.V.bool:=by kernel_rfl
theorem constants {W:World} (hL:laidMetH Tryd.prog Rows.bookChecksRow.laid W) (hsh:W.ShapedOpen Tryd.prog) (gn:Nat) (ps:List (E3.PV KT)) (h:(cfg sp).zd gn=some ps) :
    gn<(E3.qdb W szF 1).zd/\∃ vs e fl fz ex,(E3.qdb W szF 1).get gn=some (.row vs e 0 fl fz ex)/\gn<(E3.qdb W szF 1).next/\E3.Rep XK szK (E3.wd0 (E3.qdb W szF 1) (fun _=>False) (cfg sp).codec) (.eptr ps 0) (.ptr gn 0 0 vs.length):=by
  have h':q2t gn=some ps:=h
  have hg:gn=0:=by
    rcases gn with _ | gn
    . rfl
    . cases h'
  subst hg
  rw [zk4] at h'
  cases h'
  have hrow:(E3.qdb W szF 1).get 0=some (.row (qko.map E3.qn1) 116 0 0 0 false):=by
    have hg:=E3.qmx (F:=szF) (ng:=1) (zhy (toText hL) hsh)
    rw [List.toList_toArray,E3.qmf q29] at hg
    exact hg
  rw [zk5] at hrow
  refine ⟨Nat.lt_succ_self 0,_,_,_,_,_,hrow,show 0<W.heap.size from zd0 hsh,?_⟩
  refine E3.Rep.eptr (d:=0) (off:=0) hrow (zN 0) (fun h=>h) (by rw [List.length_map,List.length_map];exact Nat.le_of_eq (Nat.zero_add _)) (zN _) (fun j p hp=>?_)
  rw [List.getElem?_map] at hp
  obtain ⟨b,hb,rfl⟩:=zM.1 hp
  rw [Nat.zero_add,List.getD_eq_getElem?_getD,List.getElem?_map,hb]
  exact .lit

/-! ### The first argument: a book -/
def good:∀ c,KT c->Prop
  | 7=>fun s:Staff=>E3.ln s.Signs<=9223372036854775807
  | 8=>fun p:Page=>E3.ln p.Staves<=9223372036854775807/\∀ s ∈ p.Staves,E3.ln s.Signs<=9223372036854775807
  | _=>fun _=>True
def cdA:Nat->Option Nat:=E3.look [(65,4),(58,7),(56,8)]
theorem cd4 {e:Nat} (h:cdA e=some 4):e=65:=by
  have:=E3.qdl h
  simp only [zD,zP,List.not_mem_nil,or_false] at this
  rcases this with ⟨h,_⟩ | ⟨_,h⟩ | ⟨_,h⟩
  . exact h
  . cases h
  . cases h
theorem cd7 {e:Nat} (h:cdA e=some 7):e=58:=by
  have:=E3.qdl h
  simp only [zD,zP,List.not_mem_nil,or_false] at this
  rcases this with ⟨_,h⟩ | ⟨h,_⟩ | ⟨_,h⟩
  . cases h
  . exact h
  . cases h
theorem cd8 {e:Nat} (h:cdA e=some 8):e=56:=by
  have:=E3.qdl h
  simp only [zD,zP,List.not_mem_nil,or_false] at this
  rcases this with ⟨_,h⟩ | ⟨_,h⟩ | ⟨h,_⟩
  . cases h
  . cases h
  . exact h
theorem le_max {n:Nat} (h:n<=maxLen):(n:Int)<=9223372036854775807:=Int.le_trans (Int.ofNat_le.2 h) (by decide)
theorem zh2:E3.qmo Tryd.prog cdA 8 65=some [.int .i64,.int .i64,.int .i64,.int .i64,.bool,.int .i64,.bool,.bool,.int .i64,.int .i64,.int .i64,.int .i64,.bool,.int .i64,.int .i64,.int .i64,.int .i64]:=by kernel_rfl
theorem zd4:E3.qmo Tryd.prog cdA 8 58=some [.list 4,.int .i64,.bool,.int .i64]:=by kernel_rfl
theorem zjy:E3.qip good XK szK Tryd.prog szF cdA 8 1 4:=by
  intro e h
  obtain rfl:=cd4 h
  refine ⟨_,zh2,fun leaf hl=>?_,rfl,by kernel_rfl,by decide,fun ps h=>?_⟩
  . simp only [zD,List.not_mem_nil,or_false] at hl
    rcases hl with rfl | rfl | rfl | rfl | rfl | rfl | rfl | rfl | rfl | rfl | rfl | rfl | rfl | rfl | rfl | rfl | rfl<;>exact .inl rfl
  . obtain ⟨_,_,rfl,⟨n0,rfl,_⟩,_,_,rfl,⟨n1,rfl,_⟩,_,_,rfl,⟨n2,rfl,_⟩,_,_,rfl,⟨n3,rfl,_⟩,_,_,rfl,⟨n4,rfl⟩,_,_,rfl,⟨n5,rfl,_⟩,_,_,rfl,⟨n6,rfl⟩,_,_,rfl,⟨n7,rfl⟩,_,_,rfl,⟨n8,rfl,_⟩,_,_,rfl,⟨n9,rfl,_⟩,_,_,rfl,⟨n10,rfl,_⟩,_,_,rfl,⟨n11,rfl,_⟩,_,_,rfl,⟨n12,rfl⟩,_,_,rfl,⟨n13,rfl,_⟩,_,_,rfl,⟨n14,rfl,_⟩,_,_,rfl,⟨n15,rfl,_⟩,_,_,rfl,⟨n16,rfl,_⟩,rfl⟩:=h
    exact ⟨True,⟨n0,n1,n2,n3,n4,n5,n6,n7,n8,n9,n10,n11,n12,n13,n14,n15,n16⟩,rfl,trivial,trivial⟩
theorem zjz:E3.qqs szK Tryd.prog szF cdA 8 4:=by
  intro e ls he ht arr off h
  obtain rfl:=cd4 he
  rw [zh2] at ht
  cases ht
  obtain ⟨x,hx,hs⟩:=h 0 _ rfl
  unfold szF
  rw [Nat.add_zero] at hx
  rw [hx]
  cases x<;>first | rfl | cases hs
theorem zg8:E3.qip good XK szK Tryd.prog szF cdA 8 2 7:=by
  intro e h
  obtain rfl:=cd7 h
  refine ⟨_,zd4,fun leaf hl=>?_,rfl,by kernel_rfl,by decide,fun ps h=>?_⟩
  . simp only [zD,List.not_mem_nil,or_false] at hl
    rcases hl with rfl | rfl | rfl | rfl
    . exact .inr ⟨4,rfl,zjy,zjz⟩
    . exact .inl rfl
    . exact .inl rfl
    . exact .inl rfl
  . obtain ⟨_,_,rfl,⟨l,rfl,hl,_⟩,_,_,rfl,⟨n1,rfl,_⟩,_,_,rfl,⟨n2,rfl⟩,_,_,rfl,⟨n3,rfl,_⟩,rfl⟩:=h
    exact ⟨True,⟨l,n1,n2,n3⟩,rfl,trivial,le_max hl⟩
theorem zg9:E3.qqs szK Tryd.prog szF cdA 8 7:=by
  intro e ls he ht arr off h
  obtain rfl:=cd7 he
  rw [zd4] at ht
  cases ht
  obtain ⟨x,hx,hs⟩:=h 0 _ rfl
  unfold szF
  rw [Nat.add_zero] at hx
  rw [hx]
  cases x<;>first | rfl | cases hs
theorem zjs:E3.qip good XK szK Tryd.prog szF cdA 8 3 8:=by
  intro e h
  obtain rfl:=cd8 h
  refine ⟨[.list 7],by kernel_rfl,fun leaf hl=>?_,rfl,by kernel_rfl,by decide,fun ps h=>?_⟩
  . simp only [zD,List.not_mem_nil,or_false] at hl
    subst hl
    exact .inr ⟨7,rfl,zg8,zg9⟩
  . obtain ⟨_,_,rfl,⟨l,rfl,hl,hg⟩,rfl⟩:=h
    exact ⟨True,⟨l⟩,rfl,trivial,le_max hl,hg⟩

theorem body:∃ c,Tryd.f4.body=some c:=⟨_,rfl⟩

theorem contract (H:Type) (enc:TypeId×Value->H) (W:World) (base:Nat) (args:Array Value) (ds gs:List (DataW H)) (before:List MemPlace)
    (hval:∀ (j:Nat) t v,Tryd.f4.params[j]? = some t->args[j]? = some v->Value.okWide Tryd.prog W .any base t v)
    (hW:DataW.Whole enc Tryd.prog Tryd.f4.params.toList Rows.bookChecksSpec.vars false W args.toList ds gs before) (hL:laidMetH Tryd.prog Rows.bookChecksRow.laid W) (hsh:W.ShapedOpen Tryd.prog) :
    Calls Tryd.prog 4 args W fun e W'=>∃ v,e=.returned v/\Rows.bookChecksSpec.post enc Tryd.prog Tryd.f4 false true false false W args v W':=by
  have hW':=hW
  obtain ⟨p,q,hA0,_⟩:=hW
  have hA:DataW.TrodAll enc Tryd.prog W 0 (fun _=>true) true Tryd.f4.params.toList args.toList ds p:=hA0
  rw [Tryd.params4] at hA hval
  obtain ⟨v1,v2,d1,d2,p1,p2,ha,rfl,rfl,h1,h2⟩:=trodAll_two hA
  subst ha
  obtain ⟨cd,hcd⟩:=body
  have hM:∀ n:Nat,¬ (fun _:Nat=>False) n:=fun n h=>h
  have hsim:=E3.zlq (W:=W) (F:=szF) (ng:=1) (zd0 hsh)
  have hlt:∀ nm g x,E3.qer W nm g=some x->nm<(E3.qdb W szF 1).ro:=by
    intro nm g x h
    obtain ⟨_,arr,e,fz,hb,_⟩:=E3.qdh h
    exact (Array.getElem?_eq_some_iff.1 hb).1
  obtain ⟨pv,u,hleaf,hrep,hrelu⟩:=E3.q1t (C:=cfg sp) (ng:=1) (F:=szF) (cd:=cdA) (depth:=8) (n:=3) (good:=good) (M:=fun _=>False) kx hM (t:=30) (ls:=[.str,.list 8]) (fun leaf hl=>by
    simp only [zD,List.not_mem_nil,or_false] at hl
    rcases hl with rfl | rfl
    . exact .inl rfl
    . exact .inr ⟨8,rfl,zjs⟩) Tryd.underlying30 (by kernel_rfl) (hval 0 30 v1 rfl rfl) h1
  obtain ⟨_,_,rfl,⟨nm,rfl,hnm⟩,_,_,rfl,⟨l,rfl,hll,hgl⟩,rfl⟩:=hleaf
  obtain ⟨qv,u2,hleaf2,hrep2,hrelu2⟩:=E3.zbs (C:=cfg sp) (ng:=1) (F:=szF) (cd:=cdA) (depth:=8) (n:=3) (good:=good) (M:=fun _=>False) kx hM (t:=3) (leaf:=.int .i64) (.inl rfl) (by kernel_rfl) (by kernel_rfl) (hval 1 3 v2 rfl rfl) h2
  obtain ⟨x,rfl,hx1,hx2⟩:=hleaf2
  have hrel:E2.qh (E3.qer W) W [u,u2] (#[v1,v2]:Array Value).toList:=E2.qh.cons hrelu (E2.qh.cons hrelu2 E2.qh.nil)
  have hstart:E3.Start XK szK (cfg sp) (E3.qdb W szF 1) (fun _=>False):=by
    refine ⟨fun n hn=>?_,⟨zN _,rfl,laid hL hsh⟩,fun n h=>h.elim,constants hL hsh⟩
    cases hg:(E3.qdb W szF 1).get n with
    | none=>rfl
    | some o=>
      obtain ⟨arr,e,fz,hb,_⟩:=E3.qof hg
      exact absurd (Array.getElem?_eq_some_iff.1 hb).1 (Nat.not_lt.2 hn)
  have hrun:=qz0 quiet zez nm l x ⟨le_max hnm,le_max hll,hgl,hx1,hx2⟩ _ _ [u,u2] hstart (.cons hrep (.cons hrep2 .nil))
  refine (E2.q12 Tryd.checked.mixed bookAwake.tables zlr Tryd.func4 (by kernel_rfl) hcd hsim hrel hrun).mono fun e W' ⟨v,H',x,G',hR,he,hx,st⟩=>?_
  obtain ⟨w',hR⟩:=hR
  have hr:=hR.rep
  obtain rfl:v=.bool true:=by cases hr;rfl
  simp only [E2.Rel] at hx
  subst hx
  subst he
  have hsame:∀ b,b<W.heap.size->W'.heap[b]? = W.heap[b]?:=E3.q81 st.ext
  refine ⟨_,rfl,E3.qw6 (t:=4) hW' rfl rfl Tryd.underlying4 rfl ⟨p1++p2,?_⟩ (fun may=>st.ext.keptBut hlt may)⟩
  rw [Tryd.params4]
  exact trodAll_mk2 (E3.qwf (by kernel_rfl) (by kernel_rfl) (Nat.le_of_ble_eq_true (by kernel_rfl)) h1 hsame _ fun b hb=>decide_eq_true hb) (E3.qwf (by kernel_rfl) (by kernel_rfl) (Nat.le_of_ble_eq_true (by kernel_rfl)) h2 hsame _ fun b hb=>decide_eq_true hb)

/-- A WORLD FOR THE WITNESS: the settled one, the tables as their initialisers lay them. -/
def zhw:Nat->DataW Unit->List Value
  | n+1,.agg l=>l.flatMap (zhw n)
  | _+1,.lit (.int k i)=>[.int k i]
  | _+1,.lit (.bool b)=>[.bool b]
  | _+1,.lit (.string s)=>[.string ⟨s.toArray⟩]
  | _,_=>[]
def lay (g:Nat) (cs:List Value) (heap:Array Obj):Array Obj:=
  heap.modify g fun
    | .cells _ t frozen=>.cells cs.toArray t frozen
    | o=>o
def wit:Array Value:=#[.agg #[.string ⟨#[]⟩,.slice none 0 0],.int .i64 0]
noncomputable def qq8 (os:Os):World:=
  {World.holding Tryd.prog os ⟨#[],wit,[]⟩ with heap:=lay 0 (zhw 8 Rows.laid_tactus_sign_uses) ((World.holding Tryd.prog os ⟨#[],wit,[]⟩).heap)}
theorem zch (os:Os):laidMet Tryd.prog Rows.bookChecksRow.laid ((qq8 os).forCall (fun _ _=>0) ⟨#[],wit,[]⟩).memory:=
  laidMet_of_run' 8 (by kernel_rfl) (by kernel_rfl)
theorem reads (os:Os) {H:Type} (enc:TypeId×Value->H):∃ places,DataW.whole enc Tryd.prog ((qq8 os).forCall (fun _ _=>0) ⟨#[],wit,[]⟩).memory Tryd.f4.params.toList Rows.bookChecksSpec.vars false wit.toList 8=some ([.agg [.lit (.string []),.nil],.lit (.int .i64 0)],[],places):=
  ⟨[],by kernel_rfl⟩

theorem lifted (os:Os) (started:os.Started) (H:Type) (enc:TypeId×Value->H) (F:Stop.Interp) :
    ReturnsInHanded {} Tryd.checked os 4 .any ((OpenSpec.ofChange Rows.bookChecksSpec).preRow enc Tryd.prog Tryd.f4 Rows.bookChecksRow.domain false Rows.bookChecksRow.laid) (((OpenSpec.ofChange Rows.bookChecksSpec).at F).post enc Tryd.prog Tryd.f4 false true false false):=by
  obtain ⟨places,hx⟩:=reads os enc
  refine returnsInHanded_of_row (C:=Tryd.checked) (s:=OpenSpec.ofChange Rows.bookChecksSpec) own started (by kernel_rfl) Tryd.func4
    (witness_row_at (enc:=enc) (C:=Tryd.checked) false (qq8 os) wit rfl (by kernel_rfl) (by kernel_rfl) (by kernel_rfl)
      (OpenSpec.preRow_of_cond 8 hx (by kernel_rfl) (fun k hk=>by cases hk) (by kernel_rfl) (zch os))) ?_
  intro W base args ds gs before hval hW _ _ _ hL hsh _
  exact contract H enc W base args ds gs before hval hW hL hsh

theorem said:Rows.BookChecksSaid:=
  OpenClaim.holds_of_cond 4 Tryd.f4 rfl rfl rfl rfl rfl rfl rfl ⟨rfl,rfl,rfl,rfl,rfl⟩ rfl rfl rfl rfl rfl (by kernel_rfl) Tryd.func4 (by kernel_rfl)
    (of_decide_eq_true (by kernel_rfl)) (by unfold Func.isWrapper;first | (rw [zT (by decide +kernel)];kernel_rfl) | (rw [zF (by decide +kernel)];exact ⟨rfl,rfl⟩))
    (fun os started H enc _ F=>by rw [OpenClaim.pre_eq_preRow];exact lifted os started H enc F)

/-- No parameter wants a stand-in; the program's own looks. -/
theorem plain (f:FuncId) (fn:Func) (hf:Tryd.pinned.checked.prog.funcNamed "tactus/tactuslaw39.BookChecks" = some f) (hfn:Tryd.pinned.checked.prog.funcs[f]? = some fn) :
    false=Tryd.pinned.checked.prog.looks []/\∀ (j:Nat) t,fn.params[j]? = some t->Tryd.pinned.checked.prog.wantsStandIn t=false:=by
  obtain rfl:f=4:=Option.some.inj ((show Tryd.prog.funcNamed "tactus/tactuslaw39.BookChecks" = some 4 by kernel_rfl).symm.trans hf) |>.symm
  obtain rfl:fn=Tryd.f4:=(Option.some.inj (Tryd.func4.symm.trans hfn)).symm
  refine ⟨by kernel_rfl,fun j t ht=>?_⟩
  rw [Tryd.params4] at ht
  have q0:Tryd.pinned.checked.prog.wantsStandIn 30=false:=by kernel_rfl
  have q1:Tryd.pinned.checked.prog.wantsStandIn 3=false:=by kernel_rfl
  rcases j with _ | _ | j
  . obtain rfl:30=t:=by simpa using ht
    exact q0
  . obtain rfl:3=t:=by simpa using ht
    exact q1
  . simp at ht

/-- THE CARD. -/
theorem card:Rows.BookChecksCardSaid:=
  Claim7.holds_tied_plain_at .later [] _ _ _ _ said (fun _ h=>by cases h) (by kernel_rfl) (fun _ h=>by cases h) bookChecks_row_tie rfl ⟨rfl,rfl⟩ (by kernel_rfl) rfl plain (by kernel_rfl)
#print axioms card
end Go.Proofs.YtlkfjinaiepocaaDoor.bookChecks
