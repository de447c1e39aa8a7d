/- THE LAW NotateBack of the chapter 10: the call returns true and nothing that was there before it is turned, whatever the arguments. No condition beyond its row's own: the listed variables read as the program's text lays them. -/
import Derived.Test.YtbopmiclcimjgaaGreatDoorCards
import Derived.Test.YtbopmiclcimjgaaGreatDoorTie
import Derived.Test.YtbopmiclcimjgaaGreatDoorFns
import Derived.Test.YtbopmiclcimjgaaGreatDoorM6
import Derived.Test.YtbopmiclcimjgaaGreatDoorNotateAwakeF
import Derived.Test.YtbopmiclcimjgaaGreatDoorNotateItoa
import Derived.Carry
import Derived.WalkKit
import Derived.ProofKit
import Derived.OpenShut
import Derived.ChangeMaps5
import Derived.Deep.DeepHandedRow
namespace Go.Proofs.YtbopmiclcimjgaaGreatDoor.notateBack
open Go.ChangeShapes Go.WideShapes Go.ChangeAt Go.RowKit Go.ChangeMaps
set_option maxRecDepth 100000
theorem own:ownKnob Tryz.prog.godebug=none:=by kernel_rfl
theorem q5j:notateAwake.qsm.qxa=true:=by kernel_rfl
theorem ze3:E2.kg Tryz.prog notateAwake.qsm.f notateAwake.qsm.q0g:=E2.qx5 Tryz.checked.mixed notateAwake.tables notateAwake.zu5 (by kernel_rfl) notateAwake.zir
/-- The calls that are answered by facts: 'NotateKnown', 'strconv.Itoa' at the numbers of signs. -/
def sp (f:Nat):Option (List E2.V->E2.Heap->Option (E2.CR×E2.Heap)):=if f=20 then some notateAwake.qsm.q0g else if f=117 then some notateAwake.spI else none
theorem ztp:E3.zh0 (cfg sp):=fun f hf=>by
  show sp f=none
  unfold sp
  rw [zF,zF]
  . rintro rfl
    cases hf
  . rintro rfl
    cases hf
theorem quiet:E3.zf (cfg sp):=⟨ztp,E3.zp6 (C:=cfg sp) (F:=35) (tB:=70) (tS:=68) (tQ:=128) (tI:=3) (tU:=5) rfl rfl (by kernel_rfl) fun el h=>by
  have:=E3.qe5 h
  simp only [qm6,zD,zP,List.not_mem_nil,or_false] at this
  rcases this with ⟨h1,h2⟩ | ⟨h1,h2⟩ | ⟨h1,h2⟩ | ⟨h1,h2⟩ | ⟨h1,h2⟩ | ⟨h1,h2⟩<;>first | exact h1 | cases h2⟩
theorem zx1:∀ f s,sp f=some s->E2.kg Tryz.prog f s:=by
  intro f s h
  unfold sp at h
  split at h
  . rename_i hf
    cases h
    subst hf
    exact ze3
  . split at h
    . rename_i hf
      cases h
      subst hf
      exact notateAwake.zu4
    . cases h
theorem ze2 (H:E2.Heap) (hg:H.za=(cfg sp).ng) (ho:∀ gn o,(cfg sp).gobj gn=some o->H.get gn=some o/\gn<H.next):E2.qcy (cfg sp).E (.func 20) [] H fun v H'=>v=.bool true/\H'=H:=
  E2.qw1 (s:=notateAwake.qsm.q0g) rfl (E2.zqp q5j hg fun x hx=>ho x.1 x.2 (E3.qo9 (by kernel_rfl) hx)) ⟨rfl,rfl⟩
theorem znx:E3.qbx XK szK (cfg sp) 20 [] zf0:=E3.zjo ju (v:=.bool true) .sb rfl ze2 fun H M=>.sb .rfl .rfl fun h0=>absurd rfl h0
theorem zny:E3.qcg XK szK (cfg sp) 20 zob:=by
  intro ns pre r h hp
  unfold zob at h
  dsimp only at h
  split at h
  . cases h
    exact ⟨_,rfl,znx,E3.zx rfl⟩
  . cases h
theorem zj7 (H:E2.Heap) (hg:H.za=(cfg sp).ng) (ho:∀ gn o,(cfg sp).gobj gn=some o->H.get gn=some o/\gn<H.next) {n:Int} (h0:-4<=n) (h1:n<=100):E2.qcy (cfg sp).E (.func 117) [.int .i64 n] H fun v H'=>v=.str (zd n)/\H'=H:=by
  have h4:=ho 4 notateAwake.qu4 rfl
  exact E2.qw1 (s:=notateAwake.spI) rfl (notateAwake.zt6 h0 h1 hg h4.1 h4.2) ⟨rfl,rfl⟩
theorem zsx {n:Int} (h0:-4<=n) (h1:n<=100):E3.qbx XK szK (cfg sp) 117 [.int .i64 none n] (q43 n):=by
  intro H M vs S ra
  obtain ⟨v,vs',rfl,r1,r2⟩:=ra.zu
  have:=r2.kl;subst this
  cases r1
  refine (zj7 H S.ro.2.1 S.ro.2.2 h0 h1).mono fun u H' hA=>?_
  obtain ⟨rfl,rfl⟩:=hA
  let w':E3.Wd:={E3.wd0 H' M (cfg sp).codec with owns:=fun _=>some 0}
  have rv':E3.Rep XK szK w' (q43 n) (.str (zd n)):=E3.Rep.plain (w:=E3.wd0 H' M (cfg sp).codec) (w':=w') (ju (sp:=sp)).plain rfl (fun _ _ _ h=>h) .str .str
  exact ⟨w',.refl H',S.wf,rfl,fun n _=>.rfl,S.Mlt,rfl,rfl,fun _=>rfl,fun i nm he=>(by cases he),fun i j nm he=>(by cases he),rv'⟩
theorem zsy:E3.qcg XK szK (cfg sp) 117 qld:=by
  intro ns pre r h hp
  unfold qld at h
  dsimp only at h
  split at h
  . cases h
    exact ⟨_,rfl,zsx hp.1 hp.2,E3.zx rfl⟩
  . cases h
/-! ### The listed variables -/
theorem qw7 {a b:Array Value} {t t':TypeId} {f f':Nat×Nat} (h:some (Obj.cells a t f)=some (Obj.cells b t' f')):t=t':=by
  cases h
  rfl
theorem globals:Tryz.prog.globals.size=7:=by kernel_rfl
theorem zgq:(Rows.notateBackRow.laid.filter fun x=>x.2.handleName?.isSome)=[]:=by kernel_rfl
noncomputable def qm5:List Value:=(E2.qj9 Tryz.prog 10 115 Rows.laid_tactus_sign_uses).getD []
theorem zus:E2.qj9 Tryz.prog 10 115 Rows.laid_tactus_sign_uses=some qm5:=by kernel_rfl
theorem zwl:qm5≠[]:=by
  intro h
  have:qm5.isEmpty=false:=by kernel_rfl
  rw [h] at this
  cases this
theorem ztg:Tryz.prog.globalNamed "tactus/sign.uses" = some 0:=by kernel_rfl
theorem zue:(Tryz.prog.globals[0]?).map (·.type)=some 115:=by kernel_rfl
theorem zxm:((((begin Tryz.prog (fun _ _=>0) default).world).heap[0]?).bind Obj.row?).map (·.2)=some 115:=by kernel_rfl
theorem zpe:("tactus/sign.uses",Rows.laid_tactus_sign_uses) ∈ Rows.notateBackRow.laid:=by
  exact List.mem_of_getElem? (i:=4) rfl
theorem zq7 {W:World} (hL:laidMet Tryz.prog Rows.notateBackRow.laid W) (hsh:W.ShapedOpen Tryz.prog):W.heap[0]? = some (.cells qm5.toArray 115 (0,0)):=by
  obtain ⟨ps,h1,_,h2⟩:=hL
  obtain ⟨t',h3⟩:=E2.qp3 h1 (fun b off hb=>(h2 b off hb).1) (name:= "tactus/sign.uses") (d:=Rows.laid_tactus_sign_uses) zpe ztg zue zus zwl
  have h4:=zxm
  obtain ⟨⟨zero,t⟩,h5,h6⟩:=zM.1 h4
  simp only at h6
  subst h6
  obtain ⟨cs,h7,_⟩:=hsh.1 0 zero 115 (by rw [globals];decide) h5
  have h9:=qw7 (h3.symm.trans h7)
  rw [h9] at h3
  exact h3
noncomputable def qw4:List Value:=(E2.qj9 Tryz.prog 10 183 Rows.laid_internal_strconv_uint64pow10).getD []
theorem zut:E2.qj9 Tryz.prog 10 183 Rows.laid_internal_strconv_uint64pow10=some qw4:=by kernel_rfl
theorem zwm:qw4≠[]:=by
  intro h
  have:qw4.isEmpty=false:=by kernel_rfl
  rw [h] at this
  cases this
theorem zth:Tryz.prog.globalNamed "internal/strconv.uint64pow10" = some 4:=by kernel_rfl
theorem zuf:(Tryz.prog.globals[4]?).map (·.type)=some 183:=by kernel_rfl
theorem zxn:((((begin Tryz.prog (fun _ _=>0) default).world).heap[4]?).bind Obj.row?).map (·.2)=some 183:=by kernel_rfl
theorem zpf:("internal/strconv.uint64pow10",Rows.laid_internal_strconv_uint64pow10) ∈ Rows.notateBackRow.laid:=by
  exact List.mem_of_getElem? (i:=2) rfl
theorem zu8 {W:World} (hL:laidMet Tryz.prog Rows.notateBackRow.laid W) (hsh:W.ShapedOpen Tryz.prog):W.heap[4]? = some (.cells qw4.toArray 183 (0,0)):=by
  obtain ⟨ps,h1,_,h2⟩:=hL
  obtain ⟨t',h3⟩:=E2.qp3 h1 (fun b off hb=>(h2 b off hb).1) (name:= "internal/strconv.uint64pow10") (d:=Rows.laid_internal_strconv_uint64pow10) zpf zth zuf zut zwm
  have h4:=zxn
  obtain ⟨⟨zero,t⟩,h5,h6⟩:=zM.1 h4
  simp only at h6
  subst h6
  obtain ⟨cs,h7,_⟩:=hsh.1 4 zero 183 (by rw [globals];decide) h5
  have h9:=qw7 (h3.symm.trans h7)
  rw [h9] at h3
  exact h3
theorem zxo:((((begin Tryz.prog (fun _ _=>0) default).world).heap[6]?).bind Obj.row?).map (·.2)=some 189:=by kernel_rfl
theorem zmu {W:World} (hsh:W.ShapedOpen Tryz.prog):7<=W.heap.size:=by
  obtain ⟨⟨zero,t⟩,h5,h6⟩:=zM.1 zxo
  obtain ⟨cs,h7,_⟩:=hsh.1 6 zero t (by rw [globals];decide) h5
  exact (Array.getElem?_eq_some_iff.1 h7).1
theorem qba:notateAwake.za=[(0,.row (qm5.map E3.qfl) 115 0 0 0 false),(4,.row (qw4.map E3.qfl) 183 0 0 0 false)]:=by kernel_rfl
theorem toText {W:World} (hL:laidMetH Tryz.prog Rows.notateBackRow.laid W):laidMet Tryz.prog Rows.notateBackRow.laid W:=by
  unfold laidMetH at hL
  rw [zgq] at hL
  exact hL
/-- The variables lie there. -/
theorem laid {W:World} (hL:laidMetH Tryz.prog Rows.notateBackRow.laid W) (hsh:W.ShapedOpen Tryz.prog) (gn:Nat) (o:E2.O) (h:(cfg sp).gobj gn=some o):(E3.qew W 7).get gn=some o/\gn<(E3.qew W 7).next:=by
  have hm:=E3.qe5 (show E3.look notateAwake.za gn=some o from h)
  have hsz:=zmu hsh
  rw [qba] at hm
  simp only [zD,zP,List.not_mem_nil,or_false] at hm
  rcases hm with ⟨rfl,rfl⟩ | ⟨rfl,rfl⟩
  . exact ⟨E3.qof (zq7 (toText hL) hsh),show 0<W.heap.size by omega⟩
  . exact ⟨E3.qof (zu8 (toText hL) hsh),show 4<W.heap.size by omega⟩
/-- The fields that are used, as truth values. -/
noncomputable def zrj:List Bool:=qm5.map fun
  | .bool b=>b
  | _=>false
theorem zwu:q6x 0=some (zrj.map E3.P.lit):=by kernel_rfl
theorem zwv:qm5.map E3.qfl=zrj.map E2.V.bool:=by kernel_rfl
theorem constants {W:World} (hL:laidMetH Tryz.prog Rows.notateBackRow.laid W) (hsh:W.ShapedOpen Tryz.prog) (gn:Nat) (ps:List (E3.PV KT)) (h:(cfg sp).za gn=some ps) :
    gn<(E3.qew W 7).za/\∃ vs e fl fz ex,(E3.qew W 7).get gn=some (.row vs e 0 fl fz ex)/\gn<(E3.qew W 7).next/\E3.Rep XK szK (E3.wd0 (E3.qew W 7) (fun _=>False) (cfg sp).codec) (.eptr ps 0) (.ptr gn 0 0 vs.length):=by
  have h':q6x gn=some ps:=h
  have hg:gn=0:=by
    rcases gn with _ | gn
    . rfl
    . cases h'
  subst hg
  rw [zwu] at h'
  cases h'
  have hrow:(E3.qew W 7).get 0=some (.row (qm5.map E3.qfl) 115 0 0 0 false):=E3.qof (zq7 (toText hL) hsh)
  rw [zwv] at hrow
  refine ⟨show 0<7 by decide,_,_,_,_,_,hrow,show 0<W.heap.size by have:=zmu hsh;omega,?_⟩
  refine E3.Rep.eptr (d:=0) (off:=0) hrow (zN 0) (fun h=>h) (by rw [List.length_map,List.length_map];exact Nat.le_of_eq (Nat.zero_add _)) (zN _) (fun j p hp=>?_)
  rw [List.getElem?_map] at hp
  obtain ⟨b,hb,rfl⟩:=zM.1 hp
  rw [Nat.zero_add,List.getD_eq_getElem?_getD,List.getElem?_map,hb]
  exact .lit
/-! ### The arguments: lists of numbers among them -/
def good:∀ c,KT c->Prop
  | 1=>fun n=>E3.I64 n
  | _=>fun _=>True
def cdA:Nat->Option Nat:=E3.look [(3,1)]
theorem zbx:E3.ArgOk good XK szK Tryz.prog cdA 8:=by
  refine ⟨fun e c h=>?_⟩
  have:=E3.qe5 h
  simp only [zD,zP,List.not_mem_nil,or_false] at this
  obtain ⟨rfl,rfl⟩:=this
  refine ⟨[.int .i64],by kernel_rfl,rfl,rfl,by kernel_rfl,by decide,fun ps h=>?_⟩
  obtain ⟨p,qs,rfl,⟨n,rfl,h1,h2⟩,rfl⟩:=h
  exact ⟨True,n,rfl,trivial,h1,h2⟩
theorem body:∃ c,Tryz.f6.body=some c:=⟨_,rfl⟩
theorem contract (H:Type) (enc:TypeId×Value->H) (W:World) (base:Nat) (args:Array Value) (ds gs:List (DataW H)) (before:List MemPlace)
    (hval:∀ (j:Nat) t v,Tryz.f6.params[j]? = some t->args[j]? = some v->Value.okWide Tryz.prog W .any base t v)
    (hW:DataW.Whole enc Tryz.prog Tryz.f6.params.toList Rows.notateBackSpec.vars false W args.toList ds gs before) (hL:laidMetH Tryz.prog Rows.notateBackRow.laid W) (hsh:W.ShapedOpen Tryz.prog) :
    Calls Tryz.prog 6 args W fun e W'=>∃ v,e=.returned v/\Rows.notateBackSpec.post enc Tryz.prog Tryz.f6 false true false false W args v W':=by
  have hW':=hW
  obtain ⟨p,q,hA0,_⟩:=hW
  have hA:DataW.TrodAll enc Tryz.prog W 0 (fun _=>true) true Tryz.f6.params.toList args.toList ds p:=hA0
  rw [Tryz.params6] at hA hval
  obtain ⟨v1,v2,v3,v4,d1,d2,d3,d4,p1,p2,p3,p4,ha,rfl,rfl,h1,h2,h3,h4⟩:=trodAll_four hA
  subst ha
  obtain ⟨cd,hcd⟩:=body
  have hM:∀ n:Nat,¬ (fun _:Nat=>False) n:=fun n h=>h
  have hsim:=E3.zx0 (W:=W) (ng:=7) (zmu hsh)
  have hlt:∀ nm g x,E3.qdb W nm g=some x->nm<(E3.qew W 7).ro:=by
    intro nm g x h
    obtain ⟨_,arr,e,fz,hb,_⟩:=E3.qa6 h
    exact (Array.getElem?_eq_some_iff.1 hb).1
  obtain ⟨q1,u1,hl1,hrep1,hrelu1⟩:=E3.q9a (C:=cfg sp) (ng:=7) (M:=fun _=>False) qbi zbx hM (t:=27) (ls:=[.int .i64,.int .i64,.int .i64,.int .i64,.bool,.int .i64,.bool,.bool,.int .i64,.int .i64,.int .i64,.int .i64,.bool,.int .i64,.int .i64,.int .i64,.int .i64]) Tryz.underlying27 (by kernel_rfl) (hval 0 27 v1 rfl rfl) h1
  obtain ⟨_,_,rfl,⟨n0,rfl,_⟩,_,_,rfl,⟨n1,rfl,_⟩,_,_,rfl,⟨n2,rfl,_⟩,_,_,rfl,⟨n3,rfl,_⟩,_,_,rfl,⟨n4,rfl⟩,_,_,rfl,⟨n5,rfl,_⟩,_,_,rfl,⟨n6,rfl⟩,_,_,rfl,⟨n7,rfl⟩,_,_,rfl,⟨n8,rfl,_⟩,_,_,rfl,⟨n9,rfl,_⟩,_,_,rfl,⟨n10,rfl,_⟩,_,_,rfl,⟨n11,rfl,_⟩,_,_,rfl,⟨n12,rfl⟩,_,_,rfl,⟨n13,rfl,_⟩,_,_,rfl,⟨n14,rfl,_⟩,_,_,rfl,⟨n15,rfl,_⟩,_,_,rfl,⟨n16,rfl,_⟩,rfl⟩:=hl1
  obtain ⟨q2,u2,hl2,hrep2,hrelu2⟩:=E3.q20 (C:=cfg sp) (ng:=7) (M:=fun _=>False) qbi zbx hM (t:=47) (leaf:=.list 1) (by kernel_rfl) (by kernel_rfl) (hval 1 47 v2 rfl rfl) h2
  obtain ⟨l2,rfl,hll2,hgl2⟩:=hl2
  obtain ⟨q3,u3,hl3,hrep3,hrelu3⟩:=E3.q20 (C:=cfg sp) (ng:=7) (M:=fun _=>False) qbi zbx hM (t:=9) (leaf:=.str) (by kernel_rfl) (by kernel_rfl) (hval 2 9 v3 rfl rfl) h3
  obtain ⟨s3,rfl,hln3⟩:=hl3
  obtain ⟨q4,u4,hl4,hrep4,hrelu4⟩:=E3.q20 (C:=cfg sp) (ng:=7) (M:=fun _=>False) qbi zbx hM (t:=9) (leaf:=.str) (by kernel_rfl) (by kernel_rfl) (hval 3 9 v4 rfl rfl) h4
  obtain ⟨s4,rfl,hln4⟩:=hl4
  have hrel:E2.qi (E3.qdb W) W [u1,u2,u3,u4] (#[v1,v2,v3,v4]:Array Value).toList:=E2.qi.cons hrelu1 (E2.qi.cons hrelu2 (E2.qi.cons hrelu3 (E2.qi.cons hrelu4 E2.qi.nil)))
  have hstart:E3.Start XK szK (cfg sp) (E3.qew W 7) (fun _=>False):=by
    refine ⟨fun n hn=>?_,⟨zN _,rfl,laid hL hsh⟩,fun n h=>h.elim,constants hL hsh⟩
    cases hg:(E3.qew W 7).get n with
    | none=>rfl
    | some o=>
      obtain ⟨arr,e,fz,hb,_⟩:=E3.qpy hg
      exact absurd (Array.getElem?_eq_some_iff.1 hb).1 (Nat.not_lt.2 hn)
  have hrun:=q93 quiet zny zsy n0 n1 n2 n3 n4 n5 n6 n7 n8 n9 n10 n11 n12 n13 n14 n15 n16 l2 s3 s4 ⟨⟨(Int.le_trans (Int.ofNat_le.2 hll2) (by decide)),hgl2⟩,(Int.le_trans (Int.ofNat_le.2 hln3) (by decide)),(Int.le_trans (Int.ofNat_le.2 hln4) (by decide))⟩ _ _ [u1,u2,u3,u4] hstart (.cons hrep1 (.cons hrep2 (.cons hrep3 (.cons hrep4 .nil))))
  refine (E2.q5q Tryz.checked.mixed notateAwake.tables zx1 Tryz.func6 (by kernel_rfl) hcd hsim hrel hrun).mono fun e W' ⟨v,H',x,G',hR,he,hx,st⟩=>?_
  obtain ⟨w',hR⟩:=hR
  have hr:=hR.rep
  obtain rfl:v=.bool true:=by cases hr;rfl
  simp only [E2.Rel] at hx
  subst hx
  subst he
  have hsame:∀ b,b<W.heap.size->W'.heap[b]? = W.heap[b]?:=E3.zfl st.ext
  refine ⟨_,rfl,E3.qz7 (t:=4) hW' rfl rfl Tryz.underlying4 rfl ⟨p1++(p2++(p3++p4)),?_⟩ (fun may=>st.ext.keptBut hlt may)⟩
  rw [Tryz.params6]
  exact trodAll_mk4 (E3.qmd (by kernel_rfl) (by kernel_rfl) (Nat.le_of_ble_eq_true (by kernel_rfl)) h1 hsame _ fun b hb=>decide_eq_true hb) (E3.qmd (by kernel_rfl) (by kernel_rfl) (Nat.le_of_ble_eq_true (by kernel_rfl)) h2 hsame _ fun b hb=>decide_eq_true hb) (E3.qmd (by kernel_rfl) (by kernel_rfl) (Nat.le_of_ble_eq_true (by kernel_rfl)) h3 hsame _ fun b hb=>decide_eq_true hb) (E3.qmd (by kernel_rfl) (by kernel_rfl) (Nat.le_of_ble_eq_true (by kernel_rfl)) h4 hsame _ fun b hb=>decide_eq_true hb)
/-- A WORLD FOR THE WITNESS: the settled one, the tables as their initialisers lay them. -/
def qxy:Nat->DataW Unit->List Value
  | n+1,.agg l=>l.flatMap (qxy n)
  | _+1,.lit (.int k i)=>[.int k i]
  | _+1,.lit (.bool b)=>[.bool b]
  | _+1,.lit (.string s)=>[.string ⟨s.toArray⟩]
  | _,_=>[]
def lay (g:Nat) (cs:List Value) (heap:Array Obj):Array Obj:=
  heap.modify g fun
    | .cells _ t frozen=>.cells cs.toArray t frozen
    | o=>o
def wit:Array Value:=#[.agg #[.int .i64 0,.int .i64 0,.int .i64 0,.int .i64 0,.bool false,.int .i64 0,.bool false,.bool false,.int .i64 0,.int .i64 0,.int .i64 0,.int .i64 0,.bool false,.int .i64 0,.int .i64 0,.int .i64 0,.int .i64 0],.slice none 0 0,.string ⟨#[]⟩,.string ⟨#[]⟩]
noncomputable def qs5 (os:Os):World:=
  {World.holding Tryz.prog os ⟨#[],wit,[]⟩ with heap:=(lay 6 (qxy 8 Rows.laid_math_bits_deBruijn64tab) (lay 5 (qxy 8 Rows.laid_math_bits_deBruijn32tab) (lay 4 (qxy 8 Rows.laid_internal_strconv_uint64pow10) (lay 3 (qxy 8 Rows.laid_unicode_utf8_acceptRanges) (lay 2 (qxy 8 Rows.laid_unicode_utf8_first) (lay 0 (qxy 8 Rows.laid_tactus_sign_uses) ((World.holding Tryz.prog os ⟨#[],wit,[]⟩).heap)))))))}
theorem zkf (os:Os):laidMet Tryz.prog Rows.notateBackRow.laid ((qs5 os).forCall (fun _ _=>0) ⟨#[],wit,[]⟩).memory:=
  laidMet_of_run' 8 (by kernel_rfl) (by kernel_rfl)
theorem reads (os:Os) {H:Type} (enc:TypeId×Value->H):∃ places,DataW.whole enc Tryz.prog ((qs5 os).forCall (fun _ _=>0) ⟨#[],wit,[]⟩).memory Tryz.f6.params.toList Rows.notateBackSpec.vars false wit.toList 8=some ([.agg [.lit (.int .i64 0),.lit (.int .i64 0),.lit (.int .i64 0),.lit (.int .i64 0),.lit (.bool false),.lit (.int .i64 0),.lit (.bool false),.lit (.bool false),.agg [.lit (.int .i64 0),.lit (.int .i64 0),.lit (.int .i64 0),.lit (.int .i64 0)],.lit (.bool false),.lit (.int .i64 0),.lit (.int .i64 0),.agg [.lit (.int .i64 0),.lit (.int .i64 0)]],.nil,.lit (.string []),.lit (.string [])],[],places):=
  ⟨[],by kernel_rfl⟩
theorem lifted (os:Os) (started:os.Started) (H:Type) (enc:TypeId×Value->H) (F:Stop.Interp) :
    ReturnsInHanded {} Tryz.checked os 6 .any ((OpenSpec.ofChange Rows.notateBackSpec).preRow enc Tryz.prog Tryz.f6 Rows.notateBackRow.domain false Rows.notateBackRow.laid) (((OpenSpec.ofChange Rows.notateBackSpec).at F).post enc Tryz.prog Tryz.f6 false true false false):=by
  obtain ⟨places,hx⟩:=reads os enc
  refine returnsInHanded_of_row (C:=Tryz.checked) (s:=OpenSpec.ofChange Rows.notateBackSpec) own started (by kernel_rfl) Tryz.func6
    (witness_row_at (enc:=enc) (C:=Tryz.checked) false (qs5 os) wit rfl (by kernel_rfl) (by kernel_rfl) (by kernel_rfl)
      (OpenSpec.preRow_of_cond 8 hx (by kernel_rfl) (fun k hk=>by cases hk) (by kernel_rfl) (zkf os))) ?_
  intro W base args ds gs before hval hW _ _ _ hL hsh _
  exact contract H enc W base args ds gs before hval hW hL hsh
theorem said:Rows.NotateBackSaid:=
  OpenClaim.holds_of_cond 6 Tryz.f6 rfl rfl rfl rfl rfl rfl rfl ⟨rfl,rfl,rfl,rfl,rfl⟩ rfl rfl rfl rfl rfl (by kernel_rfl) Tryz.func6 (by kernel_rfl)
    (of_decide_eq_true (by kernel_rfl)) (by unfold Func.isWrapper;first | (rw [zT (by decide +kernel)];kernel_rfl) | (rw [zF (by decide +kernel)];exact ⟨rfl,rfl⟩))
    (fun os started H enc _ F=>by rw [OpenClaim.pre_eq_preRow];exact lifted os started H enc F)
/-- No parameter wants a stand-in; the program's own looks. -/
theorem plain (f:FuncId) (fn:Func) (hf:Tryz.pinned.checked.prog.funcNamed "tactus/tactuslaw10.NotateBack" = some f) (hfn:Tryz.pinned.checked.prog.funcs[f]? = some fn) :
    false=Tryz.pinned.checked.prog.looks []/\∀ (j:Nat) t,fn.params[j]? = some t->Tryz.pinned.checked.prog.wantsStandIn t=false:=by
  obtain rfl:f=6:=Option.some.inj ((show Tryz.prog.funcNamed "tactus/tactuslaw10.NotateBack" = some 6 by kernel_rfl).symm.trans hf) |>.symm
  obtain rfl:fn=Tryz.f6:=(Option.some.inj (Tryz.func6.symm.trans hfn)).symm
  refine ⟨by kernel_rfl,fun j t ht=>?_⟩
  rw [Tryz.params6] at ht
  have q9:Tryz.pinned.checked.prog.wantsStandIn 9=false:=by kernel_rfl
  have q27:Tryz.pinned.checked.prog.wantsStandIn 27=false:=by kernel_rfl
  have q47:Tryz.pinned.checked.prog.wantsStandIn 47=false:=by kernel_rfl
  rcases j with _ | _ | _ | _ | j
  . obtain rfl:27=t:=by simpa using ht
    exact q27
  . obtain rfl:47=t:=by simpa using ht
    exact q47
  . obtain rfl:9=t:=by simpa using ht
    exact q9
  . obtain rfl:9=t:=by simpa using ht
    exact q9
  . simp at ht
/-- THE CARD. -/
theorem card:Rows.NotateBackCardSaid:=
  Claim7.holds_tied_plain_at .later [] _ _ _ _ said (fun _ h=>by cases h) (by kernel_rfl) (fun _ h=>by cases h) notateBack_row_tie rfl ⟨rfl,rfl⟩ (by kernel_rfl) rfl plain (by kernel_rfl)
#print axioms card
end Go.Proofs.YtbopmiclcimjgaaGreatDoor.notateBack
