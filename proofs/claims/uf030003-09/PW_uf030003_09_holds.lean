import PyProof.Rows.All
import OpenK.AllK
import Wide.All
import PyProof.StationsW
import PyProof.Rows.Many
import PyProof.Rows.TupIter
import PyProof.Walks
import PyProof.TupleIter
import PyProof.ExcClass2
import PyProof.Rows.Tup
import PyProof.Cells
import PyProof.Rows.Nodes
import PyProof.Rows.Chain
import PyProof.Rows.TupSub
import PyProof.Rules3
import PyProof.ExcClass
import PyProof.Raises
import PyProof.Rows.TupAssign
import PyProof.WalksMore
import PyProof.StrWalks
import PyProof.Rows.Globals
import PyProof.Rows.Method
import PyProof.Rows.Exc
import PyProof.CompFree
import PyProof.Rows.PlainStore
import PyProof.IsiNone
import PyProof.Conv_int_bool
import PyProof.TupleOfSeq
import PyProof.WalkInts
import PyProof.ConsumeWalk
import PyProof.LetGo
import KE.KRevIter
import KE.KRevSl
import PyProof.DictTruth
import PyProof.Rows.TupMore
import PyProof.Rows.SortWalk
import KE.KDictSum
import PyProof.EnumMake
import PyProof.DictDisplay
import Wide.FinOn
import KE.KIntText
import PyProof.StrLawsTight
import PyProof.CallStr
import PyProof.Rows.StrRules
import PyProof.StrBlockH
import PyProof.StrBlockL
import PyProof.Rows.StrSplitJoin
import PyProof.StrCalls3
import PyProof.Rows.FStr
import PyProof.StrOps2
import PyProof.SliceStr2
import OpenK.KCall
import PyProof.Rows.Own
import PyProof.Rows.Catch
import PyProof.NsDelKeeps
import PyProof.Rows.CatchOwn
import KE.KTryMore
import KE.KIsAll
import PyProof.ExcArgsOwn
import PyProof.IsiH_list
import PySem.Challenge.RW_uf030003_09
set_option Elab.async false
set_option linter.all false
namespace Mine
open PySem PySem.W PyProof.Rows
set_option Elab.async false
set_option maxRecDepth 100000
noncomputable def topRunT (tb:String->Option Builtin) (p:Program) (w:World) (n₀:Nat) (ann:Option Value):Nat->SharedT->Thread->Option SharedT
 | 0,_,_=>none
 | n+1,s,t=>match through t with
  | true=>some s
  | false=>match stepOk n₀ ann t with
   | false=>none
   | true=>match stepT (denote tb) p w s t with
    | some (s',t')=>topRunT tb p w n₀ ann n s' t'
    | none=>none
theorem topRunT_spec {tb:String->Option Builtin}{p:Program}{w:World}{n₀:Nat}{ann:Option Value} :
  ∀ {n:Nat}{s s':SharedT}{t:Thread},topRunT tb p w n₀ ann n s t=some s'->topRun tb p w n₀ ann n s.abs t=some s'.abs
 | 0,_,_,_,h=>by cases h
 | n+1,s,s',t,h=>by
  unfold topRunT at h
  unfold topRun
  cases he:through t with
  | true=>rw [he] at h;cases h;rfl
  | false =>
   rw [he] at h
   cases hk:stepOk n₀ ann t with
   | false=>rw [hk] at h;cases h
   | true =>
    rw [hk] at h
    cases hs:stepT (denote tb) p w s t with
    | none=>rw [hs] at h;cases h
    | some r=>obtain ⟨s₂,t₂⟩:=r;rw [hs] at h;rw [stepT_spec hs];exact topRunT_spec h
noncomputable def putAll:List Obj->Nat->BT->BT
 | [],_,t=>t
 | o::l,n,t=>putAll l (n+1) (t.ins n o)
noncomputable def bootTree (P:Params):BT:=putAll (boot_heap P).objs.toList 0 .nil
noncomputable def bootLife (P:Params):Life:=(boot_heap P).life
noncomputable def bootT (P:Params) (n:Nat) (os:OsState):SharedT:=⟨bootTree P,n,bootLife P,Array.mk [],boot_drawn,boot_toks,os⟩
theorem boot_abs (P:Params):absHeap (bootTree P) (boot_heap P).objs.size (bootLife P)=boot_heap P:=by kernel_rfl
theorem boot_seen (P:Params):(boot_heap P).isNs mainGlobals=true:=by kernel_rfl
noncomputable def headOf (p q:Program) (loose:List Str) (Xt:Shared->Bool) (M:Nat) (w:World) (os:OsState) :=
 (topRunT treeTable p w (boot_heap w.params).objs.size ((boot_heap w.params).nsMap mainGlobals "__annotations__") M (bootT w.params (boot_heap w.params).objs.size os) (topStub p)).map fun sT =>
  (staticsOk (importedModules p.main.body) (boot_heap w.params) sT.abs.heap&&namesBound p sT.abs.heap&&gensDone sT.abs&&laidKept (boot_heap w.params) sT.abs.heap,
   openSeen q loose (importedModules p.main.body) Xt true sT.abs)
set_option maxHeartbeats 4000000 in
theorem lay1:Function.const _ true (@headOf)=true:=by k_qdec
theorem left_of_head {p q:Program}{loose:List Str}{Xt:Shared->Bool}{M N:Nat}(e:opening p=plainProg p.main.scope.names) (hN:Nat.ble 600 N=true)
  (f:∀ s,fenceModules? p s=some s) (le:Nat.ble M N=true) (h:∀ w os,headOf p q loose Xt M w os=some (true,openGood q loose)) :
  LeftO p q loose Xt (Hook.obs Hook.none) (Hook.val Hook.none) N:=fun w=>by
 obtain ⟨⟨hp,gs,d,k,os⟩,e1,e2⟩:=Option.map_eq_some_iff.mp (boot_open e hN f w)
 obtain ⟨rfl,rfl,rfl,rfl⟩:hp=boot_heap w.params/\gs=Array.mk []/\d=boot_drawn/\k=boot_toks:=by simpa using e2
 obtain ⟨sT,r,l⟩:=Option.map_eq_some_iff.mp (h w os)
 have l1:=congrArg Prod.fst l
 have l2:=congrArg Prod.snd l
 dsimp only at l1 l2
 have r:=topRunT_spec r
 have ea:(bootT w.params (boot_heap w.params).objs.size os).abs=⟨boot_heap w.params,Array.mk [],boot_drawn,boot_toks,os⟩:=by
  unfold bootT SharedT.abs
  dsimp only
  rw [boot_abs]
 rw [ea] at r
 have r:=topRun_mono (N-M) _ _ _ _ r
 rw [show M+(N-M)=N by have:=Nat.le_of_ble_eq_true le;(first|lia|omega)] at r
 have z1:=boot_seen w.params
 unfold openEnds
 rw [e1]
 show Option.map _ (topFrom treeTable p w N ⟨boot_heap w.params,Array.mk [],boot_drawn,boot_toks,os⟩)=_
 have t:topFrom treeTable p w N ⟨boot_heap w.params,Array.mk [],boot_drawn,boot_toks,os⟩=some sT.abs:=by
  unfold topFrom
  dsimp only
  rw [z1,r]
  show (match staticsOk (importedModules p.main.body) (boot_heap w.params) sT.abs.heap&&namesBound p sT.abs.heap&&gensDone sT.abs&&laidKept (boot_heap w.params) sT.abs.heap with|true=>_|false=>_)=_
  rw [l1]
 rw [t]
 exact congrArg some (Prod.ext l2 rfl)
end Mine
namespace Mine
theorem x0_2  {p0 p1:Prop}{G:Prop}(h:p0/\p1) (g:p0->p1->G):G:=by
 obtain ⟨h0,h1⟩:=h;exact g h0 h1
theorem x0_3  {p0 p1 p2:Prop}{G:Prop}(h:p0/\p1/\p2) (g:p0->p1->p2->G):G:=by
 obtain ⟨h0,h1,h2⟩:=h;exact g h0 h1 h2
theorem x0_4  {p0 p1 p2 p3:Prop}{G:Prop}(h:p0/\p1/\p2/\p3) (g:p0->p1->p2->p3->G):G:=by
 obtain ⟨h0,h1,h2,h3⟩:=h;exact g h0 h1 h2 h3
theorem x0_5  {p0 p1 p2 p3 p4:Prop}{G:Prop}(h:p0/\p1/\p2/\p3/\p4) (g:p0->p1->p2->p3->p4->G):G:=by
 obtain ⟨h0,h1,h2,h3,h4⟩:=h;exact g h0 h1 h2 h3 h4
theorem x0_6  {p0 p1 p2 p3 p4 p5:Prop}{G:Prop}(h:p0/\p1/\p2/\p3/\p4/\p5) (g:p0->p1->p2->p3->p4->p5->G):G:=by
 obtain ⟨h0,h1,h2,h3,h4,h5⟩:=h;exact g h0 h1 h2 h3 h4 h5
theorem x1_1 {α0:Sort _}{p0:α0->Prop}{G:Prop}(h:∃ a0,p0 a0) (g:∀ a0,p0 a0->G):G:=by
 obtain ⟨a0,h0⟩:=h;exact g a0 h0
theorem x1_2 {α0:Sort _}{p0 p1:α0->Prop}{G:Prop}(h:∃ a0,p0 a0/\p1 a0) (g:∀ a0,p0 a0->p1 a0->G):G:=by
 obtain ⟨a0,h0,h1⟩:=h;exact g a0 h0 h1
theorem x1_3 {α0:Sort _}{p0 p1 p2:α0->Prop}{G:Prop}(h:∃ a0,p0 a0/\p1 a0/\p2 a0) (g:∀ a0,p0 a0->p1 a0->p2 a0->G):G:=by
 obtain ⟨a0,h0,h1,h2⟩:=h;exact g a0 h0 h1 h2
theorem x1_4 {α0:Sort _}{p0 p1 p2 p3:α0->Prop}{G:Prop}(h:∃ a0,p0 a0/\p1 a0/\p2 a0/\p3 a0) (g:∀ a0,p0 a0->p1 a0->p2 a0->p3 a0->G):G:=by
 obtain ⟨a0,h0,h1,h2,h3⟩:=h;exact g a0 h0 h1 h2 h3
theorem x1_6 {α0:Sort _}{p0 p1 p2 p3 p4 p5:α0->Prop}{G:Prop}(h:∃ a0,p0 a0/\p1 a0/\p2 a0/\p3 a0/\p4 a0/\p5 a0) (g:∀ a0,p0 a0->p1 a0->p2 a0->p3 a0->p4 a0->p5 a0->G):G:=by
 obtain ⟨a0,h0,h1,h2,h3,h4,h5⟩:=h;exact g a0 h0 h1 h2 h3 h4 h5
theorem x2_1 {α0:Sort _}{α1:Sort _}{p0:α0->α1->Prop}{G:Prop}(h:∃ a0 a1,p0 a0 a1) (g:∀ a0 a1,p0 a0 a1->G):G:=by
 obtain ⟨a0,a1,h0⟩:=h;exact g a0 a1 h0
theorem x2_2 {α0:Sort _}{α1:Sort _}{p0 p1:α0->α1->Prop}{G:Prop}(h:∃ a0 a1,p0 a0 a1/\p1 a0 a1) (g:∀ a0 a1,p0 a0 a1->p1 a0 a1->G):G:=by
 obtain ⟨a0,a1,h0,h1⟩:=h;exact g a0 a1 h0 h1
theorem x2_3 {α0:Sort _}{α1:Sort _}{p0 p1 p2:α0->α1->Prop}{G:Prop}(h:∃ a0 a1,p0 a0 a1/\p1 a0 a1/\p2 a0 a1) (g:∀ a0 a1,p0 a0 a1->p1 a0 a1->p2 a0 a1->G):G:=by
 obtain ⟨a0,a1,h0,h1,h2⟩:=h;exact g a0 a1 h0 h1 h2
theorem x2_4 {α0:Sort _}{α1:Sort _}{p0 p1 p2 p3:α0->α1->Prop}{G:Prop}(h:∃ a0 a1,p0 a0 a1/\p1 a0 a1/\p2 a0 a1/\p3 a0 a1) (g:∀ a0 a1,p0 a0 a1->p1 a0 a1->p2 a0 a1->p3 a0 a1->G):G:=by
 obtain ⟨a0,a1,h0,h1,h2,h3⟩:=h;exact g a0 a1 h0 h1 h2 h3
theorem x2_5 {α0:Sort _}{α1:Sort _}{p0 p1 p2 p3 p4:α0->α1->Prop}{G:Prop}(h:∃ a0 a1,p0 a0 a1/\p1 a0 a1/\p2 a0 a1/\p3 a0 a1/\p4 a0 a1) (g:∀ a0 a1,p0 a0 a1->p1 a0 a1->p2 a0 a1->p3 a0 a1->p4 a0 a1->G):G:=by
 obtain ⟨a0,a1,h0,h1,h2,h3,h4⟩:=h;exact g a0 a1 h0 h1 h2 h3 h4
theorem x3_1 {α0:Sort _}{α1:Sort _}{α2:Sort _}{p0:α0->α1->α2->Prop}{G:Prop}(h:∃ a0 a1 a2,p0 a0 a1 a2) (g:∀ a0 a1 a2,p0 a0 a1 a2->G):G:=by
 obtain ⟨a0,a1,a2,h0⟩:=h;exact g a0 a1 a2 h0
theorem x3_2 {α0:Sort _}{α1:Sort _}{α2:Sort _}{p0 p1:α0->α1->α2->Prop}{G:Prop}(h:∃ a0 a1 a2,p0 a0 a1 a2/\p1 a0 a1 a2) (g:∀ a0 a1 a2,p0 a0 a1 a2->p1 a0 a1 a2->G):G:=by
 obtain ⟨a0,a1,a2,h0,h1⟩:=h;exact g a0 a1 a2 h0 h1
theorem x3_3 {α0:Sort _}{α1:Sort _}{α2:Sort _}{p0 p1 p2:α0->α1->α2->Prop}{G:Prop}(h:∃ a0 a1 a2,p0 a0 a1 a2/\p1 a0 a1 a2/\p2 a0 a1 a2) (g:∀ a0 a1 a2,p0 a0 a1 a2->p1 a0 a1 a2->p2 a0 a1 a2->G):G:=by
 obtain ⟨a0,a1,a2,h0,h1,h2⟩:=h;exact g a0 a1 a2 h0 h1 h2
theorem x3_4 {α0:Sort _}{α1:Sort _}{α2:Sort _}{p0 p1 p2 p3:α0->α1->α2->Prop}{G:Prop}(h:∃ a0 a1 a2,p0 a0 a1 a2/\p1 a0 a1 a2/\p2 a0 a1 a2/\p3 a0 a1 a2) (g:∀ a0 a1 a2,p0 a0 a1 a2->p1 a0 a1 a2->p2 a0 a1 a2->p3 a0 a1 a2->G):G:=by
 obtain ⟨a0,a1,a2,h0,h1,h2,h3⟩:=h;exact g a0 a1 a2 h0 h1 h2 h3
theorem x3_5 {α0:Sort _}{α1:Sort _}{α2:Sort _}{p0 p1 p2 p3 p4:α0->α1->α2->Prop}{G:Prop}(h:∃ a0 a1 a2,p0 a0 a1 a2/\p1 a0 a1 a2/\p2 a0 a1 a2/\p3 a0 a1 a2/\p4 a0 a1 a2) (g:∀ a0 a1 a2,p0 a0 a1 a2->p1 a0 a1 a2->p2 a0 a1 a2->p3 a0 a1 a2->p4 a0 a1 a2->G):G:=by
 obtain ⟨a0,a1,a2,h0,h1,h2,h3,h4⟩:=h;exact g a0 a1 a2 h0 h1 h2 h3 h4
theorem x4_1 {α0:Sort _}{α1:Sort _}{α2:Sort _}{α3:Sort _}{p0:α0->α1->α2->α3->Prop}{G:Prop}(h:∃ a0 a1 a2 a3,p0 a0 a1 a2 a3) (g:∀ a0 a1 a2 a3,p0 a0 a1 a2 a3->G):G:=by
 obtain ⟨a0,a1,a2,a3,h0⟩:=h;exact g a0 a1 a2 a3 h0
theorem x4_2 {α0:Sort _}{α1:Sort _}{α2:Sort _}{α3:Sort _}{p0 p1:α0->α1->α2->α3->Prop}{G:Prop}(h:∃ a0 a1 a2 a3,p0 a0 a1 a2 a3/\p1 a0 a1 a2 a3) (g:∀ a0 a1 a2 a3,p0 a0 a1 a2 a3->p1 a0 a1 a2 a3->G):G:=by
 obtain ⟨a0,a1,a2,a3,h0,h1⟩:=h;exact g a0 a1 a2 a3 h0 h1
theorem x4_3 {α0:Sort _}{α1:Sort _}{α2:Sort _}{α3:Sort _}{p0 p1 p2:α0->α1->α2->α3->Prop}{G:Prop}(h:∃ a0 a1 a2 a3,p0 a0 a1 a2 a3/\p1 a0 a1 a2 a3/\p2 a0 a1 a2 a3) (g:∀ a0 a1 a2 a3,p0 a0 a1 a2 a3->p1 a0 a1 a2 a3->p2 a0 a1 a2 a3->G):G:=by
 obtain ⟨a0,a1,a2,a3,h0,h1,h2⟩:=h;exact g a0 a1 a2 a3 h0 h1 h2
theorem x5_1 {α0:Sort _}{α1:Sort _}{α2:Sort _}{α3:Sort _}{α4:Sort _}{p0:α0->α1->α2->α3->α4->Prop}{G:Prop}(h:∃ a0 a1 a2 a3 a4,p0 a0 a1 a2 a3 a4) (g:∀ a0 a1 a2 a3 a4,p0 a0 a1 a2 a3 a4->G):G:=by
 obtain ⟨a0,a1,a2,a3,a4,h0⟩:=h;exact g a0 a1 a2 a3 a4 h0
theorem x5_3 {α0:Sort _}{α1:Sort _}{α2:Sort _}{α3:Sort _}{α4:Sort _}{p0 p1 p2:α0->α1->α2->α3->α4->Prop}{G:Prop}(h:∃ a0 a1 a2 a3 a4,p0 a0 a1 a2 a3 a4/\p1 a0 a1 a2 a3 a4/\p2 a0 a1 a2 a3 a4) (g:∀ a0 a1 a2 a3 a4,p0 a0 a1 a2 a3 a4->p1 a0 a1 a2 a3 a4->p2 a0 a1 a2 a3 a4->G):G:=by
 obtain ⟨a0,a1,a2,a3,a4,h0,h1,h2⟩:=h;exact g a0 a1 a2 a3 a4 h0 h1 h2
end Mine
set_option maxRecDepth 100000
namespace Mine
open PySem
noncomputable def Mild (f:Obj->Obj):Prop:=∀ o vs,o.data=.fields vs->∃ vs':Array Value,(f o).data=.fields vs'/\vs'[2]?=vs[2]?
inductive Calm:{α:Type}->Sem α->Prop
 | pure {α:Type}{a:α}:Calm (Sem.pure a)
 | raise {α:Type}{e:Value}:Calm (Sem.raise e:Sem α)
 | unsupported {α:Type}{w:String}:Calm (Sem.unsupported w:Sem α)
 | finish {α:Type}{e:Ending}:Calm (Sem.finish e:Sem α)
 | rule {α:Type}{t:String}{k:Unit->Sem α}:(∀ u,Calm (k u))->Calm (.rule t k)
 | at {α:Type}{p:Pos}{k:Unit->Sem α}:(∀ u,Calm (k u))->Calm (.at p k)
 | load {α:Type}{a:Addr}{p:Option Value}{k:Obj->Sem α}:(∀ u,Calm (k u))->Calm (.load a p k)
 | update {α:Type}{a:Addr}{p:Option Value}{f:Obj->Obj}{k:Unit->Sem α}:Mild f->(∀ u,Calm (k u))->Calm (.update a p f k)
 | alloc {α:Type}{o:Obj}{k:Addr->Sem α}:(∀ u,Calm (k u))->Calm (.alloc o k)
 | loadIfAlive {α:Type}{a:Addr}{k:Option Obj->Sem α}:(∀ u,Calm (k u))->Calm (.loadIfAlive a k)
 | point {α:Type}{l:List Value}{k:Unit->Sem α}:(∀ u,Calm (k u))->Calm (.point l k)
 | fresh {α:Type}{k:Tok->Sem α}:(∀ u,Calm (k u))->Calm (.fresh k)
 | ask {α:Type}{k:Setting->Sem α}:(∀ u,Calm (k u))->Calm (.ask k)
 | handled {α:Type}{o:Bool}{k:Option Value->Sem α}:(∀ u,Calm (k u))->Calm (.handled o k)
 | stack {α:Type}{k:List (Code×Pos)->Sem α}:(∀ u,Calm (k u))->Calm (.stack k)
theorem Calm.bind {α β:Type}{m:Sem α}{f:α->Sem β}(h:Calm m) (k:∀ a,Calm (f a)):Calm (m >>= f):=by
 show Calm (Sem.bind m f)
 induction h with
 | pure=>exact k _
 | raise=>exact .raise
 | unsupported=>exact .unsupported
 | finish=>exact .finish
 | rule _ ih=>exact .rule fun u=>ih u
 | «at» _ ih=>exact .at fun u=>ih u
 | load _ ih=>exact .load fun u=>ih u
 | update hf _ ih=>exact .update hf fun u=>ih u
 | alloc _ ih=>exact .alloc fun u=>ih u
 | loadIfAlive _ ih=>exact .loadIfAlive fun u=>ih u
 | point _ ih=>exact .point fun u=>ih u
 | fresh _ ih=>exact .fresh fun u=>ih u
 | ask _ ih=>exact .ask fun u=>ih u
 | handled _ ih=>exact .handled fun u=>ih u
 | stack _ ih=>exact .stack fun u=>ih u
noncomputable def CtxIs (v:Value) (e:Addr) (h:Heap):Prop:=∃ o vs,h.get? e=some o/\o.data=.fields vs/\(vs:Array Value)[2]?=some v
abbrev NoCtx:=CtxIs .none
theorem CtxIs.push {v:Value}{e:Addr}{h:Heap}(x:CtxIs v e h) (o:Obj):CtxIs v e (h.push o):=let ⟨o',vs,a,b,c⟩:=x;⟨o',vs,Heap.get?_push_of_some o a,b,c⟩
theorem CtxIs.update {v:Value}{e a:Addr}{h:Heap}{f:Obj->Obj}(x:CtxIs v e h) (hf:Mild f):CtxIs v e (h.update a f):=by
 refine x2_3 (x) fun o vs h1 h2 h3=>?_
 clear x
 by_cases z:a=e
 ·subst z
  refine x1_2 (hf o vs h2) fun vs' h4 h5=>?_
  exact ⟨f o,vs',Heap.get?_update_self f h1 (Obj.isFreed_of_fields h4),h4,h5.trans h3⟩
 ·exact ⟨o,vs,(Heap.get?_update_other h f z).trans h1,h2,h3⟩
theorem CtxIs.keeps {v:Value}{e:Addr}{h h':Heap}(x:CtxIs v e h) (k:∀ b o,h.get? b=some o->h'.get? b=some o):CtxIs v e h':=let ⟨o',vs,a,b,c⟩:=x;⟨o',vs,k _ _ a,b,c⟩
theorem calm_wp {v:Value}{e:Addr}{α:Type}{t:Sem α}(h:Calm t):∀ {M:Model}{Γ:_}{Q:α->Pos->Shared->Prop}{E:Value->Pos->Shared->Prop}{p:Pos}{s:Shared},CtxIs v e s.heap->Sem.wp M Γ t Q E p s->Sem.wp M Γ t (fun a p s'=>Q a p s'/\CtxIs v e s'.heap) E p s:=by
 induction h with
 | pure=>intro M Γ Q E p s x w;rw [Sem.wp] at w ⊢;exact ⟨w,x⟩
 | raise=>intro M Γ Q E p s x w;rw [Sem.wp] at w ⊢;exact w
 | unsupported=>intro M Γ Q E p s x w;rw [Sem.wp] at w;exact w.elim
 | finish=>intro M Γ Q E p s x w;rw [Sem.wp] at w;exact w.elim
 | rule _ ih=>intro M Γ Q E p s x w;rw [Sem.wp] at w ⊢;exact ih _ x w
 | «at» _ ih=>intro M Γ Q E p s x w;rw [Sem.wp] at w ⊢;exact ih _ x w
 | load _ ih=>intro M Γ Q E p s x w;rw [Sem.wp] at w ⊢;obtain ⟨o,h1,h2⟩:=w;exact ⟨o,h1,ih _ x h2⟩
 | update hf _ ih=>intro M Γ Q E p s x w;rw [Sem.wp] at w ⊢;exact ⟨w.1,ih _ (x.update hf) w.2⟩
 | alloc _ ih=>intro M Γ Q E p s x w;rw [Sem.wp] at w ⊢;exact ih _ (x.push _) w
 | loadIfAlive _ ih=>intro M Γ Q E p s x w;rw [Sem.wp] at w ⊢;exact ih _ x w
 | point _ ih=>intro M Γ Q E p s x w;rw [Sem.wp] at w ⊢;exact ih _ x w
 | fresh _ ih=>intro M Γ Q E p s x w;rw [Sem.wp] at w ⊢;exact ih _ x w
 | ask _ ih=>intro M Γ Q E p s x w;rw [Sem.wp] at w ⊢;exact ih _ x w
 | handled _ ih=>intro M Γ Q E p s x w;rw [Sem.wp] at w ⊢;exact ih _ x w
 | stack _ ih=>intro M Γ Q E p s x w;rw [Sem.wp] at w ⊢;exact ih _ x w
theorem Calm.any {v:Value}{e:Addr}{α:Type}{t:Sem α}(h:Calm t){M:Model}{A:Around}{Q:α->Shared->Prop}{E:Value->Shared->Prop}{s:Shared}(x:CtxIs v e s.heap) (w:wpAny M A t Q E s):wpAny M A t (fun a s'=>Q a s'/\CtxIs v e s'.heap) E s :=
 fun Γ p hΓ=>calm_wp h x (w Γ p hΓ)
theorem mild_field {i:Nat}{v:Value}(h:i≠2):Mild (Obj.mapFields (·.setIfInBounds i v)):=fun o vs hd =>
 ⟨_,Obj.data_mapFields hd _,by rw [Array.getElem?_setIfInBounds_ne h]⟩
theorem calm_fieldsOf {v:Value}:Calm (fieldsOf v):=by
 unfold fieldsOf
 split
 ·refine Calm.bind (Calm.load fun _=>.pure) fun o=>?_
  split
  ·exact .pure
  ·exact .unsupported
 ·exact .unsupported
theorem calm_field {v:Value}{i:Nat}:Calm (field v i):=by
 unfold field
 refine Calm.bind calm_fieldsOf fun vs=>?_
 split
 ·exact .pure
 ·exact .unsupported
theorem calm_setField {v x:Value}{i:Nat}(h:i≠2):Calm (setField v i x):=by
 unfold setField
 split
 ·unfold updateField
  refine Calm.bind (Calm.load fun _=>.pure) fun o=>?_
  split
  ·split
   ·exact Calm.update (mild_field h) fun _=>.pure
   ·exact .unsupported
  ·exact .unsupported
 ·exact .unsupported
theorem calm_setFlight {v:Value}{f:Option Addr}:Calm (setFlight v f):=by
 unfold setFlight
 refine Calm.bind calm_field fun tb=>?_
 split
 ·exact calm_setField (by decide)
 ·exact .pure
theorem calm_ready:∀ l:List Env,Calm (readyFrames l)
 | []=>.pure
 | env::outer=>by
  unfold readyFrames
  split
  ·refine Calm.bind (Calm.load fun _=>.pure) fun o=>?_
   split
   ·exact .pure
   ·refine Calm.bind ?_ fun b=>?_
    ·unfold behindIsImport
     split
     ·exact .pure
     ·split
      ·exact .pure
      ·exact Calm.bind calm_field fun _=>.pure
    ·refine Calm.bind ?_ fun k=>?_
     ·unfold keptBack
      split
      ·split
       ·exact .pure
       ·unfold underTheClaimsCaller
        exact Calm.bind (Calm.bind (Calm.stack fun _=>.pure) fun _=>.pure) fun _=>.pure
      ·exact .pure
     ·exact Calm.bind (Calm.update (fun o vs hd=>⟨vs,hd,rfl⟩) fun _=>.pure) fun _=>calm_ready outer
  ·exact .unsupported
theorem calm_frameOf {env:Env}:Calm (PySem.frameOf env):=by
 unfold PySem.frameOf
 refine Calm.bind ?_ fun l=>Calm.bind ?_ fun r=>?_
 ·unfold frameEnvs
  exact Calm.bind (Calm.stack fun _=>.pure) fun _=>.pure
 ·unfold frameObject
  split
  ·exact .pure
  ·exact Calm.bind (calm_ready _) fun _=>.pure
 ·split
  ·exact .pure
  ·exact .unsupported
theorem calm_newFields {T:String}{vs:List Value}:Calm (newFields T vs):=by
 unfold newFields newObj newObjAsIs
 dsimp only
 split
 ·exact Calm.bind .unsupported fun _=>Calm.bind (Calm.alloc fun _=>.pure) fun _=>.pure
 ·exact Calm.bind (Calm.alloc fun _=>.pure) fun _=>.pure
theorem calm_noteFrame {v:Value}{env:Env}:Calm (noteFrame v env):=by
 unfold noteFrame
 split
 ·refine Calm.bind calm_field fun hd=>?_
  have tail:∀ (f:Addr),Calm (do setField v 1 (←EntryCells.newEntry hd (←PySem.frameOf env) .none (rawInt f) .none (←entryPlaceOf f (hd != .none)))):=fun f=>by
   refine Calm.bind calm_frameOf fun fr=>Calm.bind ?_ fun pl=>Calm.bind ?_ fun en=>calm_setField (by decide)
   ·unfold entryPlaceOf
    refine Calm.bind (Calm.stack fun _=>.pure) fun acts=>?_
    split
    ·exact .pure
    ·exact .pure
   ·exact calm_newFields
  dsimp only
  split
  ·refine Calm.bind calm_field fun x=>?_
   split
   ·exact .pure
   ·exact Calm.bind (calm_setField (by decide)) fun _=>tail _
  ·exact tail _
 ·exact .unsupported
theorem calm_leaving {v:Value}{env:Env}:Calm (leaving env v):=by
 unfold leaving
 exact Calm.bind calm_noteFrame fun _=>calm_setFlight
end Mine
set_option maxRecDepth 100000
namespace Mine
open PySem
noncomputable def Ch (ea:Addr) (h:Heap):Prop:=NoCtx ea h\/∃ e1,CtxIs (.ref e1) ea h/\NoCtx e1 h
noncomputable def Qh (A:Around) (h:Heap):Prop:=A.handled=none\/∃ ea,A.handled=some (.ref ea)/\Ch ea h
theorem Ch.map {ea:Addr}{h h':Heap}(k:∀ v e,CtxIs v e h->CtxIs v e h') (x:Ch ea h):Ch ea h' :=
 x.imp (k _ _) fun q=>q.imp fun _ q=>⟨k _ _ q.1,k _ _ q.2⟩
theorem Qh.map {A:Around}{h h':Heap}(k:∀ v e,CtxIs v e h->CtxIs v e h') (x:Qh A h):Qh A h' :=
 x.imp id fun q=>q.imp fun _ q=>⟨q.1,q.2.map k⟩
theorem Qh.keeps {A:Around}{h h':Heap}(x:Qh A h) (k:∀ b o,h.get? b=some o->h'.get? b=some o):Qh A h':=x.map fun _ _ c=>c.keeps k
theorem Qh.update {A:Around}{h:Heap}{a:Addr}{f:Obj->Obj}(x:Qh A h) (hf:Mild f):Qh A (h.update a f):=x.map fun _ _ c=>c.update hf
theorem Qh.none {A:Around}{h:Heap}(x:A.handled=none):Qh A h:=.inl x
noncomputable def rzd (A:Around) (e:Addr) (h:Heap):Heap:=match A.handled with|none=>h|some v=>h.update e (Obj.mapFields (·.setIfInBounds 2 v))
theorem rzd_other {A:Around}{e b:Addr}{h:Heap}(n:e≠b):(rzd A e h).get? b=h.get? b:=by
 unfold rzd;split
 ·rfl
 ·exact Heap.get?_update_other _ _ n
theorem rzd_self {A:Around}{e:Addr}{h:Heap}{o:Obj}{vs:Array Value}(he:h.get? e=some o) (hd:o.data=.fields vs):∃ o' ws,(rzd A e h).get? e=some o'/\o'.cls=o.cls/\o'.data=.fields ws/\ws=(match A.handled with|none=>vs|some v=>vs.setIfInBounds 2 v):=by
 unfold rzd;split
 ·exact ⟨o,vs,he,rfl,hd,rfl⟩
 ·exact ⟨_,_,Heap.get?_update_self _ he (Obj.isFreed_of_fields (Obj.data_mapFields hd _)),Obj.cls_mapFields ..,Obj.data_mapFields hd _,rfl⟩
theorem entry_unchain:entryFor table "proto.unchain" = some Builtin.«proto.unchain»:=entryFor_of_tree (by kernel_rfl)
section
variable {prog:Program}{w:World}{A:Around}{E:Value->Shared->Prop}{s:Shared}
theorem raise_q {α:Type}{e:Addr}{o:Obj}{vs:Array Value}{h0:Heap}{Q:α->Shared->Prop}(q:Qh A h0) (k:∀ b o,h0.get? b=some o->s.heap.get? b=some o) (hn:h0.get? e=none) (he:s.heap.get? e=some o) (hd:o.data=.fields vs) (hz:2<vs.size)
  (hE:E (.ref e) { s with heap:=rzd A e s.heap }):wpAny (model prog w) A (raiseNew (.ref e):Sem α) Q E s:=by
 unfold raiseNew
 refine wpAny_bind (wpAny_handled ?_)
 unfold rzd at hE
 have ne:∀ {v:Value}{b:Addr},CtxIs v b h0->b≠e:=fun c z=>by
  subst z
  exact x2_3 c fun o vs h1 _ _=>by rw [hn] at h1;cases h1
 rcases q with q|⟨ea,q,c⟩
 ·rw [q] at hE ⊢
  exact wpAny_bind (wpAny_pure (wpAny_throw hE))
 rw [q] at hE ⊢
 dsimp only at hE ⊢
 have b:∀ {v:Value}{b:Addr},CtxIs v b h0->(Value.ref b != Value.ref e)=true:=fun c=>by simpa using ne c
 have b0:(Value.ref ea != Value.ref e)=true:=c.elim b fun c=>x1_2 c fun _ c _=>b c
 rw [if_pos b0]
 have tail:wpAny (model prog w) A (do updateField e 2 (Value.ref ea);throw (Value.ref e):Sem α) Q E s :=
  wpAny_bind (wpAny_setField (a:=e) he hd hz (wpAny_throw hE))
 refine wpAny_bind (wpAny_holding (wpAny_runValue (codeAny_builtin entry_unchain ?_)))
 show wpAny _ _ (field (.ref ea) 2 >>= _) _ _ s
 rcases c with c|⟨e1,c,c1⟩
 ·refine x2_3 (c.keeps k) fun oe ws h1 h2 h3=>?_
  refine wpAny_bind (wpAny_field h1 h2 h3 ?_)
  rw [if_pos (by decide)]
  refine wpAny_bind (wpAny_pure (wpAny_pure ?_))
  exact tail
 ·have n1:e1≠ea:=fun z=>by
   subst z
   refine x2_3 c fun o1 v1 a1 a2 a3=>x2_3 c1 fun o2 v2 b1 b2 b3=>?_
   rw [a1] at b1;cases b1;rw [a2] at b2;cases b2;rw [a3] at b3;cases b3
  refine x2_3 (c.keeps k) fun oe ws h1 h2 h3=>x2_3 (c1.keeps k) fun oe' ws' i1 i2 i3=>?_
  refine wpAny_bind (wpAny_field h1 h2 h3 ?_)
  rw [if_neg (by simp),if_neg (by simpa using ne c1),if_neg (by simpa using n1)]
  refine wpAny_bind (wpAny_pure (wpAny_pure ?_))
  refine ⟨Code.quiet_builtin _ (by decide +kernel),codeAny_builtin entry_unchain ?_⟩
  show wpAny _ _ (field (.ref e1) 2 >>= _) _ _ s
  refine wpAny_bind (wpAny_field i1 i2 i3 ?_)
  rw [if_pos (by decide)]
  refine wpAny_bind (wpAny_pure (wpAny_pure ?_))
  exact tail
theorem stop_q {α:Type}{Q:α->Shared->Prop}(q:Qh A s.heap) (hE:∀ h' x,(∀ b o,s.heap.get? b=some o->h'.get? b=some o)->(∃ o,h'.get? x=some o/\o.cls=.type "StopIteration")->E (.ref x) { s with heap:=h' }) :
  wpAny (model prog w) A (newExc (.type "StopIteration") [] >>= fun e=>(raiseNew e:Sem α)) Q E s:=by
 refine wpAny_bind ?_
 simp only [newExc,newTuple]
 refine wpAny_bind (wpAny_newObj_type ?_ (by size_fits))
 refine wpAny_bind (m:=firstArgMember _ _) (wpAny_of_eq (a:=Value.none) (by first|rfl|(simp only [firstArgMember];rfl)) ?_)
 refine wpAny_newObj_type ?_ (by size_fits)
 have k:∀ b o,s.heap.get? b=some o->((s.heap.push { cls:=.type "tuple",data:=.seq #[] }).push { cls:=.type "StopIteration",data:=.fields #[.ref s.heap.objs.size,.none,.none,.none,.bool false,.none] }).get? b=some o:=fun b o e=>Heap.get?_push_of_some _ (Heap.get?_push_of_some _ e)
 have lt:∀ {b o},s.heap.get? b=some o->(s.heap.push { cls:=.type "tuple",data:=.seq #[] }).objs.size≠b:=fun e=>Nat.ne_of_gt (Heap.lt_size (Heap.get?_push_of_some { cls:=.type "tuple",data:=.seq #[] } e))
 refine raise_q (h0:=s.heap) q k ?_ (Heap.get?_push_size _ rfl) rfl (by simp;(first|lia|omega)) ?_
 ·cases z:s.heap.get? _ with
  | none=>rfl
  | some o=>exact absurd rfl (lt z)
 ·refine hE _ _ (fun b o e=>(rzd_other (lt e)).trans (k b o e)) ?_
  exact x2_3 (rzd_self (A:=A) (Heap.get?_push_size _ rfl) rfl) fun o' ws h1 h2 _=>⟨o',h1,h2⟩
theorem list_end {it l:Addr}{i:Nat}{items:Array Value}{Q:Option Value->Shared->Prop}(q:Qh A s.heap) (hit:s.heap.IsListIter it l i) (hl:s.heap.IsList l items) (hx:items[i]?=none)
  (hQ:∀ h',Heap.ExtBut it s.heap h'->Q none { s with heap:=h' }):wpAny (model prog w) A (pyNext (.ref it)) Q E s:=by
 refine x1_3 (id hit) fun o ho hc hd=>x1_3 hl fun ol hol _ q3=>q3.elim fun nl hdl=>?_
 unfold pyNext
 refine wpAny_bind (wpAny_attempt (wpAny_callSpecial?_slot (name:=Str.ofString "__next__") hit.typeIs slot_listiter_next (wpAny_call_entry slot_listiter_next hit.typeIs entry_listiter_next ?_ (args_listiter_next _))))
 show wpAny _ _ (field (.ref it) 0 >>= _) _ _ s
 refine wpAny_bind (wpAny_field ho hd (x:=.ref l) rfl ?_)
 show wpAny _ _ (if (Value.ref l == Value.none)=true then _ else _) _ _ s
 rw [if_neg (show ¬ ((Value.ref l == Value.none)=true) from Bool.false_ne_true)]
 show wpAny _ _ (field (.ref it) 1 >>= _) _ _ s
 refine wpAny_bind (wpAny_field ho hd (x:=.int i 0) rfl (wpAny_bind (wpAny_seqItems hol hdl ?_)))
 simp only [Int.toNat_natCast,hx]
 refine wpAny_bind (wpAny_rule (wpAny_bind (wpAny_setField ho hd (by simp) ?_)))
 refine stop_q (A:=A.in1) (Qh.update (A:=A) q (mild_field (by decide))) fun h' x k st=>?_
 refine wpAny_bind (wpAny_isInstance (T := "StopIteration") (b:=true) st isSubtype_stop ?_)
 exact wpAny_pure (hQ _ fun b o' hb eb=>k b o' ((Heap.get?_update_other _ _ (Ne.symm hb)).trans eb))
theorem tup_end {it t:Addr}{i:Nat}{items:Array Value}{Q:Option Value->Shared->Prop}(q:Qh A s.heap) (hit:s.heap.IsTupleIter it t i) (ht:s.heap.IsTuple t items) (hx:items[i]?=none)
  (hQ:∀ h',Heap.ExtBut it s.heap h'->Q none { s with heap:=h' }):wpAny (model prog w) A (pyNext (.ref it)) Q E s:=by
 refine x1_3 (id hit) fun o ho hc hd=>x1_3 ht fun ol hol _ q3=>q3.elim fun nl hdl=>?_
 unfold pyNext
 refine wpAny_bind (wpAny_attempt (wpAny_callSpecial?_slot (name:=Str.ofString "__next__") hit.typeIs F.slot_tuple_iterator_next
  (wpAny_call_entry F.slot_tuple_iterator_next hit.typeIs F.entry_tuple_iterator_next ?_ (F.args_tuple_iterator_next_1 _))))
 show wpAny _ _ (field (.ref it) 0 >>= _) _ _ s
 refine wpAny_bind (wpAny_field ho hd (x:=.ref t) rfl ?_)
 show wpAny _ _ (if (Value.ref t == Value.none)=true then _ else _) _ _ s
 rw [if_neg (show ¬ ((Value.ref t == Value.none)=true) from Bool.false_ne_true)]
 show wpAny _ _ (field (.ref it) 1 >>= _) _ _ s
 refine wpAny_bind (wpAny_field ho hd (x:=.int i 0) rfl ?_)
 show wpAny _ _ (seqItems? (.ref t) >>= _) _ _ s
 refine wpAny_bind (wpAny_seqItems hol hdl ?_)
 simp only [Int.toNat_natCast,hx]
 refine wpAny_bind (wpAny_rule (wpAny_bind (wpAny_setField ho hd (by simp) ?_)))
 refine stop_q (A:=A.in1) (Qh.update (A:=A) q (mild_field (by decide))) fun h' x k st=>?_
 refine wpAny_bind (wpAny_isInstance (T := "StopIteration") (b:=true) st isSubtype_stop ?_)
 exact wpAny_pure (hQ _ fun b o' hb eb=>k b o' ((Heap.get?_update_other _ _ (Ne.symm hb)).trans eb))
theorem unpack_q {env:Env}{elts:List Expr} {x1}{pos:Pos}{t:Addr}{items:Array Value}{Q:Unit->Shared->Prop}(q:Qh A s.heap) (ht:PyProof.Rows.IsTup s.heap t items)
  (hn:(assignEach elts env).length=items.size) (hstar:(assignEach elts env).findIdx? (·.1)=none)
  (h:∀ h',Heap.ExtBut s.heap.objs.size s.heap h'->wpAny (model prog w) A (assignInOrder ((assignEach elts env).map (·.2)) items.toList) Q E { s with heap:=h' }) :
  wpAny (model prog w) A (assign (.Tuple elts x1 pos) env (.ref t)) Q E s:=by
 have hlt:t≠s.heap.objs.size:=x1_3 ht fun o ho _ _=>Nat.ne_of_lt (Heap.lt_size ho)
 rw [PyProof.Rows.assign_Tuple]
 refine wpAny_bind (wpAny_standAt ?_)
 unfold PySem.unpack
 rw [hn,hstar]
 refine wpAny_bind (wpAny_holding ?_)
 unfold unpackItems
 refine wpAny_bind ?_
 unfold notIterableAtAll
 refine wpAny_bind (wpAny_specialOf ht.typeIs PyProof.Rows.slot_tuple_iter.lookup ?_)
 refine wpAny_pure ?_
 simp only [Bool.false_eq_true,if_false]
 refine wpAny_bind (wpAny_holding (PyProof.Rows.iter_tuple ht ?_))
 refine wpAny_bind (wpAny_holding (PyProof.Rows.draw_tuple hlt items.size 0 _ _ ⟨_,Heap.get?_push_size _ rfl,rfl,rfl⟩ (ht.push _) (by (first|lia|omega)) fun h₁ hit₁ hs₁=>?_))
 have hall:List.take items.size (List.drop 0 items.toList)=items.toList:=by
  rw [List.drop_zero];exact List.take_of_length_le (by simp)
 rw [hall]
 rw [if_neg (by simp)]
 have ht₁:PyProof.Rows.IsTup h₁ t items:=(ht.push _).extBut hs₁.extBut hlt
 have k₁:∀ b o,s.heap.get? b=some o->h₁.get? b=some o:=fun b o e=>hs₁.extBut b o (Nat.ne_of_lt (Heap.lt_size e)) (Heap.get?_push_of_some _ e)
 refine wpAny_bind (wpAny_holding (tup_end (s:={ s with heap:=h₁ }) (q.keeps k₁) hit₁ ht₁ (by simp) fun h₂ he₂=>?_))
 simp only [Option.isSome_none,Bool.false_eq_true,if_false]
 exact wpAny_pure (h h₂ fun b o hb e=>he₂ b o hb (hs₁.extBut b o hb (Heap.get?_push_of_some _ e)))
theorem Qh.list {h0:Heap}(q:Qh A h0):∃ cs:List Addr,(∀ b∈cs,h0.get? b≠Option.none)/\∀ h',(∀ b∈cs,∀ o,h0.get? b=some o->h'.get? b=some o)->Qh A h':=by
 have th:∀ {v:Value}{b:Addr},CtxIs v b h0->h0.get? b≠Option.none:=fun c z=>x2_3 c fun o vs h1 _ _=>by rw [z] at h1;cases h1
 have mv:∀ {v:Value}{b:Addr}{h':Heap},CtxIs v b h0->(∀ o,h0.get? b=some o->h'.get? b=some o)->CtxIs v b h':=fun c k=>x2_3 c fun o vs h1 h2 h3=>⟨o,vs,k o h1,h2,h3⟩
 rcases q with q|⟨ea,q,c|⟨e1,c,c1⟩⟩
 ·exact ⟨[],(fun _ h=>by cases h),fun _ _=>.inl q⟩
 ·exact ⟨[ea],fun b hb=>by rw [List.mem_singleton.mp hb];exact th c,fun h' k=>.inr ⟨ea,q,.inl (mv c (k ea (List.mem_singleton.mpr rfl)))⟩⟩
 ·refine ⟨[ea,e1],fun b hb=>?_,fun h' k=>.inr ⟨ea,q,.inr ⟨e1,mv c (k ea (by simp)),mv c1 (k e1 (by simp))⟩⟩⟩
  rcases List.mem_cons.mp hb with z|z
  ·rw [z];exact th c
  ·rw [List.mem_singleton.mp z];exact th c1
theorem walks_q {h0:Heap}{cs:List Addr}(I ax:Addr) (hne:ax≠I) (hI:h0.get? I=none) (hc:∀ b∈cs,h0.get? b≠Option.none) (hq:∀ h',(∀ b∈cs,∀ o,h0.get? b=some o->h'.get? b=some o)->Qh A h') (items:Array Value) :
  Walks prog w A I (I::ax::cs) [I] items.size (fun i v=>items[i]?=some v) (fun i h=>(h.IsListIter I ax i/\h.IsList ax items)/\∀ b∈cs,∀ o,h0.get? b=some o->h.get? b=some o) where
 sub:=fun b hb=>by rw [List.mem_singleton.mp hb];exact List.mem_cons_self ..
 frame:=fun _ _ _ st hk=>⟨⟨st.1.1.at fun o e=>hk I (by simp) o e,st.1.2.at fun o e=>hk ax (by simp) o e⟩,fun b hb o e=>hk b (List.mem_cons_of_mem _ (List.mem_cons_of_mem _ hb)) o (st.2 b hb o e)⟩
 item:=fun i s Q E hi st hQ=>by
  refine wpAny_pyNext_list_item st.1.1 st.1.2 (x:=items[i]) (by simp [hi]) fun h' hit' hs'=>?_
  exact hQ _ h' s.toks (by simp [hi]) ⟨⟨hit',st.1.2.extBut hs'.extBut hne⟩,fun b hb o e=>hs'.extBut b o (fun z=>hc b hb (z▸hI)) (st.2 b hb o e)⟩ fun b o hb e=>hs'.extBut b o (fun h=>hb (by simp [h])) e
 done:=fun s Q E st hQ=>list_end (hq _ st.2) st.1.1 st.1.2 (by simp) fun h' he'=>hQ h' s.toks fun b o hb e=>he' b o (fun h=>hb (by simp [h])) e
 self:=fun _ _ _ _ st hQ=>wpAny_pyIter_listiter st.1.1 hQ
end
noncomputable def Fly (base:Heap) (l:List Env) (e:Addr) (cls:Value) (h:Heap):Prop :=
 ∃ a0 fl,base.StaysIn h/\base.get? e=none/\h.FunFrames base l/\h.TracedAtW base e cls a0 fl
theorem Fly.of {base h:Heap}{l:List Env}{e:Addr}{cls a0:Value}(x:Heap.FlyingW base l e cls a0 h):Fly base l e cls h:=⟨a0,.none,x.1,x.2.1,x.2.2.1,x.2.2.2⟩
theorem Fly.stays {base h:Heap}{l:List Env}{e:Addr}{cls:Value}(x:Fly base l e cls h):base.StaysIn h:=x2_2 x fun _ _ h _=>h
theorem Fly.base {base B h:Heap}{l:List Env}{e:Addr}{cls:Value}(x:Fly B l e cls h) (k:base.StaysIn B):Fly base l e cls h:=by
 have fr:∀ {b:Addr},B.get? b=none->base.get? b=none:=fun {b} e=>by
  cases q:base.get? b with
  | none=>rfl
  | some o=>have:=k b o q;rw [e] at this;cases this
 have ff:∀ {l:List Env},h.FunFrames B l->h.FunFrames base l:=fun {l}=>by
  induction l with
  | nil=>intro _;trivial
  | cons en r ih=>rintro ⟨hk,⟨L,o,hf,hn,ho,hd⟩,hr⟩;exact ⟨hk,⟨L,o,hf,fr hn,ho,hd⟩,ih hr⟩
 obtain ⟨a0,fl,f1,f2,f3,oe,vs,T,oT,ts,a1,a2,a3,a4,a5,a6⟩:=x
 exact ⟨a0,fl,fun b o q=>f1 b o (k b o q),fr f2,ff f3,oe,vs,T,oT,ts,a1,a2,a3,a4,fr a5,a6⟩
theorem Fly.off {base h h':Heap}{l:List Env}{e C:Addr}{cls:Value}(x:Fly base l e cls h) (k:∀ b o,b≠C->h.get? b=some o->h'.get? b=some o) (hb:base.get? C=none) (hC:∃ o es n,h.get? C=some o/\o.data=.dict es n) (nl:C∉l.filterMap (·.frame)):Fly base l e cls h':=by
 obtain ⟨a0,fl,f1,f2,f3,oe,vs,T,oT,ts,a1,a2,a3,a4,a5,a6,a7,a8,a9⟩:=x
 have ne:∀ {b:Addr}{o:Obj}{ws:Array Value},h.get? b=some o->o.data=.fields ws->b≠C:=fun {b o ws} q1 q2 z=>by
  subst z
  refine x3_2 hC fun o' es n q3 q4=>?_
  rw [q1] at q3;cases q3;rw [q2] at q4;cases q4
 have ff:∀ {l:List Env},C∉l.filterMap (·.frame)->h.FunFrames base l->h'.FunFrames base l:=fun {l}=>by
  induction l with
  | nil=>intro _ _;trivial
  | cons en r ih =>
   rintro nl ⟨hk,⟨L,o,hf,hn,ho,hd⟩,hr⟩
   rw [List.filterMap_cons,hf] at nl
   exact ⟨hk,⟨L,o,hf,hn,k L o (fun z=>nl (z▸List.mem_cons_self ..)) ho,hd⟩,ih (fun m=>nl (List.mem_cons_of_mem _ m)) hr⟩
 exact ⟨a0,fl,fun b o q=>k b o (fun z=>by rw [z,hb] at q;cases q) (f1 b o q),f2,ff nl f3,oe,vs,T,oT,ts,k _ _ (ne a1 a3) a1,a2,a3,a4,a5,a6,k _ _ (ne a7 a8) a7,a8,a9⟩
theorem noteFrame_congr {e:Value}{env env':Env}(h:env.frame=env'.frame):noteFrame e env=noteFrame e env':=by
 unfold noteFrame PySem.frameOf
 rw [h]
section
variable {M:Model}{A:Around}{E:Value->Shared->Prop}{s:Shared}
theorem looks_fly {base:Heap}{env:Env}{outer:List Env}{L e:Addr}{cls:Value}{Q:Unit->Shared->Prop}(hfr:A.frames=some (env::outer)) (hf:env.frame=some L) (hfl:Fly base (env::outer) e cls s.heap)
  (hQ:∀ a0 h',Heap.HeldW base (env::outer) e cls a0 L h'->s.heap.UpToSlots h'->Q () { s with heap:=h' }):wpAny M A (noteFrame (.ref e) env) Q E s:=by
 obtain ⟨a0,fl,hkb,hen,hl,oe,vs,T,oT,ts,he,⟨hcls,h0⟩,hd,h1,hnT,hTe,hT,hdT,h3⟩:=hfl
 subst hcls
 unfold noteFrame
 simp only [hf]
 refine wpAny_bind (wpAny_field he hd h1 ?_)
 rw [if_pos (show (Value.ref T != Value.none)=true from by simp)]
 refine wpAny_bind (wpAny_field hT hdT h3 ?_)
 by_cases z:(fl == rawInt L)=true
 ·rw [if_pos z]
  have z:=beq_iff_eq.mp z
  subst z
  exact wpAny_pure (hQ a0 _ ⟨hkb,hen,hl,oe,vs,T,oT,ts,he,⟨rfl,h0⟩,hd,h1,hnT,hTe,hT,hdT,h3⟩ (Heap.UpToSlots.refl _))
 rw [if_neg z]
 refine wpAny_bind (wpAny_setField hT hdT (Array.getElem?_eq_some_iff.mp h3).1 ?_)
 have other:∀ b,b≠T->(s.heap.update T (Obj.mapFields (·.setIfInBounds 3 Value.none))).get? b=s.heap.get? b:=fun b hb=>Heap.get?_update_other _ _ (Ne.symm hb)
 have noRecord:∀ b o,s.heap.get? b=some o->(∀ vs,o.data≠.fields vs)->b≠T:=fun b o hb hnf q=>by
  rw [q,hT] at hb;injection hb with hb;subst hb;exact hnf ts hdT
 refine wpAny_entryW hfr (hl.of_keeps fun b o hb hnf=>⟨o,(other b (noRecord b o hb hnf)).trans hb,rfl⟩) hf ((other e (Ne.symm hTe)).trans he)
  (fun b o hbo=>(other b fun q=>by rw [q,hnT] at hbo;cases hbo).trans (hkb b o hbo)) hen hd (Array.getElem?_eq_some_iff.mp h1).1 h0
  fun h' ⟨x1,x2,x3,x4⟩=>hQ a0 h' ⟨x1,hen,x2,x3⟩ fun b o hb hnf=>x4 b o ((other b (noRecord b o hb hnf)).trans hb) hnf
theorem leaves_fly {base:Heap}{env:Env}{outer:List Env}{L e:Addr}{cls:Value}{Q:Unit->Shared->Prop}(hfr:A.frames=some (env::outer)) (hf:env.frame=some L) (hfl:Fly base (env::outer) e cls s.heap)
  (hQ:∀ h',Fly base outer e cls h'->s.heap.UpToSlots h'->Q () { s with heap:=h' }):wpAny M A (leaving env (.ref e)) Q E s:=by
 unfold leaving
 refine wpAny_bind (looks_fly hfr hf hfl fun a0 h' hh up=>?_)
 refine wpAny_landsW (s:={ s with heap:=h' }) hh fun h'' fl up'=>?_
 obtain ⟨k1,k2,⟨_,_,k3⟩,k4⟩:=fl
 exact hQ h'' (Fly.of ⟨k1,k2,k3,k4⟩) (up.trans up')
theorem pass_fly {α:Type}{what:String}{base:Heap}{env:Env}{l:List Env}{e:Addr}{cls v:Value}{Q:α->Shared->Prop}(hfl:Fly base l e cls s.heap) (nc:CtxIs v e s.heap)
  (hE:∀ h',Fly base l e cls h'->CtxIs v e h'->s.heap.UpToSlots h'->E (.ref e) { s with heap:=h' }):wpAny M A (passOn what (.ref e) env:Sem α) Q E s:=by
 obtain ⟨a0,fl,hkb,hen,hl,oe,vs,T,oT,ts,he,hc,hd,h1,hnT,hTe,hT,hdT,h3⟩:=hfl
 have hsz3:3<ts.size:=(Array.getElem?_eq_some_iff.mp h3).1
 have other:∀ (x:Value) b,b≠T->(s.heap.update T (Obj.mapFields (·.setIfInBounds 3 x))).get? b=s.heap.get? b:=fun x b hb=>Heap.get?_update_other _ _ (Ne.symm hb)
 have noRecord:∀ b o,s.heap.get? b=some o->(∀ vs,o.data≠.fields vs)->b≠T:=fun b o hb hnf q=>by
  rw [q,hT] at hb;injection hb with hb;subst hb;exact hnf ts hdT
 unfold passOn
 refine wpAny_bind (wpAny_field he hd h1 ?_)
 rw [if_neg (show ¬ ((Value.ref T == Value.none)=true) from by simp)]
 refine wpAny_bind ?_
 unfold setFlight
 refine wpAny_bind (wpAny_field he hd h1 ?_)
 rw [if_pos (show (Value.ref T != Value.none)=true from by simp)]
 refine wpAny_setField hT hdT hsz3 (wpAny_throw (hE _ ⟨a0,_,fun b o hbo=>(other _ b fun q=>by rw [q,hnT] at hbo;cases hbo).trans (hkb b o hbo),hen,hl.of_keeps fun b o hb hnf=>⟨o,(other _ b (noRecord b o hb hnf)).trans hb,rfl⟩,
  oe,vs,T,_,_,(other _ e (Ne.symm hTe)).trans he,hc,hd,h1,hnT,hTe,Heap.get?_update_self _ hT (Obj.isFreed_of_fields (Obj.data_mapFields hdT _)),Obj.data_mapFields hdT _,by simp [hsz3];rfl⟩ (nc.update (mild_field (by decide))) fun b o hb hnf=>⟨o.slots,(other _ b (noRecord b o hb hnf)).trans hb⟩))
end
end Mine
namespace Mine
open PySem
inductive AV where
 | none
 | bool (b:Bool)
 | int (i:Int)
 | str (x:Str)
 | tup (l:List AV)
 | ref (i:Nat)
 | fro (l:List AV)
 deriving Inhabited
inductive AObj where
 | list (l:List AV)
 | dict (l:List (Int×AV))
 deriving Inhabited
abbrev Hp:=List AObj
abbrev Loc:=List (Option AV)
theorem gl {p:Prop}(h:∀ G:Prop,(p->G)->G):p:=h p id
noncomputable def PTup (h:Heap) (a:Addr) (vs:Array Value):Prop:=∃ n dd sl,h.get? a=some { cls:=.type "tuple",dict:=dd,data:=.seq vs n,slots:=sl }
theorem PTup.isTup {h:Heap}{a:Addr}{vs:Array Value}(x:PTup h a vs):PyProof.Rows.IsTup h a vs:=let ⟨n,_,_,e⟩:=x;⟨_,e,rfl,n,rfl⟩
theorem PTup.of {h:Heap}{a:Addr}{vs:Array Value}(x:PyProof.Rows.IsTup h a vs):PTup h a vs:=by
 refine x1_3 (x) fun qQ0 e c1 qQ3=>?_
 clear x
 obtain ⟨c,dd,dt,sl⟩:=qQ0
 refine x1_1 (qQ3) fun n d1=>?_
 clear qQ3
 simp only at c1 d1
 subst c1;subst d1
 exact ⟨n,dd,sl,e⟩
theorem PTup.new (h:Heap) (vs:Array Value):PTup (h.push { cls:=.type "tuple",data:=.seq vs }) h.objs.size vs:=⟨0,_,_,Heap.get?_push_size _ rfl⟩
theorem PTup.push {h:Heap}{a:Addr}{vs:Array Value}(x:PTup h a vs) (o:Obj):PTup (h.push o) a vs:=let ⟨n,dd,sl,e⟩:=x;⟨n,dd,sl,Heap.get?_push_of_some o e⟩
mutual
noncomputable def VR (B h:Heap) (ι:List Addr):AV->Value->Prop
 | .none,v=>v=.none
 | .bool b,v=>v=.bool b
 | .int i,v=>∃ t,v=.int i t
 | .str x,v=>PyData.strOk x=true/\∃ t,v=.str x t
 | .tup l,v=>∃ a vs,v=.ref a/\PTup h a (List.toArray vs)/\VRs B h ι l vs
 | .ref i,v=>∃ a,v=.ref a/\ι[i]?=some a
 | .fro l,v=>∃ a vs,v=.ref a/\B.IsList a (List.toArray vs)/\VRs B h ι l vs
noncomputable def VRs (B h:Heap) (ι:List Addr):List AV->List Value->Prop
 | [],vs=>vs=[]
 | d::ds,vs=>∃ v r,vs=v::r/\VR B h ι d v/\VRs B h ι ds r
end
noncomputable def ERs (B h:Heap) (ι:List Addr):List (Int×AV)->List DictEntry->Prop
 | [],es=>es=[]
 | (k,d)::r,es=>∃ t v es',es=⟨hashInt k,.int k t,v⟩::es'/\VR B h ι d v/\ERs B h ι r es'
noncomputable def OR (B h:Heap) (ι:List Addr) (a:Addr):AObj->Prop
 | .list l=>∃ vs,h.PlainList a (List.toArray vs)/\VRs B h ι l vs
 | .dict l=>(a == sysModules)=false/\(l.map (·.1)).Nodup/\∃ es n,h.get? a=some { cls:=.type "dict",data:=.dict (List.toArray es) n }/\ERs B h ι l es
noncomputable def Kept (S:List Addr) (h h':Heap):Prop :=
 ∀ a o,h.get? a=some o->a∉S->∃ sl,h'.get? a=some { o with slots:=sl }/\((∀ es n,o.data≠.dict es n)->sl=o.slots)
structure HR (B:Heap) (ι:List Addr) (H:Hp) (h:Heap):Prop where
 base:B.StaysIn h
 fresh:∀ a∈ι,B.get? a=Option.none
 nodup:ι.Nodup
 len:ι.length=H.length
 objs:∀ (i:Nat) (o:AObj),H[i]?=some o->∃ a,ι[i]?=some a/\OR B h ι a o
theorem Kept.refl (S:List Addr) (h:Heap):Kept S h h:=fun _ o e _=>⟨o.slots,e,fun _=>rfl⟩
theorem Kept.of_keeps {S:List Addr}{h h':Heap}(k:∀ b o,b∉S->h.get? b=some o->h'.get? b=some o):Kept S h h' :=
 fun a o e hn=>⟨o.slots,k a o hn e,fun _=>rfl⟩
theorem Kept.trans {S:List Addr}{h₁ h₂ h₃:Heap}(x:Kept S h₁ h₂) (y:Kept S h₂ h₃):Kept S h₁ h₃:=fun a o e hn=>by
 refine x1_2 (x a o e hn) fun sl e1 q1=>?_
 refine x1_2 (y a _ e1 hn) fun sl' e2 q2=>?_
 exact ⟨sl',e2,fun c=>(q2 c).trans (q1 c)⟩
theorem Kept.mono {S T:List Addr}{h h':Heap}(x:Kept S h h') (s:∀ a∈S,a∈T):Kept T h h':=fun a o e hn=>x a o e fun q=>hn (s a q)
theorem Kept.exact {S:List Addr}{h h':Heap}(x:Kept S h h'){a:Addr}{o:Obj}(e:h.get? a=some o) (hn:a∉S) (hc:∀ es n,o.data≠.dict es n):h'.get? a=some o:=by
 refine x1_2 (x a o e hn) fun sl e1 q1=>?_
 rw [e1,q1 hc]
theorem Kept.data {S:List Addr}{h h':Heap}(x:Kept S h h'){a:Addr}{o:Obj}(e:h.get? a=some o) (hn:a∉S):∃ o',h'.get? a=some o'/\o'.data=o.data/\o'.cls=o.cls:=by
 refine x1_2 (x a o e hn) fun sl e1 _=>?_
 exact ⟨_,e1,rfl,rfl⟩
noncomputable def NoTup (S:List Addr) (h:Heap):Prop:=∀ a∈S,∀ vs,¬ PyProof.Rows.IsTup h a vs
theorem istup_kept {S:List Addr}{h h':Heap}(x:Kept S h h') (nt:NoTup S h){a:Addr}{vs:Array Value}(t:PTup h a vs):PTup h' a vs:=by
 have hn:a∉S:=fun q=>nt a q vs t.isTup
 refine x3_1 (t) fun n dd sl e=>?_
 clear t
 exact ⟨n,dd,sl,x.exact e hn fun _ _ q=>by cases q⟩
theorem pre_get {ι ι':List Addr}(p:ι<+:ι'){i:Nat}{a:Addr}(e:ι[i]?=some a):ι'[i]?=some a:=by
 refine x1_1 (p) fun t eQ1=>?_
 clear p
 subst eQ1
 rw [List.getElem?_append_left]
 ·exact e
 ·exact (List.getElem?_eq_some_iff.mp e).1
mutual
theorem VR.mono {B h h':Heap}{ι ι' S:List Addr}(x:Kept S h h') (nt:NoTup S h) (p:ι<+:ι'):∀ (d:AV) (v:Value),VR B h ι d v->VR B h' ι' d v
 | .none,_,q=>q
 | .bool _,_,q=>q
 | .int _,_,q=>q
 | .str _,_,q=>q
 | .tup l,v,q=>by
  unfold VR at q ⊢
  refine x2_3 (q) fun a vs e t r=>?_
  clear q
  exact ⟨a,vs,e,istup_kept x nt t,VRs.mono x nt p l vs r⟩
 | .ref i,v,q=>by
  unfold VR at q ⊢
  refine x1_2 (q) fun a e g=>?_
  clear q
  exact ⟨a,e,pre_get p g⟩
 | .fro l,v,q=>by
  unfold VR at q ⊢
  refine x2_3 (q) fun a vs e t r=>?_
  clear q
  exact ⟨a,vs,e,t,VRs.mono x nt p l vs r⟩
theorem VRs.mono {B h h':Heap}{ι ι' S:List Addr}(x:Kept S h h') (nt:NoTup S h) (p:ι<+:ι'):∀ (l:List AV) (vs:List Value),VRs B h ι l vs->VRs B h' ι' l vs
 | [],_,q=>q
 | d::ds,vs,q=>by
  unfold VRs at q ⊢
  refine x2_3 (q) fun v r e a b=>?_
  clear q
  exact ⟨v,r,e,VR.mono x nt p d v a,VRs.mono x nt p ds r b⟩
end
theorem ERs.mono {B h h':Heap}{ι ι' S:List Addr}(x:Kept S h h') (nt:NoTup S h) (p:ι<+:ι'):∀ (l:List (Int×AV)) (es:List DictEntry),ERs B h ι l es->ERs B h' ι' l es
 | [],_,q=>q
 | (k,d)::ds,vs,q=>by
  unfold ERs at q ⊢
  refine x3_3 (q) fun t v r e a b=>?_
  clear q
  exact ⟨t,v,r,e,VR.mono x nt p d v a,ERs.mono x nt p ds r b⟩
theorem OR.mono {B h h':Heap}{ι ι' S:List Addr}(x:Kept S h h') (nt:NoTup S h) (p:ι<+:ι'){a:Addr}{o:AObj}(ex:∀ o,h.get? a=some o->h'.get? a=some o) (q:OR B h ι a o):OR B h' ι' a o:=by
 cases o with
 | list l =>
  refine x1_2 (q) fun vs qQ1 r=>?_
  clear q
  refine x1_1 (qQ1) fun n e=>?_
  clear qQ1
  exact ⟨vs,⟨n,ex _ e⟩,VRs.mono x nt p l vs r⟩
 | dict l =>
  refine x0_3 (q) fun hm nd qQ2=>?_
  clear q
  refine x2_2 (qQ2) fun es n e r=>?_
  clear qQ2
  exact ⟨hm,nd,es,n,ex _ e,ERs.mono x nt p l es r⟩
theorem OR.cls {B h:Heap}{ι:List Addr}{a:Addr}{o:AObj}(q:OR B h ι a o):∃ x,h.get? a=some x/\x.cls≠.type "tuple" := by
 cases o with
 | list l=>exact q.elim fun _ z=>z.1.elim fun _ e=>⟨_,e,by simp⟩
 | dict l=>exact q.2.2.elim fun _ z=>z.elim fun _ e=>⟨_,e.1,by simp⟩
theorem HR.noTup {B:Heap}{ι:List Addr}{H:Hp}{h:Heap}(q:HR B ι H h):NoTup ι h:=by
 intro a ha vs t
 refine x1_1 (List.getElem_of_mem ha) fun i qQ1=>?_
 obtain ⟨hi,rfl⟩:=qQ1
 have hl:i<H.length:=q.len▸hi
 refine x1_2 (q.objs i H[i] (List.getElem?_eq_getElem hl)) fun b eb o=>x1_2 o.cls fun x e hc=>x1_2 t fun o' e' c=>?_
 have:=Option.some.inj ((List.getElem?_eq_getElem hi).symm.trans eb)
 rw [←this] at e
 exact hc (Option.some.inj (e.symm.trans e')▸c.1)
structure Post (B:Heap) (ι:List Addr) (s:Shared) (ι':List Addr) (H':Hp) (s':Shared):Prop where
 pre:ι<+:ι'
 hr:HR B ι' H' s'.heap
 kept:Kept ι s.heap s'.heap
 new:∀ a∈ι',a∈ι\/s.heap.get? a=Option.none
 same:s'.gens=s.gens/\s'.os=s.os
theorem Post.refl {B:Heap}{ι:List Addr}{H:Hp}{s:Shared}(q:HR B ι H s.heap) (t:Nat):Post B ι s ι H { s with toks:=t } :=
 ⟨List.prefix_refl _,q,Kept.refl _ _,fun _ h=>.inl h,rfl,rfl⟩
theorem Post.id {B:Heap}{ι:List Addr}{H:Hp}{s:Shared}(q:HR B ι H s.heap):Post B ι s ι H s:=Post.refl q s.toks
theorem Post.trans {B:Heap}{ι ι₁ ι₂:List Addr}{s s₁ s₂:Shared}{H₁ H₂:Hp}(x:Post B ι s ι₁ H₁ s₁) (y:Post B ι₁ s₁ ι₂ H₂ s₂):Post B ι s ι₂ H₂ s₂:=by
 have out:∀ a o,s.heap.get? a=some o->a∉ι->a∉ι₁:=fun a o e hn q=>(x.new a q).elim hn fun z=>by rw [e] at z;cases z
 refine ⟨x.pre.trans y.pre,y.hr,fun a o e hn=>?_,fun a ha=>?_,?_⟩
 ·refine x1_2 (x.kept a o e hn) fun sl e1 q1=>?_
  refine x1_2 (y.kept a _ e1 (out a o e hn)) fun sl' e2 q2=>?_
  exact ⟨sl',e2,fun c=>(q2 c).trans (q1 c)⟩
 ·by_cases hi:a∈ι
  ·exact .inl hi
  ·right
   rcases y.new a ha with q|q
   ·exact (x.new a q).resolve_left hi
   ·cases e:s.heap.get? a with
    | none=>rfl
    | some o =>
     refine x1_2 (x.kept a o e hi) fun sl e1 _=>?_
     rw [e1] at q;cases q
 ·exact ⟨y.same.1.trans x.same.1,y.same.2.trans x.same.2⟩
theorem Post.vr {B:Heap}{ι ι':List Addr}{s s':Shared}{H H':Hp}(x:Post B ι s ι' H' s') (q:HR B ι H s.heap){d:AV}{v:Value}(r:VR B s.heap ι d v):VR B s'.heap ι' d v :=
 VR.mono x.kept q.noTup x.pre d v r
theorem Post.vrs {B:Heap}{ι ι':List Addr}{s s':Shared}{H H':Hp}(x:Post B ι s ι' H' s') (q:HR B ι H s.heap){d:List AV}{v:List Value}(r:VRs B s.heap ι d v):VRs B s'.heap ι' d v :=
 VRs.mono x.kept q.noTup x.pre d v r
noncomputable def FramesOK (A:Around) (B h:Heap) (ι:List Addr):Prop :=
 ∃ fl,A.frames=some fl/\∀ env∈fl,env.scope.kind≠.module/\∃ L o,env.frame=some L/\B.get? L=Option.none/\h.get? L=some o/\(∃ es n,o.data=.dict es n)/\L∉ι
structure PEnv where
 prog:Program
 w:World
 B:Heap
 mg:Str->Option Value
 mb:Str->Option Value
 /-- the exception that is being handled -/
 hd:Option Addr
noncomputable def hdV:Option Addr->Value
 | Option.none=>.none
 | some a=>.ref a
structure Qt (P:PEnv) (A:Around):Prop where
 is:A.handled=P.hd.map Value.ref
 ctx:∀ a,P.hd=some a->NoCtx a P.B
structure Room (A:Around) (d:Nat):Prop where
 depth:A.depth+d<recursionLimit
 units:A.units+8*d+200<cLine
structure W (P:PEnv) (A:Around) (d:Nat) (ι:List Addr) (H:Hp) (s:Shared):Prop where
 room:Room A d
 qt:Qt P A
 fr:FramesOK A P.B s.heap ι
 hr:HR P.B ι H s.heap
theorem FramesOK.step {A:Around}{B:Heap}{ι ι':List Addr}{s s':Shared}{H':Hp}(x:FramesOK A B s.heap ι) (p:Post B ι s ι' H' s'):FramesOK A B s'.heap ι':=by
 refine x1_2 (x) fun fl e q=>?_
 clear x
 refine ⟨fl,e,fun env he=>?_⟩
 refine x0_2 (q env he) fun k qQ1=>?_
 obtain ⟨L,o,h1,h2,h3,h4,h5⟩:=qQ1
 refine x1_3 (p.kept.data h3 h5) fun o' e' d' _=>?_
 exact ⟨k,L,o',h1,h2,e',d'▸h4,fun z=>(p.new L z).elim h5 fun w=>by rw [h3] at w;cases w⟩
theorem W.step {P:PEnv}{A:Around}{d:Nat}{ι ι':List Addr}{H H':Hp}{s s':Shared}(x:W P A d ι H s) (p:Post P.B ι s ι' H' s'):W P A d ι' H' s' :=
 ⟨x.room,x.qt,x.fr.step p,p.hr⟩
theorem Qt.still {P:PEnv}{A:Around}(q:Qt P A) (i:P.hd=Option.none):A.handled=Option.none:=by rw [q.is,i];rfl
theorem Qt.qh {P:PEnv}{A:Around}{h:Heap}(q:Qt P A) (st:P.B.StaysIn h):Qh A h:=by
 cases e:P.hd with
 | none=>exact .inl (by rw [q.is,e];rfl)
 | some a=>exact .inr ⟨a,by rw [q.is,e];rfl,.inl ((q.ctx a e).keeps st)⟩
noncomputable def Has (env:Env) (h:Heap) (x:Str) (ov:Option Value):Prop :=
 (env.kindOf x=some .local/\∃ m,h.Ns env.locals m/\m x=ov) \/
 ((env.kindOf x=some .cell\/env.kindOf x=some .free)/\∃ c,env.cells.lookup x=some c/\h.IsCell c ov)
structure Ctx where
 vars:List (Option Str)
 names:List (Str×NameKind)
 ro:Nat:=0
structure EnvR (B:Heap) (C:Ctx) (env:Env) (ι:List Addr) (h:Heap) (loc:Loc):Prop where
 kind:env.scope.kind=.function
 names:env.scope.names=C.names
 glob:env.globals=mainGlobals
 blt:env.builtins=builtinsNs
 ns:∃ m,h.Ns env.locals m
 offL:env.locals∉ι
 newL:B.get? env.locals=Option.none
 offC:∀ x c,some x∈C.vars->env.cells.lookup x=some c->c∉ι/\c≠env.locals/\B.get? c=Option.none
 isC:∀ x c,some x∈C.vars->env.cells.lookup x=some c->∃ ov,h.IsCell c ov
 apart:∀ x y c,some x∈C.vars->some y∈C.vars->env.cells.lookup x=some c->env.cells.lookup y=some c->x=y
 len:loc.length=C.vars.length
 vars:∀ (i:Nat) (x:Str),C.vars[i]?=some (some x)->∃ ov,Has env h x ov/\∀ d,loc[i]?=some (some d)->∃ v,ov=some v/\VR B h ι d v
theorem Ns.of_data {h h':Heap}{a:Addr}{m:Str->Option Value}(x:h.Ns a m) (k:∀ o,h.get? a=some o->∃ o',h'.get? a=some o'/\o'.data=o.data):h'.Ns a m:=by
 refine x3_3 (x) fun o es ep e d r=>?_
 clear x
 refine x1_2 (k o e) fun o' e' d'=>?_
 exact ⟨o',es,ep,e',d'.trans d,r⟩
theorem Cell.of_data {h h':Heap}{a:Addr}{v:Option Value}(x:h.IsCell a v) (k:∀ o,h.get? a=some o->∃ o',h'.get? a=some o'/\o'.data=o.data):h'.IsCell a v:=by
 refine x1_2 (x) fun o e d=>?_
 clear x
 refine x1_2 (k o e) fun o' e' d'=>?_
 exact ⟨o',e',d'.trans d⟩
theorem EnvR.step {B:Heap}{C:Ctx}{env:Env}{ι ι':List Addr}{s s':Shared}{H H':Hp}{loc:Loc}(x:EnvR B C env ι s.heap loc) (q:HR B ι H s.heap) (p:Post B ι s ι' H' s'):EnvR B C env ι' s'.heap loc:=by
 have kd:∀ a,a∉ι->∀ o,s.heap.get? a=some o->∃ o',s'.heap.get? a=some o'/\o'.data=o.data:=fun a hn o e=>by
  refine x1_3 (p.kept.data e hn) fun o' e' d' _=>?_
  exact ⟨o',e',d'⟩
 have off:∀ a o,s.heap.get? a=some o->a∉ι->a∉ι':=fun a o e hn z=>(p.new a z).elim hn fun w=>by rw [e] at w;cases w
 refine ⟨x.kind,x.names,x.glob,x.blt,?_,?_,x.newL,fun y c hm hc=>?_,fun y c hm hc=>?_,x.apart,x.len,fun i y hi=>?_⟩
 ·refine x1_1 (x.ns) fun m n=>?_
  exact ⟨m,Ns.of_data n (kd _ x.offL)⟩
 ·refine x4_2 (x.ns) fun m o es ep e r=>?_
  exact off _ o e x.offL
 ·refine x0_3 (x.offC y c hm hc) fun c1 c2 c3=>?_
  refine x2_2 (x.isC y c hm hc) fun ov o e r=>?_
  exact ⟨off _ o e c1,c2,c3⟩
 ·refine x1_1 (x.isC y c hm hc) fun ov r=>?_
  exact ⟨ov,Cell.of_data r (kd _ (x.offC y c hm hc).1)⟩
 ·refine x1_2 (x.vars i y hi) fun ov hs hv=>?_
  refine ⟨ov,?_,fun d hd=>?_⟩
  ·rcases hs with ⟨k,m,n,e⟩|⟨k,c,e,r⟩
   ·exact .inl ⟨k,m,Ns.of_data n (kd _ x.offL),e⟩
   ·exact .inr ⟨k,c,e,Cell.of_data r (kd _ (x.offC y c (List.mem_of_getElem? hi) e).1)⟩
  ·refine x1_2 (hv d hd) fun v e r=>?_
   exact ⟨v,e,p.vr q r⟩
end Mine
namespace Mine
open PySem
structure PEnv.OK (P:PEnv):Prop where
 g:P.B.Ns mainGlobals P.mg
 b:P.B.Ns builtinsNs P.mb
 nolimit:P.B.NoLimit
noncomputable def fAs (l:List Env):List Addr:=l.filterMap (·.frame)
structure XLeft (B:Heap) (l:List Env) (S ι:List Addr) (s:Shared) (ι':List Addr) (H':Hp) (base:Heap) (s':Shared):Prop where
 pre:ι<+:ι'
 hr:HR B ι' H' base
 stays:base.StaysIn s'.heap
 kept:Kept (S++ι) s.heap s'.heap
 inb:∀ a o,s.heap.get? a=some o->a∉S++ι->a∉fAs l->∃ sl,base.get? a=some { o with slots:=sl }
 new:∀ a∈ι',a∈ι\/s.heap.get? a=Option.none
 same:s'.gens=s.gens/\s'.os=s.os
noncomputable def XPost (P:PEnv) (l:List Env) (S ι:List Addr) (s:Shared) (ι':List Addr) (H':Hp) (s':Shared) (e:Value) (c:Str):Prop :=
 ∃ ea base D,e=.ref ea/\P.mg c=some (.ref D)/\XLeft P.B l S ι s ι' H' base s'/\Fly base l ea (.ref D) s'.heap/\CtxIs (hdV P.hd) ea s'.heap
abbrev XP:=Str->Hp->Prop
noncomputable def Acc (P:PEnv) (A:Around) (X:XP) (ι:List Addr) (s:Shared) (E:Value->Shared->Prop):Prop :=
 ∀ l,A.frames=some l->∀ e s' ι' H' c,XPost P l [] ι s ι' H' s' e c->X c H'->E e s'
theorem XLeft.before {B:Heap}{l:List Env}{ι ι₁ ι₂:List Addr}{s s₁ s₂:Shared}{H₁ H₂:Hp}{base:Heap}(p:Post B ι s ι₁ H₁ s₁) (x:XLeft B l [] ι₁ s₁ ι₂ H₂ base s₂):XLeft B l [] ι s ι₂ H₂ base s₂:=by
 have out:∀ a o,s.heap.get? a=some o->a∉ι->a∉ι₁:=fun a o e hn q=>(p.new a q).elim hn fun z=>by rw [e] at z;cases z
 refine ⟨p.pre.trans x.pre,x.hr,x.stays,fun a o e hn=>?_,fun a o e hn hf=>?_,fun a ha=>?_,?_⟩
 ·refine x1_2 (p.kept a o e hn) fun sl e1 q1=>?_
  refine x1_2 (x.kept a _ e1 (out a o e hn)) fun sl' e2 q2=>?_
  exact ⟨sl',e2,fun c=>(q2 c).trans (q1 c)⟩
 ·refine x1_2 (p.kept a o e hn) fun sl e1 q1=>?_
  refine x1_1 (x.inb a _ e1 (out a o e hn) hf) fun sl' e2=>?_
  exact ⟨sl',e2⟩
 ·by_cases hi:a∈ι
  ·exact .inl hi
  ·right
   rcases x.new a ha with q|q
   ·exact (p.new a q).resolve_left hi
   ·cases e:s.heap.get? a with
    | none=>rfl
    | some o =>
     refine x1_2 (p.kept a o e hi) fun sl e1 _=>?_
     rw [e1] at q;cases q
 ·exact ⟨x.same.1.trans p.same.1,x.same.2.trans p.same.2⟩
theorem Acc.step {P:PEnv}{A:Around}{X:XP}{ι ι':List Addr}{s s':Shared}{H':Hp}{E:Value->Shared->Prop}(x:Acc P A X ι s E) (p:Post P.B ι s ι' H' s'):Acc P A X ι' s' E:=by
 rintro l hl e s'' ι'' H'' c ⟨ea,base,D,h1,h2,h3,h4⟩ hx
 exact x l hl e s'' ι'' H'' c ⟨ea,base,D,h1,h2,h3.before p,h4⟩ hx
inductive Gives (B:Heap) (ι:List Addr) (s:Shared) (Q:AV->Hp->Prop) (v:Value) (s':Shared):Prop where
 | mk (ι':List Addr) (H':Hp) (av:AV) (p:Post B ι s ι' H' s') (r:VR B s'.heap ι' av v) (q:Q av H')
theorem gRE {M:Model}{A:Around}{α:Type}{t:Sem α}{E:Value->Shared->Prop}{s:Shared}{Q:α->Shared->Prop}(h:∀ (R:α->Shared->Prop) (F:Value->Shared->Prop),(∀ v s,Q v s->R v s)->wpAny M A t R F s):wpAny M A t Q E s:=h Q E fun _ _ x=>x
theorem gv {M:Model}{A:Around}{t:Sem Value}{E:Value->Shared->Prop}{B:Heap}{ι:List Addr}{s s₀:Shared}{Q:AV->Hp->Prop}{R:Value->Shared->Prop}(h:wpAny M A t (Gives B ι s Q) E s₀)
  (k:∀ v s₁ ι₁ H₁ x,Post B ι s ι₁ H₁ s₁->VR B s₁.heap ι₁ x v->Q x H₁->R v s₁):wpAny M A t R E s₀ :=
 wpAny_mono h (fun v s₁ g=>by cases g with|mk ι₁ H₁ x p r q=>exact k v s₁ ι₁ H₁ x p r q) fun _ _ x=>x
theorem Gives.mono {B:Heap}{ι:List Addr}{s:Shared}{Q Q':AV->Hp->Prop}{v:Value}{s':Shared}(g:Gives B ι s Q v s') (h:∀ a H,Q a H->Q' a H):Gives B ι s Q' v s':=by
 obtain ⟨ι',H',av,p,r,q⟩:=g
 exact ⟨ι',H',av,p,r,h _ _ q⟩
theorem Gives.before {B:Heap}{ι ι₁:List Addr}{s s₁:Shared}{H₁:Hp}{Q:AV->Hp->Prop}{v:Value}{s':Shared}(p:Post B ι s ι₁ H₁ s₁) (g:Gives B ι₁ s₁ Q v s'):Gives B ι s Q v s':=by
 obtain ⟨ι',H',av,p',r,q⟩:=g
 exact ⟨ι',H',av,p.trans p',r,q⟩
theorem Gives.now {B:Heap}{ι:List Addr}{s:Shared}{H:Hp}{Q:AV->Hp->Prop}{v:Value}{av:AV}(t:Nat) (hr:HR B ι H s.heap) (r:VR B s.heap ι av v) (q:Q av H):Gives B ι s Q v { s with toks:=t } :=
 ⟨ι,H,av,Post.refl hr t,r,q⟩
theorem Gives.same {B:Heap}{ι:List Addr}{s:Shared}{H:Hp}{Q:AV->Hp->Prop}{v:Value}{av:AV}(hr:HR B ι H s.heap) (r:VR B s.heap ι av v) (q:Q av H):Gives B ι s Q v s :=
 Gives.now s.toks hr r q
inductive GivesB (B:Heap) (ι:List Addr) (s:Shared) (Q:Bool->Hp->Prop) (b:Bool) (s':Shared):Prop where
 | mk (ι':List Addr) (H':Hp) (p:Post B ι s ι' H' s') (q:Q b H')
theorem gb {M:Model}{A:Around}{t:Sem Bool}{E:Value->Shared->Prop}{B:Heap}{ι:List Addr}{s s₀:Shared}{Q:Bool->Hp->Prop}{R:Bool->Shared->Prop}(h:wpAny M A t (GivesB B ι s Q) E s₀)
  (k:∀ v s₁ ι₁ H₁,Post B ι s ι₁ H₁ s₁->Q v H₁->R v s₁):wpAny M A t R E s₀ :=
 wpAny_mono h (fun v s₁ g=>by cases g with|mk ι₁ H₁ p q=>exact k v s₁ ι₁ H₁ p q) fun _ _ x=>x
inductive GivesL (B:Heap) (ι:List Addr) (s:Shared) (Q:List AV->Hp->Prop) (vs:List Value) (s':Shared):Prop where
 | mk (ι':List Addr) (H':Hp) (l:List AV) (p:Post B ι s ι' H' s') (r:VRs B s'.heap ι' l vs) (q:Q l H')
theorem gll {M:Model}{A:Around}{t:Sem (List Value)}{E:Value->Shared->Prop}{B:Heap}{ι:List Addr}{s s₀:Shared}{Q:List AV->Hp->Prop}{R:List Value->Shared->Prop}(h:wpAny M A t (GivesL B ι s Q) E s₀)
  (k:∀ v s₁ ι₁ H₁ x,Post B ι s ι₁ H₁ s₁->VRs B s₁.heap ι₁ x v->Q x H₁->R v s₁):wpAny M A t R E s₀ :=
 wpAny_mono h (fun v s₁ g=>by cases g with|mk ι₁ H₁ x p r q=>exact k v s₁ ι₁ H₁ x p r q) fun _ _ x=>x
section
variable (P:PEnv) (C:Ctx) (d:Nat)
noncomputable def EvOK (e:Expr) (loc:Loc) (H:Hp) (Q:AV->Hp->Prop) (X:XP):Prop :=
 ∀ A E env ι s,W P A d ι H s->EnvR P.B C env ι s.heap loc->Acc P A X ι s E->wpAny (model P.prog P.w) A (eval e env) (Gives P.B ι s Q) E s
noncomputable def TsOK (e:Expr) (loc:Loc) (H:Hp) (Q:Bool->Hp->Prop) (X:XP):Prop :=
 ∀ A E env ι s,W P A d ι H s->EnvR P.B C env ι s.heap loc->Acc P A X ι s E->wpAny (model P.prog P.w) A (isTrue e env (eval e env)) (GivesB P.B ι s Q) E s
noncomputable def EvsOK (es:List Expr) (loc:Loc) (H:Hp) (Q:List AV->Hp->Prop) (X:XP):Prop :=
 ∀ A E env ι s pos,W P A d ι H s->EnvR P.B C env ι s.heap loc->Acc P A X ι s E->wpAny (model P.prog P.w) A (spliced (backTo pos (starEach es env))) (GivesL P.B ι s Q) E s
noncomputable def OpOK (t:List Value->Sem Value) (args:List AV) (H:Hp) (Q:AV->Hp->Prop):Prop :=
 ∀ A E ι s vs,W P A d ι H s->VRs P.B s.heap ι args vs->wpAny (model P.prog P.w) A (t vs) (Gives P.B ι s Q) E s
end
variable {P:PEnv}{C:Ctx}{d:Nat}{loc:Loc}{H:Hp}{X:XP}
theorem EvOK.mono {e:Expr}{Q Q':AV->Hp->Prop}(h:EvOK P C d e loc H Q X) (q:∀ a H',Q a H'->Q' a H'):EvOK P C d e loc H Q' X :=
 fun A E env ι s w r a=>wpAny_mono (h A E env ι s w r a) (fun _ _ g=>g.mono q) fun _ _ x=>x
theorem EvsOK.mono {es:List Expr}{Q Q':List AV->Hp->Prop}(h:EvsOK P C d es loc H Q X) (q:∀ a H',Q a H'->Q' a H'):EvsOK P C d es loc H Q' X :=
 fun A E env ι s pos w r a=>wpAny_mono (h A E env ι s pos w r a) (fun _ _ g=>by obtain ⟨ι',H',l,p,r,z⟩:=g;exact ⟨ι',H',l,p,r,q _ _ z⟩) fun _ _ x=>x
theorem TsOK.mono {e:Expr}{Q Q':Bool->Hp->Prop}(h:TsOK P C d e loc H Q X) (q:∀ a H',Q a H'->Q' a H'):TsOK P C d e loc H Q' X :=
 fun A E env ι s w r a=>wpAny_mono (h A E env ι s w r a) (fun _ _ g=>by obtain ⟨ι',H',p,z⟩:=g;exact ⟨ι',H',p,q _ _ z⟩) fun _ _ x=>x
theorem VR.mkInt {B h:Heap}{ι:List Addr}(i:Int) (t:Tok):VR B h ι (.int i) (.int i t):=⟨t,rfl⟩
theorem VR.mkBool {B h:Heap}{ι:List Addr}(b:Bool):VR B h ι (.bool b) (.bool b):=rfl
theorem VR.mkNone {B h:Heap}{ι:List Addr}:VR B h ι .none .none:=rfl
theorem VR.mkStr {B h:Heap}{ι:List Addr}(x:Str) (t:Tok) (hx:PyData.strOk x=true):VR B h ι (.str x) (.str x t):=⟨hx,t,rfl⟩
theorem ev_int {i:Int}{k:Nat}{pos:Pos}{Q:AV->Hp->Prop}(h:Q (.int i) H):EvOK P C d (.Constant (.int i) k pos) loc H Q X :=
 fun _ _ _ _ s w _ _=>wpAny_Constant_int (Gives.now _ w.hr (VR.mkInt i s.toks) h)
theorem ev_str {x:Str}{k:Nat}{pos:Pos}{Q:AV->Hp->Prop}(hx:PyData.strOk x=true) (h:Q (.str x) H):EvOK P C d (.Constant (.str x) k pos) loc H Q X :=
 fun _ _ _ _ s w _ _=>wpAny_Constant_str (Gives.now _ w.hr (VR.mkStr x s.toks hx) h)
theorem ev_bool {b:Bool}{k:Nat}{pos:Pos}{Q:AV->Hp->Prop}(h:Q (.bool b) H):EvOK P C d (.Constant (.bool b) k pos) loc H Q X :=
 fun _ _ _ _ _ w _ _=>wpAny_Constant_bool (Gives.same w.hr (VR.mkBool b) h)
theorem ev_loc {i:Nat}{x:Str}{pos:Pos}{v:AV}{Q:AV->Hp->Prop}(hx:C.vars[i]?=some (some x)) (hd:(x == ("__debug__" : Str))=false) (hcd:(x == ("__classdict__" : Str))=false) (hv:loc[i]?=some (some v)) (h:Q v H) :
  EvOK P C d (.Name x pos) loc H Q X:=fun A E env ι s w r a=>by
 refine x1_2 (r.vars i x hx) fun ov hs q=>?_
 refine x1_2 (q v hv) fun u eQ1 vr=>?_
 subst eQ1
 refine wpAny_Name ?_ hd
 have fin:Gives P.B ι s Q u s:=Gives.same w.hr vr h
 rcases hs with ⟨k,m,n,e⟩|⟨k|k,c,e,r'⟩
 ·exact wpAny_loadName_local r.kind k n e fin
 ·exact wpAny_loadName_cell r.kind k e r' fin
 ·exact wpAny_loadName_free r.kind k e r' fin hcd
theorem ev_glob {x:Str}{pos:Pos}{v:AV}{u:Value}{Q:AV->Hp->Prop}(ok:P.OK) (hd:(x == ("__debug__" : Str))=false) (hg:P.mg x=some u) (hv:∀ h ι,P.B.StaysIn h->VR P.B h ι v u) (h:Q v H)
  (hk:C.names.lookup x=some .globalImplicit) :
  EvOK P C d (.Name x pos) loc H Q X:=fun A E env ι s w r a=>by
 refine Calls.Name_function_global r.kind (by unfold Env.kindOf;rw [r.names];exact hk) ?_ hd
 exact Calls.loadGlobal_global (r.glob▸ok.g.keeps fun b o e=>w.hr.base b o e) hg (Gives.same w.hr (hv _ _ w.hr.base) h)
theorem ev_bin {l r:Expr}{op:Operator}{pos:Pos}{Q:AV->Hp->Prop}
  (h:EvOK P C d l loc H (fun x H₁=>EvOK P C d r loc H₁ (fun y H₂=>OpOK P d (fun vs=>binaryOp op (vs.getD 0 .none) (vs.getD 1 .none)) [x,y] H₂ Q) X) X) :
  EvOK P C d (.BinOp l op r pos) loc H Q X:=fun A E env ι s w e a=>by
 refine wpAny_BinOp (gv (h A E env ι s w e a) (fun u s₁ ι₁ H₁ x p₁ r₁ g=>?_))
 refine gv (g A E env ι₁ s₁ (w.step p₁) (e.step w.hr p₁) (a.step p₁)) (fun u' s₂ ι₂ H₂ y p₂ r₂ g=>?_)
 exact wpAny_mono (g A E ι₂ s₂ [u,u'] ((w.step p₁).step p₂) ⟨_,_,rfl,p₂.vr p₁.hr r₁,_,_,rfl,r₂,rfl⟩) (fun _ _ g=>(g.before p₂).before p₁) fun _ _ x=>x
theorem ev_cmp {l r:Expr}{op:CmpOp}{pos:Pos}{Q:AV->Hp->Prop}
  (h:EvOK P C d l loc H (fun x H₁=>EvOK P C d r loc H₁ (fun y H₂=>OpOK P d (fun vs=>compareOp op (vs.getD 0 .none) (vs.getD 1 .none)) [x,y] H₂ Q) X) X)
  (hm:behindInMarks op r=false) :
  EvOK P C d (.Compare l [op] [r] pos) loc H Q X:=fun A E env ι s w e a=>by
 refine wpAny_Compare1 (gv (h A E env ι s w e a) (fun u s₁ ι₁ H₁ x p₁ r₁ g=>?_)) hm
 refine gv (g A E env ι₁ s₁ (w.step p₁) (e.step w.hr p₁) (a.step p₁)) (fun u' s₂ ι₂ H₂ y p₂ r₂ g=>?_)
 exact wpAny_mono (g A E ι₂ s₂ [u,u'] ((w.step p₁).step p₂) ⟨_,_,rfl,p₂.vr p₁.hr r₁,_,_,rfl,r₂,rfl⟩) (fun _ _ g=>(g.before p₂).before p₁) fun _ _ x=>x
theorem givesB_of {B:Heap}{A:Around}{E:Value->Shared->Prop}{M:Model}{ι:List Addr}{s s₁:Shared}{v:Value}{Q:Bool->Hp->Prop}(g:Gives B ι s (fun a H'=>∃ b,a=.bool b/\Q b H') v s₁):wpAny M A (truthy v) (GivesB B ι s Q) E s₁:=by
 obtain ⟨ι₁,H₁,x,p₁,r₁,b,rfl,q⟩:=g
 cases r₁
 exact wpAny_truthy_bool ⟨ι₁,H₁,p₁,q⟩
theorem ts_cmp {l r:Expr}{op:CmpOp}{pos:Pos}{Q:Bool->Hp->Prop}
  (h:EvOK P C d l loc H (fun x H₁=>EvOK P C d r loc H₁ (fun y H₂=>OpOK P d (fun vs=>compareOp op (vs.getD 0 .none) (vs.getD 1 .none)) [x,y] H₂ (fun a H'=>∃ b,a=.bool b/\Q b H')) X) X)
  (hm:behindInMarks op r=false) :
  TsOK P C d (.Compare l [op] [r] pos) loc H Q X:=fun A E env ι s w e a=>by
 refine wpAny_isTrue_Compare1 (gv (h A E env ι s w e a) (fun u s₁ ι₁ H₁ x p₁ r₁ g=>?_)) hm
 refine gv (g A E env ι₁ s₁ (w.step p₁) (e.step w.hr p₁) (a.step p₁)) (fun u' s₂ ι₂ H₂ y p₂ r₂ g=>?_)
 exact wpAny_mono (g A E ι₂ s₂ [u,u'] ((w.step p₁).step p₂) ⟨_,_,rfl,p₂.vr p₁.hr r₁,_,_,rfl,r₂,rfl⟩) (fun _ _ g=>givesB_of ((g.before p₂).before p₁)) fun _ _ x=>x
theorem ts_plain {e:Expr}{Q:Bool->Hp->Prop}(h:EvOK P C d e loc H (fun a H'=>∃ b,a=.bool b/\Q b H') X)
  (he:∀ env whole,isTrue e env whole=(do let v ←whole;standAt e.pos;holding [v] (truthy v))):TsOK P C d e loc H Q X:=fun A E env ι s w r a =>
 PyProof.Rows.isTrue_plain (wpAny_mono (h A E env ι s w r a) (fun _ _ g=>givesB_of g) fun _ _ x=>x) (he env _)
theorem ts_not {x:Expr}{pos:Pos}{Q:Bool->Hp->Prop}(h:TsOK P C d x loc H (fun b H'=>Q (!b) H') X):TsOK P C d (.UnaryOp .Not x pos) loc H Q X:=fun A E env ι s w r a =>
 PyProof.Rows.isTrue_not (gb (h A E env ι s w r a) fun _ _ ι' H' p q=>⟨ι',H',p,q⟩)
theorem ev_not {x:Expr}{pos:Pos}{Q:AV->Hp->Prop}(h:EvOK P C d x loc H (fun v H'=>∃ b,v=.bool b/\Q (.bool !b) H') X):EvOK P C d (.UnaryOp .Not x pos) loc H Q X:=fun A E env ι s w r a =>
 PyProof.Rows.UnaryOp_ (wpAny_mono (h A E env ι s w r a) (fun v s₁ g=>by
  obtain ⟨ι₁,H₁,x,p₁,r₁,b,rfl,q⟩:=g
  cases r₁
  exact PyProof.Rows.not_of (wpAny_truthy_bool ⟨ι₁,H₁,.bool !b,p₁,rfl,q⟩)) fun _ _ x=>x)
theorem GivesB.before {B:Heap}{ι ι₁:List Addr}{s s₁:Shared}{H₁:Hp}{Q:Bool->Hp->Prop}{v:Bool}{s':Shared}(p:Post B ι s ι₁ H₁ s₁) (g:GivesB B ι₁ s₁ Q v s'):GivesB B ι s Q v s':=by
 obtain ⟨ι',H',p',q⟩:=g
 exact ⟨ι',H',p.trans p',q⟩
theorem ts_and_nil {pos:Pos}{Q:Bool->Hp->Prop}(h:Q true H):TsOK P C d (.BoolOp .And [] pos) loc H Q X:=fun _ _ _ ι _ w _ _=>PyProof.Rows.isTrue_and_nil ⟨ι,H,Post.id w.hr,h⟩
theorem ts_or_nil {pos:Pos}{Q:Bool->Hp->Prop}(h:Q false H):TsOK P C d (.BoolOp .Or [] pos) loc H Q X:=fun _ _ _ ι _ w _ _=>PyProof.Rows.isTrue_or_nil ⟨ι,H,Post.id w.hr,h⟩
theorem ts_whole {op:BoolOp}{vs:List Expr}{pos:Pos}{env:Env}(t t':Sem Value):isTrue (.BoolOp op vs pos) env t=isTrue (.BoolOp op vs pos) env t':=rfl
theorem ts_and {x:Expr}{rest:List Expr}{pos:Pos}{Q:Bool->Hp->Prop}(h:TsOK P C d x loc H (fun b H'=>if b then TsOK P C d (.BoolOp .And rest pos) loc H' Q X else Q false H') X) :
  TsOK P C d (.BoolOp .And (x::rest) pos) loc H Q X:=fun A E env ι s w e a=>by
 refine PyProof.Rows.isTrue_and (gb (h A E env ι s w e a) (fun b s₁ ι₁ H₁ p₁ g=>?_))
 cases b with
 | false=>exact ⟨ι₁,H₁,p₁,g⟩
 | true =>
  show wpAny _ _ _ _ _ _
  rw [ts_whole _ (eval (.BoolOp .And rest pos) env)]
  exact wpAny_mono (g A E env ι₁ s₁ (w.step p₁) (e.step w.hr p₁) (a.step p₁)) (fun _ _ g=>g.before p₁) fun _ _ x=>x
theorem ts_or {x:Expr}{rest:List Expr}{pos:Pos}{Q:Bool->Hp->Prop}(h:TsOK P C d x loc H (fun b H'=>if b then Q true H' else TsOK P C d (.BoolOp .Or rest pos) loc H' Q X) X) :
  TsOK P C d (.BoolOp .Or (x::rest) pos) loc H Q X:=fun A E env ι s w e a=>by
 refine PyProof.Rows.isTrue_or (gb (h A E env ι s w e a) (fun b s₁ ι₁ H₁ p₁ g=>?_))
 cases b with
 | true=>exact ⟨ι₁,H₁,p₁,g⟩
 | false =>
  show wpAny _ _ _ _ _ _
  rw [ts_whole _ (eval (.BoolOp .Or rest pos) env)]
  exact wpAny_mono (g A E env ι₁ s₁ (w.step p₁) (e.step w.hr p₁) (a.step p₁)) (fun _ _ g=>g.before p₁) fun _ _ x=>x
theorem ev_bool1 {op:BoolOp}{x:Expr}{pos:Pos}{Q:AV->Hp->Prop}(h:EvOK P C d x loc H Q X):EvOK P C d (.BoolOp op [x] pos) loc H Q X:=fun A E env ι s w e a =>
 PyProof.Rows.BoolOp_one (h A E env ι s w e a)
theorem ev_and {x y:Expr}{rest:List Expr}{pos:Pos}{Q:AV->Hp->Prop}(h:EvOK P C d x loc H (fun v H'=>∃ b,v=.bool b/\if b then EvOK P C d (.BoolOp .And (y::rest) pos) loc H' Q X else Q (.bool false) H') X) :
  EvOK P C d (.BoolOp .And (x::y::rest) pos) loc H Q X:=fun A E env ι s w e a=>by
 refine PyProof.Rows.BoolOp_and (gv (h A E env ι s w e a) (fun v s₁ ι₁ H₁ x p₁ r₁ g=>?_))
 refine x1_2 (g) fun b eQ1 nQ=>?_
 clear g
 revert nQ
 intro g
 subst eQ1
 cases r₁
 refine wpAny_truthy_bool ?_
 cases b with
 | false=>exact ⟨ι₁,H₁,.bool false,p₁,rfl,g⟩
 | true=>exact wpAny_mono (g A E env ι₁ s₁ (w.step p₁) (e.step w.hr p₁) (a.step p₁)) (fun _ _ g=>g.before p₁) fun _ _ x=>x
theorem ev_or {x y:Expr}{rest:List Expr}{pos:Pos}{Q:AV->Hp->Prop}(h:EvOK P C d x loc H (fun v H'=>∃ b,v=.bool b/\if b then Q (.bool true) H' else EvOK P C d (.BoolOp .Or (y::rest) pos) loc H' Q X) X) :
  EvOK P C d (.BoolOp .Or (x::y::rest) pos) loc H Q X:=fun A E env ι s w e a=>by
 refine PyProof.Rows.BoolOp_or (gv (h A E env ι s w e a) (fun v s₁ ι₁ H₁ x p₁ r₁ g=>?_))
 refine x1_2 (g) fun b eQ1 nQ=>?_
 clear g
 revert nQ
 intro g
 subst eQ1
 cases r₁
 refine wpAny_truthy_bool ?_
 cases b with
 | true=>exact ⟨ι₁,H₁,.bool true,p₁,rfl,g⟩
 | false=>exact wpAny_mono (g A E env ι₁ s₁ (w.step p₁) (e.step w.hr p₁) (a.step p₁)) (fun _ _ g=>g.before p₁) fun _ _ x=>x
theorem evs_nil {Q:List AV->Hp->Prop}(h:Q [] H):EvsOK P C d [] loc H Q X:=fun _ _ _ ι _ _ w _ _=>wpAny_items_nil ⟨ι,H,[],Post.id w.hr,rfl,h⟩
theorem evs_cons {x:Expr}{rest:List Expr}{Q:List AV->Hp->Prop}(h:EvOK P C d x loc H (fun v H'=>EvsOK P C d rest loc H' (fun vs H''=>Q (v::vs) H'') X) X)
  (he:∀ env,starEach (x::rest) env=(false,eval x env)::starEach rest env) :
  EvsOK P C d (x::rest) loc H Q X:=fun A E env ι s pos w e a=>by
 refine wpAny_items_cons (gv (h A E env ι s w e a) (fun v s₁ ι₁ H₁ x p₁ r₁ g=>?_)) (he env)
 refine gll (g A E env ι₁ s₁ pos (w.step p₁) (e.step w.hr p₁) (a.step p₁)) (fun vs s₂ ι₂ H₂ l p₂ r₂ g=>?_)
 exact ⟨ι₂,H₂,x::l,p₁.trans p₂,⟨_,_,rfl,p₂.vr p₁.hr r₁,r₂⟩,g⟩
end Mine
namespace Mine
open PySem
theorem kept_nil_of {h h':Heap}(k:∀ a o,h.get? a=some o->h'.get? a=some o):Kept [] h h':=Kept.of_keeps fun a o _ e=>k a o e
theorem noTup_nil {h:Heap}:NoTup [] h:=fun _ q=>nomatch q
theorem HR.there {B:Heap}{ι:List Addr}{H:Hp}{h:Heap}(q:HR B ι H h){i:Nat}{a:Addr}(e:ι[i]?=some a):∃ o,H[i]?=some o/\OR B h ι a o:=by
 have hl:i<H.length:=q.len▸(List.getElem?_eq_some_iff.mp e).1
 refine ⟨H[i],List.getElem?_eq_getElem hl,?_⟩
 refine x1_2 (q.objs i H[i] (List.getElem?_eq_getElem hl)) fun b eb o=>?_
 rw [e] at eb;cases eb;exact o
theorem OR.some {B h:Heap}{ι:List Addr}{a:Addr}{o:AObj}(q:OR B h ι a o):∃ x,h.get? a=some x:=by
 cases o with
 | list l=>obtain ⟨_,⟨_,e⟩,_⟩:=q;exact ⟨_,e⟩
 | dict l=>obtain ⟨_,_,_,_,e,_⟩:=q;exact ⟨_,e⟩
theorem HR.mem {B:Heap}{ι:List Addr}{H:Hp}{h:Heap}(q:HR B ι H h){a:Addr}(m:a∈ι):∃ x,h.get? a=some x:=by
 refine x1_1 (List.getElem_of_mem m) fun i qQ1=>?_
 obtain ⟨hi,rfl⟩:=qQ1
 refine x1_2 (q.there (List.getElem?_eq_getElem hi)) fun o _ r=>?_
 exact r.some
theorem absent {h:Heap}{a:Addr}{o:Obj}{G:Prop}(e:h.get? a=none) (e':h.get? a=some o):G:=by rw [e] at e';cases e'
theorem HR.noB {B:Heap}{ι:List Addr}{H:Hp}{h:Heap}(q:HR B ι H h){b:Addr}(e:h.get? b=none):B.get? b=none:=by
 cases z:B.get? b with
 | none=>rfl
 | some o=>exact absent e (q.base b o z)
theorem HR.off {B:Heap}{ι T:List Addr}{H:Hp}{h h':Heap}(q:HR B ι H h) (ext:∀ b o,b∉T->h.get? b=some o->h'.get? b=some o) (nt:NoTup T h) (ho:∀ a∈T,a∉ι) (hb:∀ a∈T,B.get? a=none):HR B ι H h' :=
 ⟨fun b o eb=>ext b o (fun m=>absent (hb b m) eb) (q.base b o eb),q.fresh,q.nodup,q.len,fun j o ej=>x1_2 (q.objs j o ej) fun a ea r =>
  ⟨a,ea,r.mono (Kept.of_keeps ext) nt (List.prefix_refl _) fun o=>ext a o fun m=>ho a m (List.mem_of_getElem? ea)⟩⟩
theorem HR.keep {B:Heap}{ι:List Addr}{H:Hp}{h h':Heap}(q:HR B ι H h) (k:∀ a o,h.get? a=some o->h'.get? a=some o):HR B ι H h' :=
 ⟨fun a o e=>k a o (q.base a o e),q.fresh,q.nodup,q.len,fun i o e=>by
  refine x1_2 (q.objs i o e) fun a ea r=>?_
  exact ⟨a,ea,r.mono (kept_nil_of k) noTup_nil (List.prefix_refl _) (k a)⟩⟩
theorem Post.keep {B:Heap}{ι:List Addr}{H:Hp}{s:Shared}{h':Heap}{t:Nat}(q:HR B ι H s.heap) (k:∀ a o,s.heap.get? a=some o->h'.get? a=some o):Post B ι s ι H { s with heap:=h',toks:=t } :=
 ⟨List.prefix_refl _,q.keep k,Kept.of_keeps fun a o _ e=>k a o e,fun _ h=>.inl h,rfl,rfl⟩
theorem HR.alloc {B:Heap}{ι:List Addr}{H:Hp}{h h':Heap}(q:HR B ι H h) (k:∀ a o,h.get? a=some o->h'.get? a=some o){a:Addr}(ha:h.get? a=none){o:AObj}(ho:OR B h' (ι++[a]) a o) :
  HR B (ι++[a]) (H++[o]) h':=by
 refine ⟨fun b x e=>k b x (q.base b x e),fun b hb=>?_,?_,by simp [q.len],fun i x e=>?_⟩
 ·rcases List.mem_append.mp hb with m|m
  ·exact q.fresh b m
  ·have:=List.mem_singleton.mp m;subst this
   cases z:B.get? b with
   | none=>rfl
   | some x=>have:=q.base b x z;rw [ha] at this;cases this
 ·refine List.nodup_append.mpr ⟨q.nodup,by simp,fun x hx y hy e=>?_⟩
  have:=List.mem_singleton.mp hy;subst this;subst e
  refine x1_1 (q.mem hx) fun z hz=>?_
  rw [ha] at hz;cases hz
 ·by_cases hi:i<H.length
  ·rw [List.getElem?_append_left hi] at e
   refine x1_2 (q.objs i x e) fun b eb r=>?_
   exact ⟨b,pre_get (List.prefix_append _ _) eb,r.mono (kept_nil_of k) noTup_nil (List.prefix_append _ _) (k b)⟩
  ·rw [List.getElem?_append_right (Nat.not_lt.mp hi)] at e
   have h0:i-H.length=0:=by
    cases z:i-H.length with
    | zero=>rfl
    | succ n=>rw [z] at e;simp at e
   rw [h0] at e
   simp only [List.getElem?_cons_zero,Option.some.injEq] at e
   subst e
   refine ⟨a,?_,ho⟩
   have:i=ι.length:=by rw [q.len];(first|lia|omega)
   subst this
   simp
theorem Post.alloc {B:Heap}{ι:List Addr}{H:Hp}{s:Shared}{h':Heap}{t:Nat}(q:HR B ι H s.heap) (k:∀ a o,s.heap.get? a=some o->h'.get? a=some o){a:Addr}(ha:s.heap.get? a=none){o:AObj}(ho:OR B h' (ι++[a]) a o) :
  Post B ι s (ι++[a]) (H++[o]) { s with heap:=h',toks:=t } :=
 ⟨List.prefix_append _ _,q.alloc k ha ho,Kept.of_keeps fun a o _ e=>k a o e,fun _ hb=>(List.mem_append.mp hb).elim .inl fun m=>.inr (List.mem_singleton.mp m▸ha),rfl,rfl⟩
theorem nodup_inj {l:List Addr}(n:l.Nodup):∀ {i j:Nat}(hi:i<l.length) (hj:j<l.length),l[i]=l[j]->i=j:=by
 intro i j hi hj e
 have key:∀ {i j:Nat}(hi:i<l.length) (hj:j<l.length),i<j->l[i]≠l[j]:=fun hi hj lt=>(List.pairwise_iff_getElem.mp n) _ _ hi hj lt
 rcases Nat.lt_trichotomy i j with h|h|h
 ·exact absurd e (key hi hj h)
 ·exact h
 ·exact absurd e.symm (key hj hi h)
theorem HR.upd {B:Heap}{ι:List Addr}{H:Hp}{h h':Heap}(q:HR B ι H h){i:Nat}{a:Addr}(ea:ι[i]?=some a) (k:∀ b x,b≠a->h.get? b=some x->h'.get? b=some x){o:AObj}(ho:OR B h' ι a o) :
  HR B ι (H.set i o) h':=by
 have kp:Kept [a] h h':=Kept.of_keeps fun b x hb e=>k b x (fun z=>hb (z▸List.mem_singleton.mpr rfl)) e
 have ma:a∈ι:=List.mem_of_getElem? ea
 have nt:NoTup [a] h:=fun b hb=>by rw [List.mem_singleton.mp hb];exact q.noTup a ma
 refine ⟨fun b x e=>k b x (fun z=>?_) (q.base b x e),q.fresh,q.nodup,by rw [List.length_set];exact q.len,fun j x e=>?_⟩
 ·have:=q.fresh a ma;rw [←z,e] at this;cases this
 ·rw [List.getElem?_set] at e
  split at e
  ·rename_i hij
   subst hij
   split at e
   ·simp only [Option.some.injEq] at e;subst e
    exact ⟨a,ea,ho⟩
   ·cases e
  ·rename_i hij
   refine x1_2 (q.objs j x e) fun b eb r=>?_
   refine ⟨b,eb,r.mono kp nt (List.prefix_refl _) fun y=>k b y fun hb=>?_⟩
   subst hb
   refine x1_1 (List.getElem?_eq_some_iff.mp ea) fun h1 e1=>?_
   refine x1_1 (List.getElem?_eq_some_iff.mp eb) fun h2 e2=>?_
   exact hij (nodup_inj q.nodup h1 h2 (e1.trans e2.symm))
theorem Post.upd {B:Heap}{ι:List Addr}{H:Hp}{s:Shared}{h':Heap}{t:Nat}(q:HR B ι H s.heap){i:Nat}{a:Addr}(ea:ι[i]?=some a) (k:∀ b x,b≠a->s.heap.get? b=some x->h'.get? b=some x){o:AObj}(ho:OR B h' ι a o) :
  Post B ι s ι (H.set i o) { s with heap:=h',toks:=t } :=
 ⟨List.prefix_refl _,q.upd ea k ho,Kept.of_keeps fun b x hb e=>k b x (fun z=>hb (z▸List.mem_of_getElem? ea)) e,fun _ h=>.inl h,rfl,rfl⟩
theorem HR.vrs_upd {B:Heap}{ι:List Addr}{H:Hp}{h h':Heap}(q:HR B ι H h){a:Addr}(ma:a∈ι) (k:∀ b x,b≠a->h.get? b=some x->h'.get? b=some x){l:List AV}{vs:List Value}(r:VRs B h ι l vs):VRs B h' ι l vs :=
 VRs.mono (S:=[a]) (Kept.of_keeps fun b x hb e=>k b x (fun z=>hb (z▸List.mem_singleton.mpr rfl)) e) (fun b hb=>by rw [List.mem_singleton.mp hb];exact q.noTup a ma) (List.prefix_refl _) l vs r
theorem HR.vr_upd {B:Heap}{ι:List Addr}{H:Hp}{h h':Heap}(q:HR B ι H h){a:Addr}(ma:a∈ι) (k:∀ b x,b≠a->h.get? b=some x->h'.get? b=some x){l:AV}{vs:Value}(r:VR B h ι l vs):VR B h' ι l vs :=
 VR.mono (S:=[a]) (Kept.of_keeps fun b x hb e=>k b x (fun z=>hb (z▸List.mem_singleton.mpr rfl)) e) (fun b hb=>by rw [List.mem_singleton.mp hb];exact q.noTup a ma) (List.prefix_refl _) l vs r
theorem VRs.length {B h:Heap}{ι:List Addr}:∀ {l:List AV}{vs:List Value},VRs B h ι l vs->vs.length=l.length
 | [],_,q=>by rw [show _=[] from q];rfl
 | _::l,_,q=>by
  refine x2_3 (q) fun v r eQ2 _ b=>?_
  clear q
  subst eQ2
  rw [List.length_cons,List.length_cons,VRs.length b]
theorem VRs.get {B h:Heap}{ι:List Addr}:∀ {l:List AV}{vs:List Value},VRs B h ι l vs->∀ {i:Nat}{x:AV},l[i]?=some x->∃ v,vs[i]?=some v/\VR B h ι x v
 | [],_,_,_,_,e=>by simp at e
 | _::l,_,q,i,x,e=>by
  refine x2_3 (q) fun v r eQ2 a b=>?_
  clear q
  subst eQ2
  cases i with
  | zero=>simp only [List.getElem?_cons_zero,Option.some.injEq] at e;subst e;exact ⟨v,rfl,a⟩
  | succ i=>simp only [List.getElem?_cons_succ] at e ⊢;exact VRs.get b e
theorem VRs.append {B h:Heap}{ι:List Addr}:∀ {l m:List AV}{vs ws:List Value},VRs B h ι l vs->VRs B h ι m ws->VRs B h ι (l++m) (vs++ws)
 | [],_,_,_,q,r=>by rw [show _=[] from q];exact r
 | _::l,_,_,_,q,r=>by
  refine x2_3 (q) fun v t eQ2 a b=>?_
  clear q
  subst eQ2
  exact ⟨v,t++_,rfl,a,VRs.append b r⟩
theorem VRs.take {B h:Heap}{ι:List Addr}:∀ {l:List AV}{vs:List Value}(n:Nat),VRs B h ι l vs->VRs B h ι (l.take n) (vs.take n)
 | [],_,_,q=>by rw [show _=[] from q];simp [VRs]
 | _::l,_,0,q=>by simp [VRs]
 | _::l,_,n+1,q=>by
  refine x2_3 (q) fun v t eQ2 a b=>?_
  clear q
  subst eQ2
  exact ⟨v,t.take n,rfl,a,VRs.take n b⟩
theorem VRs.drop {B h:Heap}{ι:List Addr}:∀ {l:List AV}{vs:List Value}(n:Nat),VRs B h ι l vs->VRs B h ι (l.drop n) (vs.drop n)
 | [],_,_,q=>by rw [show _=[] from q];simp [VRs]
 | _::l,_,0,q=>q
 | _::l,_,n+1,q=>by
  refine x2_3 (q) fun v t eQ2 a b=>?_
  clear q
  subst eQ2
  exact VRs.drop n b
theorem VRs.reverse {B h:Heap}{ι:List Addr}:∀ {l:List AV}{vs:List Value},VRs B h ι l vs->VRs B h ι l.reverse vs.reverse
 | [],_,q=>by rw [show _=[] from q];simp [VRs]
 | _::l,_,q=>by
  refine x2_3 (q) fun v t eQ2 a b=>?_
  clear q
  subst eQ2
  rw [List.reverse_cons,List.reverse_cons]
  exact VRs.append (VRs.reverse b) ⟨v,[],rfl,a,rfl⟩
theorem VRs.set {B h:Heap}{ι:List Addr}:∀ {l:List AV}{vs:List Value}{n:Nat}{x:AV}{v:Value},VRs B h ι l vs->VR B h ι x v->VRs B h ι (l.set n x) (vs.set n v)
 | [],_,_,_,_,q,_=>by rw [show _=[] from q];simp [VRs]
 | _::l,_,0,_,_,q,r=>by
  refine x2_3 (q) fun v t eQ2 a b=>?_
  clear q
  subst eQ2
  exact ⟨_,t,rfl,r,b⟩
 | _::l,_,n+1,_,_,q,r=>by
  refine x2_3 (q) fun v t eQ2 a b=>?_
  clear q
  subst eQ2
  exact ⟨v,_,rfl,a,VRs.set b r⟩
variable {P:PEnv}{C:Ctx}{d:Nat}{loc:Loc}{H:Hp}{X:XP}
theorem get_size (h:Heap):h.get? h.objs.size=none:=by
 cases e:h.get? h.objs.size with
 | none=>rfl
 | some o=>exact absurd (Heap.lt_size e) (Nat.lt_irrefl _)
theorem gives_newTuple {ι:List Addr}{s:Shared}{l:List AV}{vs:List Value}{Q:AV->Hp->Prop}(hr:HR P.B ι H s.heap) (r:VRs P.B s.heap ι l vs) (q:Q (.tup l) H) :
  Gives P.B ι s Q (.ref s.heap.objs.size) { s with heap:=s.heap.push { cls:=.type "tuple",data:=.seq vs.toArray } }:=by
 have k:∀ a o,s.heap.get? a=some o->(s.heap.push { cls:=.type "tuple",data:=.seq vs.toArray }).get? a=some o:=fun a o e=>Heap.get?_push_of_some _ e
 refine ⟨ι,H,.tup l,Post.keep (t:=s.toks) hr k,?_,q⟩
 unfold VR
 exact ⟨_,vs,rfl,PTup.new _ _,VRs.mono (kept_nil_of k) noTup_nil (List.prefix_refl _) l vs r⟩
theorem gives_newList {ι:List Addr}{s:Shared}{l:List AV}{vs:List Value}{Q:AV->Hp->Prop}(hr:HR P.B ι H s.heap) (r:VRs P.B s.heap ι l vs) (q:Q (.ref H.length) (H++[.list l])) :
  Gives P.B ι s Q (.ref s.heap.objs.size) { s with heap:=s.heap.push { cls:=.type "list",data:=.seq vs.toArray } }:=by
 have k:∀ a o,s.heap.get? a=some o->(s.heap.push { cls:=.type "list",data:=.seq vs.toArray }).get? a=some o:=fun a o e=>Heap.get?_push_of_some _ e
 refine ⟨ι++[s.heap.objs.size],H++[.list l],.ref H.length,Post.alloc (o:=.list l) (t:=s.toks) hr k (get_size _) ⟨vs,⟨0,Heap.get?_push_size _ rfl⟩,VRs.mono (kept_nil_of k) noTup_nil (List.prefix_append _ _) l vs r⟩,?_,q⟩
 exact ⟨_,rfl,by rw [←hr.len];simp⟩
theorem ev_tup {es:List Expr}{k:Nat}{pos:Pos}{Q:AV->Hp->Prop}(h:EvsOK P C d es loc H (fun l H'=>l.length<=sizeLine/\Q (.tup l) H') X):EvOK P C d (.Tuple es k pos) loc H Q X:=fun A E env ι s w e a=>by
 refine wpAny_Tuple (gll (h A E env ι s pos w e a) (fun vs s₁ ι₁ H₁ l p₁ r₁ g=>?_))
 refine x0_2 (g) fun hl g=>?_
 exact ⟨by rw [r₁.length];exact hl,(gives_newTuple p₁.hr r₁ g).before p₁⟩
theorem ev_lst {es:List Expr}{pos:Pos}{Q:AV->Hp->Prop}(h:EvsOK P C d es loc H (fun l H'=>l.length<=sizeLine/\Q (.ref H'.length) (H'++[.list l])) X):EvOK P C d (.List es pos) loc H Q X:=fun A E env ι s w e a=>by
 refine wpAny_List (gll (h A E env ι s pos w e a) (fun vs s₁ ι₁ H₁ l p₁ r₁ g=>?_))
 refine x0_2 (g) fun hl g=>?_
 exact ⟨by rw [r₁.length];exact hl,(gives_newList p₁.hr r₁ g).before p₁⟩
theorem ev_sub {o i:Expr}{pos:Pos}{Q:AV->Hp->Prop}
  (h:EvOK P C d o loc H (fun x H₁=>EvOK P C d i loc H₁ (fun y H₂=>OpOK P d (fun vs=>PyProof.Rows.subscriptTail o i (vs.getD 0 .none) (vs.getD 1 .none)) [x,y] H₂ Q) X) X) :
  EvOK P C d (.Subscript o i pos) loc H Q X:=fun A E env ι s w e a=>by
 refine PyProof.Rows.Subscript_ (gv (h A E env ι s w e a) (fun u s₁ ι₁ H₁ x p₁ r₁ g=>?_))
 refine gv (g A E env ι₁ s₁ (w.step p₁) (e.step w.hr p₁) (a.step p₁)) (fun u' s₂ ι₂ H₂ y p₂ r₂ g=>?_)
 exact wpAny_mono (g A E ι₂ s₂ [u,u'] ((w.step p₁).step p₂) ⟨_,_,rfl,p₂.vr p₁.hr r₁,_,_,rfl,r₂,rfl⟩) (fun _ _ g=>(g.before p₂).before p₁) fun _ _ x=>x
end Mine
namespace Mine
open PySem
inductive MFlow where
 | next|brk|cont
 | ret (v:AV)
 | exc (c:Str)
noncomputable def FR (B h:Heap) (ι:List Addr):MFlow->Flow->Prop
 | .next,f=>f=.next
 | .brk,f=>f=.brk
 | .cont,f=>f=.cont
 | .ret d,f=>∃ v,f=.ret v/\VR B h ι d v
 | .exc _,_=>False
noncomputable def own (C:Ctx) (env:Env):List Addr:=env.locals::(C.vars.drop C.ro).filterMap fun o=>o.bind fun x=>env.cells.lookup x
theorem mem_own {C:Ctx}{env:Env}{a:Addr}(h:a∈own C env):a=env.locals\/∃ x,some x∈C.vars/\env.cells.lookup x=some a:=by
 rcases List.mem_cons.mp h with e|m
 ·exact .inl e
 ·refine x1_2 (List.mem_filterMap.mp m) fun o ho e=>?_
  cases o with
  | none=>cases e
  | some x=>exact .inr ⟨x,List.mem_of_mem_drop ho,e⟩
theorem own_cell {C:Ctx}{env:Env}{i:Nat}{x:Str}{c:Addr}(hi:C.ro<=i) (hx:C.vars[i]?=some (some x)) (hc:env.cells.lookup x=some c):c∈own C env :=
 List.mem_cons_of_mem _ (List.mem_filterMap.mpr ⟨some x,List.mem_of_getElem? (i:=i-C.ro) (by rw [List.getElem?_drop,Nat.add_sub_cancel' hi];exact hx),hc⟩)
structure PostS (B:Heap) (S ι:List Addr) (s:Shared) (ι':List Addr) (H':Hp) (s':Shared):Prop where
 pre:ι<+:ι'
 hr:HR B ι' H' s'.heap
 kept:Kept (S++ι) s.heap s'.heap
 new:∀ a∈ι',a∈ι\/s.heap.get? a=Option.none
 same:s'.gens=s.gens/\s'.os=s.os
theorem Post.toS {B:Heap}{S ι ι':List Addr}{s s':Shared}{H':Hp}(p:Post B ι s ι' H' s'):PostS B S ι s ι' H' s' :=
 ⟨p.pre,p.hr,p.kept.mono fun _ h=>List.mem_append.mpr (.inr h),p.new,p.same⟩
theorem PostS.trans {B:Heap}{S ι ι₁ ι₂:List Addr}{s s₁ s₂:Shared}{H₁ H₂:Hp}(x:PostS B S ι s ι₁ H₁ s₁) (y:PostS B S ι₁ s₁ ι₂ H₂ s₂) (hS:∀ a∈S,a∉ι₂):PostS B S ι s ι₂ H₂ s₂:=by
 have out:∀ a o,s.heap.get? a=some o->a∉S++ι->a∉S++ι₁:=fun a o e hn q=>(List.mem_append.mp q).elim (fun m=>hn (List.mem_append.mpr (.inl m))) fun m =>
  (x.new a m).elim (fun z=>hn (List.mem_append.mpr (.inr z))) fun z=>by rw [e] at z;cases z
 refine ⟨x.pre.trans y.pre,y.hr,fun a o e hn=>?_,fun a ha=>?_,?_⟩
 ·refine x1_2 (x.kept a o e hn) fun sl e1 q1=>?_
  refine x1_2 (y.kept a _ e1 (out a o e hn)) fun sl' e2 q2=>?_
  exact ⟨sl',e2,fun c=>(q2 c).trans (q1 c)⟩
 ·by_cases hi:a∈ι
  ·exact .inl hi
  ·right
   rcases y.new a ha with q|q
   ·exact (x.new a q).resolve_left hi
   ·cases e:s.heap.get? a with
    | none=>rfl
    | some o =>
     refine x1_2 (x.kept a o e fun m=>(List.mem_append.mp m).elim (fun z=>hS a z ha) hi) fun sl e1 _=>?_
     rw [e1] at q;cases q
 ·exact ⟨y.same.1.trans x.same.1,y.same.2.trans x.same.2⟩
theorem EnvR.offOwn {B:Heap}{C:Ctx}{env:Env}{ι:List Addr}{h:Heap}{loc:Loc}(x:EnvR B C env ι h loc):∀ a∈own C env,a∉ι:=fun a ha=>by
 rcases mem_own ha with rfl|⟨y,hm,e⟩
 ·exact x.offL
 ·exact (x.offC y a hm e).1
theorem EnvR.isOwn {B:Heap}{C:Ctx}{env:Env}{ι:List Addr}{h:Heap}{loc:Loc}(x:EnvR B C env ι h loc):∀ a∈own C env,∃ o,h.get? a=some o/\(∀ vs,o.data≠.fields vs)/\∀ vs n,o.data≠.seq vs n:=fun a ha=>by
 rcases mem_own ha with rfl|⟨y,hm,e⟩
 ·refine x4_3 (x.ns) fun m o es ep e d _=>?_
  exact ⟨o,e,fun vs=>by rw [d];simp,fun vs n=>by rw [d];simp⟩
 ·refine x2_2 (x.isC y a hm e) fun ov o e d=>?_
  exact ⟨o,e,fun vs=>by rw [d];simp,fun vs n=>by rw [d];simp⟩
theorem EnvR.noTup {B:Heap}{C:Ctx}{env:Env}{ι:List Addr}{h:Heap}{loc:Loc}{H:Hp}(x:EnvR B C env ι h loc) (q:HR B ι H h):NoTup (own C env++ι) h:=fun a ha vs t=>by
 rcases List.mem_append.mp ha with m|m
 ·refine x1_3 (x.isOwn a m) fun o e _ d=>?_
  refine x1_3 (t) fun o' e' _ qQ3=>?_
  clear t
  refine x1_1 (qQ3) fun n d'=>?_
  clear qQ3
  rw [e] at e';cases e'
  exact d _ _ d'
 ·exact q.noTup a m vs t
theorem EnvR.newOwn {B:Heap}{C:Ctx}{env:Env}{ι:List Addr}{h:Heap}{loc:Loc}(x:EnvR B C env ι h loc):∀ a∈own C env,B.get? a=none:=fun a ha=>by
 rcases mem_own ha with rfl|⟨y,hm,e⟩
 ·exact x.newL
 ·exact (x.offC y a hm e).2.2
theorem W.stepS {P:PEnv}{A:Around}{d:Nat}{C:Ctx}{env:Env}{ι ι':List Addr}{H H':Hp}{s s':Shared}{loc loc':Loc}(x:W P A d ι H s) (e0:EnvR P.B C env ι s.heap loc) (p:PostS P.B (own C env) ι s ι' H' s') (e:EnvR P.B C env ι' s'.heap loc'):W P A d ι' H' s':=by
 refine ⟨x.room,x.qt,?_,p.hr⟩
 refine x1_2 (x.fr) fun fl ef q=>?_
 refine ⟨fl,ef,fun en he=>?_⟩
 refine x0_2 (q en he) fun k qQ1=>?_
 obtain ⟨L,o,h1,h2,h3,h4,h5⟩:=qQ1
 have h6:L∉ι':=fun z=>(p.new L z).elim h5 fun w=>by rw [h3] at w;cases w
 by_cases hL:L∈own C env
 ·rcases mem_own hL with rfl|⟨y,hm,ec⟩
  ·refine x4_3 (e.ns) fun m o' es ep e' d' _=>?_
   exact ⟨k,_,o',h1,h2,e',⟨es,ep,d'⟩,h6⟩
  ·refine x2_2 (e0.isC y L hm ec) fun ov o2 e2 d2=>?_
   refine x2_1 (h4) fun es n d3=>?_
   clear h4
   rw [h3] at e2;cases e2;rw [d2] at d3;cases d3
 ·refine x1_3 (p.kept.data h3 fun m=>(List.mem_append.mp m).elim hL h5) fun o' e' d' _=>?_
  exact ⟨k,L,o',h1,h2,e',d'▸h4,h6⟩
theorem PostS.vr {B:Heap}{C:Ctx}{env:Env}{ι ι':List Addr}{s s':Shared}{H H':Hp}{loc:Loc}(x:PostS B (own C env) ι s ι' H' s') (q:HR B ι H s.heap) (e:EnvR B C env ι s.heap loc){d:AV}{v:Value}(r:VR B s.heap ι d v):VR B s'.heap ι' d v :=
 VR.mono x.kept (e.noTup q) x.pre d v r
noncomputable def XF:XP:=fun _ _=>False
theorem Acc.no {P:PEnv}{A:Around}{ι:List Addr}{s:Shared}{E:Value->Shared->Prop}:Acc P A XF ι s E:=fun _ _ _ _ _ _ _ _ h=>h.elim
inductive GivesS (B:Heap) (C:Ctx) (env:Env) (ι:List Addr) (s:Shared) (Q:MFlow->Loc->Hp->Prop) (f:Flow) (s':Shared):Prop where
 | mk (ι':List Addr) (H':Hp) (loc':Loc) (fl:MFlow) (p:PostS B (own C env) ι s ι' H' s') (e:EnvR B C env ι' s'.heap loc') (r:FR B s'.heap ι' fl f) (q:Q fl loc' H')
theorem gs {M:Model}{A:Around}{t:Sem Flow}{E:Value->Shared->Prop}{B:Heap}{C:Ctx}{env:Env}{ι:List Addr}{s s₀:Shared}{Q:MFlow->Loc->Hp->Prop}{R:Flow->Shared->Prop}(h:wpAny M A t (GivesS B C env ι s Q) E s₀)
  (k:∀ f s₁ ι₁ H₁ loc₁ fl,PostS B (own C env) ι s ι₁ H₁ s₁->EnvR B C env ι₁ s₁.heap loc₁->FR B s₁.heap ι₁ fl f->Q fl loc₁ H₁->R f s₁):wpAny M A t R E s₀ :=
 wpAny_mono h (fun v s₁ g=>by cases g with|mk ι₁ H₁ l fl p e r q=>exact k v s₁ ι₁ H₁ l fl p e r q) fun _ _ x=>x
theorem GivesS.before {B:Heap}{C:Ctx}{env:Env}{ι ι₁:List Addr}{s s₁:Shared}{H₁:Hp}{Q:MFlow->Loc->Hp->Prop}{f:Flow}{s':Shared}(p:PostS B (own C env) ι s ι₁ H₁ s₁) (g:GivesS B C env ι₁ s₁ Q f s'):GivesS B C env ι s Q f s':=by
 obtain ⟨ι',H',loc',fl,p',e,r,q⟩:=g
 exact ⟨ι',H',loc',fl,p.trans p' e.offOwn,e,r,q⟩
section
variable (P:PEnv) (C:Ctx) (d:Nat)
noncomputable def ExOK (st:Stmt) (loc:Loc) (H:Hp) (Q:MFlow->Loc->Hp->Prop):Prop :=
 ∀ A E env ι s,W P A d ι H s->EnvR P.B C env ι s.heap loc->wpAny (model P.prog P.w) A (exec st env) (GivesS P.B C env ι s Q) E s
noncomputable def ExsOK (sts:List Stmt) (loc:Loc) (H:Hp) (Q:MFlow->Loc->Hp->Prop):Prop :=
 ∀ A E env ι s,W P A d ι H s->EnvR P.B C env ι s.heap loc->wpAny (model P.prog P.w) A (execs sts env) (GivesS P.B C env ι s Q) E s
end
variable {P:PEnv}{C:Ctx}{d:Nat}{loc:Loc}{H:Hp}
theorem exs_nil {Q:MFlow->Loc->Hp->Prop}(h:Q .next loc H):ExsOK P C d [] loc H Q:=fun _ _ _ ι _ w e=>wpAny_execs_nil ⟨ι,H,loc,.next,(Post.id w.hr).toS,e,rfl,h⟩
theorem exs_cons {st:Stmt}{rest:List Stmt}{Q:MFlow->Loc->Hp->Prop}
  (h:ExOK P C d st loc H (fun fl loc' H'=>match fl with|.next=>ExsOK P C d rest loc' H' Q|fl=>Q fl loc' H')):ExsOK P C d (st::rest) loc H Q:=fun A E env ι s w e=>by
 refine wpAny_execs_cons (gs (h A E env ι s w e) (fun f s₁ ι₁ H₁ loc₁ fl p₁ e₁ r₁ g=>?_))
 cases fl with
 | next =>
  cases r₁
  exact wpAny_mono (g A E env ι₁ s₁ (w.stepS e p₁ e₁) e₁) (fun _ _ g=>g.before p₁) fun _ _ x=>x
 | brk=>cases r₁;exact ⟨ι₁,H₁,loc₁,.brk,p₁,e₁,rfl,g⟩
 | cont=>cases r₁;exact ⟨ι₁,H₁,loc₁,.cont,p₁,e₁,rfl,g⟩
 | exc c=>exact r₁.elim
 | ret v=>obtain ⟨u,rfl,r⟩:=r₁;exact ⟨ι₁,H₁,loc₁,.ret v,p₁,e₁,⟨u,rfl,r⟩,g⟩
theorem ex_ret {x:Expr}{pos:Pos}{Q:MFlow->Loc->Hp->Prop}(h:EvOK P C d x loc H (fun v H'=>Q (.ret v) loc H') XF):ExOK P C d (.Return (some x) pos) loc H Q:=fun A E env ι s w e=>by
 rw [exec_Return_some]
 refine wpAny_bind (wpAny_standAt (wpAny_bind (gv (h A E env ι s w e Acc.no) (fun v s₁ ι₁ H₁ x p₁ r₁ g=>?_))))
 exact wpAny_pure ⟨ι₁,H₁,loc,.ret x,p₁.toS,e.step w.hr p₁,⟨v,rfl,r₁⟩,g⟩
theorem ex_if {t:Expr}{a b:List Stmt}{pos:Pos}{Q:MFlow->Loc->Hp->Prop}(h:TsOK P C d t loc H (fun c H'=>if c then ExsOK P C d a loc H' Q else ExsOK P C d b loc H' Q) XF):ExOK P C d (.If t a b pos) loc H Q:=fun A E env ι s w e=>by
 refine wpAny_If (gb (h A E env ι s w e Acc.no) (fun c s₁ ι₁ H₁ p₁ g=>?_))
 cases c with
 | true=>exact wpAny_mono (g A E env ι₁ s₁ (w.step p₁) (e.step w.hr p₁)) (fun _ _ g=>g.before p₁.toS) fun _ _ x=>x
 | false=>exact wpAny_mono (g A E env ι₁ s₁ (w.step p₁) (e.step w.hr p₁)) (fun _ _ g=>g.before p₁.toS) fun _ _ x=>x
theorem ex_expr {x:Expr}{pos:Pos}{Q:MFlow->Loc->Hp->Prop}(h:EvOK P C d x loc H (fun _ H'=>Q .next loc H') XF) (hi:∀ env,swapsWith x none pos.line env=pure false):ExOK P C d (.Expr x pos) loc H Q:=fun A E env ι s w e=>by
 refine wpAny_Expr_any (wpAny_mono (h A E env ι s w e Acc.no) (fun v s₁ g=>?_) fun _ _ x=>x) ?_ (hi env)
 ·obtain ⟨ι₁,H₁,x,p₁,r₁,g⟩:=g
  exact ⟨ι₁,H₁,loc,.next,p₁.toS,e.step w.hr p₁,rfl,g⟩
 ·unfold interactive;rw [e.kind];rfl
theorem ns_unique {h:Heap}{a:Addr}{m m':Str->Option Value}(x:h.Ns a m) (y:h.Ns a m'):m=m':=by
 refine x3_4 (x) fun o es ep e d _ r=>?_
 clear x
 refine x3_4 (y) fun o' es' ep' e' d' _ r'=>?_
 clear y
 rw [e] at e';cases e'
 rw [d] at d';cases d'
 funext z;rw [←r,←r']
theorem setloc {i j:Nat}{v:AV}{loc:Loc}(hi:i<loc.length):(loc.set i (some v))[j]?=if j=i then some (some v) else loc[j]?:=by
 rw [List.getElem?_set]
 by_cases h:i=j
 ·subst h;simp [hi]
 ·have:¬ j=i:=fun e=>h e.symm
  simp [h,this]
theorem one_mem {a:Addr}{Z:Addr->Prop}(z:Z a):∀ b∈[a],Z b:=fun _ hb=>List.mem_singleton.mp hb▸z
theorem store_env {env:Env}{ι:List Addr}{h h':Heap}{i:Nat}{x:Str}{u:Value}{v:AV}(e:EnvR P.B C env ι h loc) (hx:C.vars[i]?=some (some x)) (hu:∀ j,C.vars[j]?=some (some x)->j=i) (ns:∃ m,h'.Ns env.locals m)
  (isC:∀ y c,some y∈C.vars->env.cells.lookup y=some c->∃ ov,h'.IsCell c ov) (me:Has env h' x (some u)) (oth:∀ y ov,some y∈C.vars->y≠x->Has env h y ov->Has env h' y ov) (vr:∀ d w,VR P.B h ι d w->VR P.B h' ι d w) (r:VR P.B h ι v u):EnvR P.B C env ι h' (loc.set i (some v)):=by
 have hi:i<loc.length:=by rw [e.len];exact (List.getElem?_eq_some_iff.mp hx).1
 refine ⟨e.kind,e.names,e.glob,e.blt,ns,e.offL,e.newL,e.offC,isC,e.apart,by rw [List.length_set];exact e.len,fun j y hj=>?_⟩
 by_cases hji:j=i
 ·subst hji
  have:=Option.some.inj (Option.some.inj (hx.symm.trans hj))
  subst this
  refine ⟨some u,me,fun dd hdd=>⟨u,rfl,?_⟩⟩
  rw [setloc hi,if_pos rfl] at hdd
  exact Option.some.inj (Option.some.inj hdd)▸vr _ _ r
 ·refine x1_2 (e.vars j y hj) fun ov hs hv=>⟨ov,oth y ov (List.mem_of_getElem? hj) (fun z=>hji (hu j (z▸hj))) hs,fun dd hdd=>?_⟩
  rw [setloc hi,if_neg hji] at hdd
  exact x1_2 (hv dd hdd) fun v' ev' rv'=>⟨v',ev',vr _ _ rv'⟩
theorem store_ok {A:Around}{E:Value->Shared->Prop}{env:Env}{ι:List Addr}{s:Shared}{i:Nat}{x:Str}{u:Value}{v:AV}{Q:Unit->Shared->Prop}(w:HR P.B ι H s.heap) (e:EnvR P.B C env ι s.heap loc)
  (hlo:C.ro<=i) (hx:C.vars[i]?=some (some x)) (hu:∀ j,C.vars[j]?=some (some x)->j=i) (hk:C.names.lookup x=some .local\/C.names.lookup x=some .cell) (r:VR P.B s.heap ι v u)
  (h:∀ s',PostS P.B (own C env) ι s ι H s'->EnvR P.B C env ι s'.heap (loc.set i (some v))->Q () s'):wpAny (model P.prog P.w) A (storeName env x u) Q E s:=by
 have hko:∀ y k,C.names.lookup y=k->env.kindOf y=k:=fun y k q=>by unfold Env.kindOf;rw [e.names];exact q
 have fin:∀ a h',a∈own C env->(∀ b o,b≠a->s.heap.get? b=some o->h'.get? b=some o)->HR P.B ι H h'/\Kept (own C env++ι) s.heap h':=fun a h' ha k1 =>
  ⟨w.off (T:=[a]) (fun b o hb eb=>k1 b o (fun z=>hb (z▸List.mem_singleton.mpr rfl)) eb) (one_mem (Z:=fun b=>∀ vs,¬ PyProof.Rows.IsTup s.heap b vs) (e.noTup w a (List.mem_append.mpr (.inl ha)))) (one_mem (Z:=fun b=>b∉ι) (e.offOwn a ha)) (one_mem (Z:=fun b=>P.B.get? b=none) (e.newOwn a ha)),
   Kept.of_keeps fun b o hb eb=>k1 b o (fun z=>hb (z▸List.mem_append.mpr (.inl ha))) eb⟩
 rcases hk with hk|hk
 ·refine e.ns.elim fun m n=>?_
  refine wpAny_storeName_local (hko _ _ hk) n (fun h' n' sb=>?_) (by rw [e.kind];rfl)
  have f:=fin env.locals h' (List.mem_cons_self ..) sb.extBut
  refine h _ ⟨List.prefix_refl _,f.1,f.2,fun _ q=>.inl q,rfl,rfl⟩ (store_env e hx hu ⟨_,n'⟩ (fun y c hm hc=>(e.isC y c hm hc).elim fun ov q=>⟨ov,q.sameBut sb (e.offC y c hm hc).2.1⟩) (.inl ⟨hko _ _ hk,_,n',by simp⟩) (fun y ov hm hyx hs=>?_) (fun _ _ q=>VR.mono f.2 (e.noTup w) (List.prefix_refl _) _ _ q) r)
  refine hs.imp (fun q=>⟨q.1,x1_2 q.2 fun m' nn em=>⟨_,n',?_⟩⟩) fun q=>⟨q.1,x1_2 q.2 fun c ec rc=>⟨c,ec,rc.sameBut sb (e.offC y c hm ec).2.1⟩⟩
  have:=ns_unique n nn
  subst this
  simp [hyx,em]
 ·refine x1_2 (e.vars i x hx) fun ov hs hv=>?_
  refine hs.elim (fun q=>?_) fun q=>x1_2 q.2 fun c ec rc=>?_
  ·have k:=q.1
   rw [hko _ _ hk] at k;cases k
  ·have oc:=e.offC x c (List.mem_of_getElem? hx) ec
   refine wpAny_storeName_cell e.kind (hko _ _ hk) ec rc fun h' c' sb=>?_
   have f:=fin c h' (own_cell hlo hx ec) sb.extBut
   refine h _ ⟨List.prefix_refl _,f.1,f.2,fun _ q=>.inl q,rfl,rfl⟩ (store_env e hx hu (e.ns.elim fun m n=>⟨m,n.sameBut sb (Ne.symm oc.2.1)⟩) (fun y c'' hm hc=>?_) (.inr ⟨.inl (hko _ _ hk),c,ec,c'⟩) (fun y ov hm hyx hs=>?_) (fun _ _ q=>VR.mono f.2 (e.noTup w) (List.prefix_refl _) _ _ q) r)
   ·by_cases hcc:c''=c
    ·subst hcc;exact ⟨_,c'⟩
    ·exact (e.isC y c'' hm hc).elim fun ov q=>⟨ov,q.sameBut sb hcc⟩
   ·exact hs.imp (fun q=>⟨q.1,x1_2 q.2 fun m' nn em=>⟨m',nn.sameBut sb (Ne.symm oc.2.1),em⟩⟩) fun q=>⟨q.1,x1_2 q.2 fun c2 ec2 rc2=>⟨c2,ec2,rc2.sameBut sb fun z=>hyx (e.apart y x c hm (List.mem_of_getElem? hx) (z▸ec2) ec)⟩⟩
structure Slot (C:Ctx) (i:Nat) (x:Str):Prop where
 lo:C.ro<=i
 at_:C.vars[i]?=some (some x)
 uniq:∀ j,C.vars[j]?=some (some x)->j=i
 kind:C.names.lookup x=some .local\/C.names.lookup x=some .cell
theorem ex_assign {i:Nat}{x:Str}{v:Expr}{p' pos:Pos}{Q:MFlow->Loc->Hp->Prop}(sl:Slot C i x) (h:EvOK P C d v loc H (fun a H'=>Q .next (loc.set i (some a)) H') XF)
  (hs:∀ env,swapsWith v (some (.Name x p')) pos.line env=pure false):ExOK P C d (.Assign [.Name x p'] v pos) loc H Q:=fun A E env ι s w e=>by
 refine wpAny_Assign_Name (gv (h A E env ι s w e Acc.no) (fun u s₁ ι₁ H₁ a p₁ r₁ g=>?_)) (hs env)
 exact store_ok p₁.hr (e.step w.hr p₁) sl.lo sl.at_ sl.uniq sl.kind r₁ fun s' ps e'=>⟨ι₁,H₁,_,.next,PostS.trans p₁.toS ps e'.offOwn,e',rfl,g⟩
end Mine
namespace Mine
open PySem
variable {P:PEnv}{C:Ctx}{d:Nat}{loc:Loc}{H:Hp}
inductive WhI (P:PEnv) (C:Ctx) (env:Env) (ι:List Addr) (s:Shared) (J:Nat->Loc->Hp->Prop) (n:Nat) (s':Shared):Prop where
 | mk (ι':List Addr) (H':Hp) (loc':Loc) (p:PostS P.B (own C env) ι s ι' H' s') (e:EnvR P.B C env ι' s'.heap loc') (j:J n loc' H')
theorem WhI.el {P:PEnv}{C:Ctx}{env:Env}{ι:List Addr}{s:Shared}{J:Nat->Loc->Hp->Prop}{n:Nat}{s':Shared}{G:Prop}(h:WhI P C env ι s J n s')
  (k:∀ ι' H' loc',PostS P.B (own C env) ι s ι' H' s'->EnvR P.B C env ι' s'.heap loc'->J n loc' H'->G):G:=by cases h with|mk a b c p e j=>exact k a b c p e j
theorem ex_while {t:Expr}{body:List Stmt}{pos:Pos}{Q:MFlow->Loc->Hp->Prop}(J:Nat->Loc->Hp->Prop) (n:Nat) (h0:J n loc H)
  (turn:∀ n loc H,J n loc H->TsOK P C d t loc H (fun c H'=>if c then ExsOK P C d body loc H' (fun fl l'' H''=>match fl with
   | .next=>∃ m,m<n/\J m l'' H''
   | .cont=>∃ m,m<n/\J m l'' H''
   | .brk=>Q .next l'' H''
   | .ret v=>Q (.ret v) l'' H''
   | .exc _=>False) else Q .next loc H') XF):ExOK P C d (.While t body [] pos) loc H Q:=fun A E env ι s w e=>by
 refine wpAny_While ?_
 refine codeAny_whileLoop (WhI P C env ι s J) (fun n s' hI=>hI.el fun ι' H' loc' p e' hj=>?_) n ⟨ι,H,loc,(Post.id w.hr).toS,e,h0⟩
 have w':=w.stepS e p e'
 refine gb (turn n loc' H' hj A _ env ι' s' w' e' Acc.no) (fun c s₁ ι₁ H₁ p₁ g=>?_)
 have e₁:=e'.step w'.hr p₁
 have pp:=p.trans (S:=own C env) p₁.toS e₁.offOwn
 cases c with
 | false=>exact wpAny_execs_nil ⟨ι₁,H₁,loc',.next,pp,e₁,rfl,g⟩
 | true =>
  refine gs (g A _ env ι₁ s₁ (w'.step p₁) e₁) (fun f s₂ ι₂ H₂ loc₂ fl p₂ e₂ r₂ g=>?_)
  have pp₂:=pp.trans p₂ e₂.offOwn
  cases fl with
  | next=>cases r₂;obtain ⟨m,hm,hj'⟩:=g;exact ⟨m,hm,ι₂,H₂,loc₂,pp₂,e₂,hj'⟩
  | cont=>cases r₂;obtain ⟨m,hm,hj'⟩:=g;exact ⟨m,hm,ι₂,H₂,loc₂,pp₂,e₂,hj'⟩
  | brk=>cases r₂;exact ⟨ι₂,H₂,loc₂,.next,pp₂,e₂,rfl,g⟩
  | ret v=>obtain ⟨u,rfl,r⟩:=r₂;exact ⟨ι₂,H₂,loc₂,.ret v,pp₂,e₂,⟨u,rfl,r⟩,g⟩
  | exc c=>exact r₂.elim
inductive TgG (P:PEnv) (C:Ctx) (env:Env) (ι:List Addr) (H:Hp) (s:Shared) (K:Loc->Prop) (u:Unit) (s':Shared):Prop where
 | mk (loc':Loc) (p:PostS P.B (own C env) ι s ι H s') (e:EnvR P.B C env ι s'.heap loc') (k:K loc')
noncomputable def TgOK (P:PEnv) (C:Ctx) (tg:Expr) (x:AV) (loc:Loc) (K:Loc->Prop):Prop :=
 ∀ A E env ι H s v,Qt P A->HR P.B ι H s.heap->EnvR P.B C env ι s.heap loc->VR P.B s.heap ι x v ->
  wpAny (model P.prog P.w) A (assign tg env v) (TgG P C env ι H s K) E s
theorem TgG.el {env:Env}{ι:List Addr}{H:Hp}{s:Shared}{K:Loc->Prop}{u:Unit}{s':Shared}{G:Prop}(h:TgG P C env ι H s K u s') (k:∀ loc',PostS P.B (own C env) ι s ι H s'->EnvR P.B C env ι s'.heap loc'->K loc'->G):G:=by
 cases h with|mk a b c e=>exact k a b c e
theorem tg_name {i:Nat}{x:Str}{pos:Pos}{v:AV}{K:Loc->Prop}(sl:Slot C i x) (h:K (loc.set i (some v))):TgOK P C (.Name x pos) v loc K:=fun A E env ι H s u _ hr e r =>
 wpAny_assign_Name (store_ok hr e sl.lo sl.at_ sl.uniq sl.kind r fun s' ps e'=>⟨_,ps,e',h⟩)
noncomputable def setAll:List (Nat×AV)->Loc->Loc
 | [],l=>l
 | (i,v)::r,l=>setAll r (l.set i (some v))
inductive Names (C:Ctx):List Expr->List Nat->Prop
 | nil:Names C [] []
 | cons {x:Str}{pos:Pos}{i:Nat}{es:List Expr}{is:List Nat}:Slot C i x->Names C es is->Names C (.Name x pos::es) (i::is)
theorem Names.each {C:Ctx}{es:List Expr}{is:List Nat}(n:Names C es is) (env:Env):(assignEach es env).length=es.length/\(assignEach es env).findIdx? (·.1)=none:=by
 induction n with
 | nil=>exact ⟨rfl,rfl⟩
 | cons _ _ ih =>
  refine ⟨?_,?_⟩
  ·show _+1=_;rw [ih.1];rfl
  ·show List.findIdx? _ ((false,_)::assignEach _ env)=none
   rw [List.findIdx?_cons];simp [ih.2]
theorem Names.length {C:Ctx}{es:List Expr}{is:List Nat}(n:Names C es is):es.length=is.length:=by
 induction n with
 | nil=>rfl
 | cons _ _ ih=>simp [ih]
theorem tg_tup_go {A:Around}{E:Value->Shared->Prop}{env:Env}{ι:List Addr}{H:Hp}{s₀:Shared}{es:List Expr}{is:List Nat}(n:Names C es is):∀ {vs:List AV}{us:List Value}{loc:Loc}{s:Shared}{K:Loc->Prop},vs.length=is.length ->
  PostS P.B (own C env) ι s₀ ι H s->EnvR P.B C env ι s.heap loc->VRs P.B s.heap ι vs us->K (setAll (is.zip vs) loc) ->
  wpAny (model P.prog P.w) A (assignInOrder ((assignEach es env).map (·.2)) us) (TgG P C env ι H s₀ K) E s:=by
 induction n with
 | nil =>
  intro vs us loc s K hl p e r hk
  have:vs=[]:=List.length_eq_zero_iff.mp hl
  subst this
  exact PyProof.Rows.assignInOrder_nil ⟨loc,p,e,hk⟩
 | cons sl n ih =>
  intro vs us loc s K hl p e r hk
  cases vs with
  | nil=>cases hl
  | cons v vs =>
   refine x2_3 r fun u ur eQ2 r1 r2=>?_
   clear r
   subst eQ2
   refine PyProof.Rows.assignInOrder_cons (wpAny_assign_Name (store_ok p.hr e sl.lo sl.at_ sl.uniq sl.kind r1 fun s' ps e'=>?_))
   exact ih (Nat.succ.inj hl) (p.trans ps e'.offOwn) e' (VRs.mono ps.kept (e.noTup p.hr) (List.prefix_refl _) _ _ r2) hk
theorem tg_tup {es:List Expr}{k:Nat}{is:List Nat}{pos:Pos}{vs:List AV}{K:Loc->Prop}(n:Names C es is) (hl:vs.length=is.length) (h:K (setAll (is.zip vs) loc)):TgOK P C (.Tuple es k pos) (.tup vs) loc K:=fun A E env ι H s u hh hr e r=>by
 unfold VR at r
 refine x2_3 (r) fun t us eQ2 ht nQ=>?_
 clear r
 revert nQ
 intro r
 subst eQ2
 refine unpack_q (hh.qh hr.base) ht.isTup ?_ (n.each env).2 fun h' he=>?_
 ·rw [(n.each env).1,n.length,List.size_toArray,r.length,hl]
 ·have k:∀ a o,s.heap.get? a=some o->h'.get? a=some o:=fun a o ea=>he a o (Nat.ne_of_lt (Heap.lt_size ea)) ea
  have p:Post P.B ι s ι H { s with heap:=h',toks:=s.toks }:=Post.keep hr k
  exact tg_tup_go n hl (p.toS (S:=own C env)) (e.step hr p) (p.vrs hr r) h
noncomputable def isTupE (e:Expr):Bool:=e.ctorIdx == Expr.ctorIdx (.Tuple [] 0 default)
structure Itr (P:PEnv) (tt:Bool) (I:Addr) (wr:List Addr) (items:List AV) (Cnd:Hp->Prop) (It:Nat->List Addr->Heap->Prop) (Mid:Nat->Value->List Addr->Heap->Prop):Prop where
 mono:∀ k ι ι' S h h',It k ι h->Kept S h h'->NoTup S h->ι<+:ι'->(∀ a∈wr,a∉S)->It k ι' h'
 there:∀ k ι h,It k ι h->∀ a∈wr,∃ o,h.get? a=some o/\∀ vs n,o.data≠.seq vs n
 thereM:∀ k v ι h,Mid k v ι h->∀ a∈wr,∃ o,h.get? a=some o/\∀ vs n,o.data≠.seq vs n
 next:∀ A E ι H s k x (Q:Option Value->Shared->Prop),Qt P A->HR P.B ι H s.heap->Cnd H->It k ι s.heap->items[k]?=some x ->
  (∀ v h' tk,VR P.B h' ι x v->Mid k v ι h'->(∀ b o,b∉wr->s.heap.get? b=some o->h'.get? b=some o)->Q (some v) { s with heap:=h',toks:=tk })->wpAny (model P.prog P.w) A (pyNext (.ref I)) Q E s
 go:∀ tgt A E ι s k v (Q:Unit->Shared->Prop),(tt=true->isTupE tgt=true)->Mid k v ι s.heap->(∀ h',It (k+1) ι h'->(∀ b o,b∉wr->s.heap.get? b=some o->h'.get? b=some o)->Q () { s with heap:=h' }) ->
  wpAny (model P.prog P.w) A (letOwnedTupleGo tgt (.ref I) v) Q E s
 stop:∀ A E ι H s (Q:Option Value->Shared->Prop),Qt P A->HR P.B ι H s.heap->Cnd H->It items.length ι s.heap ->
  (∀ h' tk,(∀ b o,b∉wr->s.heap.get? b=some o->h'.get? b=some o)->Q none { s with heap:=h',toks:=tk })->wpAny (model P.prog P.w) A (pyNext (.ref I)) Q E s
 self:∀ A E ι s k (Q:Value->Shared->Prop),It k ι s.heap->Q (.ref I) s->wpAny (model P.prog P.w) A (pyIter (.ref I)) Q E s
theorem Itr.any {tt:Bool}{I:Addr}{wr:List Addr}{items:List AV}{Cnd:Hp->Prop}{It:Nat->List Addr->Heap->Prop}{Mid:Nat->Value->List Addr->Heap->Prop}(h:Itr P false I wr items Cnd It Mid):Itr P tt I wr items Cnd It Mid :=
 ⟨h.mono,h.there,h.thereM,h.next,fun tgt A E ι s k v Q _=>h.go tgt A E ι s k v Q (fun e=>by cases e),h.stop,h.self⟩
noncomputable def ItOK (P:PEnv) (x:AV) (H:Hp) (items:List AV) (Cnd:Hp->Prop):Prop :=
 ∀ A E ι s v (Q:Value->Shared->Prop),HR P.B ι H s.heap->VR P.B s.heap ι x v ->
  (∀ I wr It Mid h' tk,Itr P false I wr items Cnd It Mid->It 0 ι h'->(∀ a∈wr,s.heap.get? a=none)->(∀ b o,s.heap.get? b=some o->h'.get? b=some o)->Q (.ref I) { s with heap:=h',toks:=tk }) ->
  wpAny (model P.prog P.w) A (pyIter v) Q E s
theorem go_plain {M:Model}{A:Around}{E:Value->Shared->Prop}{s:Shared}{tgt:Expr}{I:Addr}{v:Value}{o:Obj}{n:String}{Q:Unit->Shared->Prop}(ho:s.heap.get? I=some o) (hc:o.cls=.type n)
  (hn:["enumerate", "zip", "dict_itemiterator", "dict_reverseitemiterator", "odict_iterator", "itertools.zip_longest", "itertools.pairwise"].contains n=false) (h:Q () s):wpAny M A (letOwnedTupleGo tgt (.ref I) v) Q E s:=by
 have key:wpAny M A (do
  let (.ref r,.ref a):=(Value.ref I,v)|return
  let o ←load r
  match o.cls,o.data with
  | .type n,.fields vs =>
   if ["enumerate", "zip", "dict_itemiterator", "dict_reverseitemiterator", "odict_iterator", "itertools.zip_longest", "itertools.pairwise"].contains n&&vs[0]? == some (rawInt a) then
    rule "for.unpacks-the-owned-tuple"
    updateField r 0 .none
  | _,_=>pure ():Sem Unit) Q E s:=by
  cases v with
  | ref a =>
   refine wpAny_bind (wpAny_load ho ?_)
   rw [hc]
   cases o.data with
   | fields vs=>simp only [hn,Bool.false_and,Bool.false_eq_true,if_false];exact wpAny_pure h
   | _=>exact wpAny_pure h
  | _=>exact wpAny_pure h
 cases tgt<;>first|exact key|exact wpAny_pure h
structure One (P:PEnv) (I:Addr) (items:List AV) (Cnd:Hp->Prop) (At:Nat->Obj->Prop) (Pre:List Addr->Heap->Prop) (T:String):Prop where
 dat:∀ k o,At k o->o.cls=.type T/\(∀ vs n,o.data≠.seq vs n)/\∀ es n,o.data≠.dict es n
 go:["enumerate", "zip", "dict_itemiterator", "dict_reverseitemiterator", "odict_iterator", "itertools.zip_longest", "itertools.pairwise"].contains T=false
 pre:∀ ι ι' S h h',Pre ι h->Kept S h h'->NoTup S h->ι<+:ι'->Pre ι' h'
 next:∀ A E ι H s k x (Q:Option Value->Shared->Prop),Qt P A->HR P.B ι H s.heap->Cnd H->Pre ι s.heap->(∃ o,s.heap.get? I=some o/\At k o)->items[k]?=some x ->
  (∀ v h' tk,VR P.B s.heap ι x v->(∃ o,h'.get? I=some o/\At (k+1) o)->Heap.SameBut I s.heap h'->Q (some v) { s with heap:=h',toks:=tk })->wpAny (model P.prog P.w) A (pyNext (.ref I)) Q E s
 stop:∀ A E ι H s (Q:Option Value->Shared->Prop),Qt P A->HR P.B ι H s.heap->Cnd H->Pre ι s.heap->(∃ o,s.heap.get? I=some o/\At items.length o) ->
  (∀ h' tk,Heap.ExtBut I s.heap h'->Q none { s with heap:=h',toks:=tk })->wpAny (model P.prog P.w) A (pyNext (.ref I)) Q E s
 self:∀ A E s k (Q:Value->Shared->Prop),(∃ o,s.heap.get? I=some o/\At k o)->Q (.ref I) s->wpAny (model P.prog P.w) A (pyIter (.ref I)) Q E s
theorem One.itr {I:Addr}{items:List AV}{Cnd:Hp->Prop}{At:Nat->Obj->Prop}{Pre:List Addr->Heap->Prop}{T:String}(h:One P I items Cnd At Pre T) :
  Itr P false I [I] items Cnd (fun k ι h=>Pre ι h/\∃ o,h.get? I=some o/\At k o) (fun k _ ι h=>Pre ι h/\∃ o,h.get? I=some o/\At (k+1) o):=by
 have nt:∀ {h₁:Heap}{k:Nat},(∃ o,h₁.get? I=some o/\At k o)->NoTup [I] h₁:=fun q=>one_mem (Z:=fun b=>∀ vs,¬ PyProof.Rows.IsTup _ b vs) fun vs t =>
  x1_2 q fun o e z=>x1_3 t fun o' e' _ n=>n.elim fun n d=>(h.dat _ _ z).2.1 _ _ (Option.some.inj (e.symm.trans e')▸d)
 have th:∀ {h₁:Heap}{k:Nat},(∃ o,h₁.get? I=some o/\At k o)->∀ a∈[I],∃ o,h₁.get? a=some o/\∀ vs n,o.data≠.seq vs n:=fun q=>one_mem (Z:=fun b=>∃ o,_/\_) (x1_2 q fun o e z=>⟨o,e,(h.dat _ _ z).2.1⟩)
 have ex:∀ {h₁ h₂:Heap},Heap.ExtBut I h₁ h₂->∀ b o,b∉[I]->h₁.get? b=some o->h₂.get? b=some o:=fun x b o hb eb=>x b o (fun z=>hb (z▸List.mem_singleton.mpr rfl)) eb
 exact ⟨fun k ι ι' S h₁ h₂ q kp ns pr hw=>⟨h.pre _ _ _ _ _ q.1 kp ns pr,x1_2 q.2 fun o e z=>⟨o,kp.exact e (hw _ (List.mem_singleton.mpr rfl)) (h.dat _ _ z).2.2,z⟩⟩,fun k ι h₁ q=>th q.2,fun k v ι h₁ q=>th q.2,
  fun A E ι₁ H₁ s₁ k x Q hh hr hc q hx hQ=>h.next A E ι₁ H₁ s₁ k x Q hh hr hc q.1 q.2 hx fun v h' tk rv q' sb =>
   have kp:=Kept.of_keeps (ex sb.extBut)
   hQ v h' tk (VR.mono kp (nt q.2) (List.prefix_refl _) _ _ rv) ⟨h.pre _ _ _ _ _ q.1 kp (nt q.2) (List.prefix_refl _),q'⟩ (ex sb.extBut),
  fun tgt A E ι₁ s₁ k v Q _ q hQ=>x1_2 q.2 fun o e z=>go_plain e (h.dat _ _ z).1 h.go (hQ s₁.heap q fun _ _ _ e=>e),
  fun A E ι₁ H₁ s₁ Q hh hr hc q hQ=>h.stop A E ι₁ H₁ s₁ Q hh hr hc q.1 q.2 fun h' tk x=>hQ h' tk (ex x),
  fun A E ι₁ s₁ k Q q hQ=>h.self A E s₁ k Q q.2 hQ⟩
theorem One.new {tt:Bool}{items:List AV}{Cnd:Hp->Prop}{s:Shared}{At:Nat->Obj->Prop}{Pre:List Addr->Heap->Prop}{T:String}{ι:List Addr}{o:Obj}{Q:Value->Shared->Prop}
  (h:∀ I wr It Mid h' tk,Itr P tt I wr items Cnd It Mid->It 0 ι h'->(∀ a∈wr,s.heap.get? a=none)->(∀ b o,s.heap.get? b=some o->h'.get? b=some o)->Q (.ref I) { s with heap:=h',toks:=tk })
  (one:One P s.heap.objs.size items Cnd At Pre T) (at0:At 0 o) (fr:o.isFreed=false) (pre:Pre ι s.heap):Q (.ref s.heap.objs.size) { s with heap:=s.heap.push o } :=
 have k:∀ b o',s.heap.get? b=some o'->(s.heap.push o).get? b=some o':=fun b o' e=>Heap.get?_push_of_some _ e
 h _ _ _ _ _ s.toks one.itr.any ⟨one.pre _ _ _ _ _ pre (kept_nil_of k) noTup_nil (List.prefix_refl _),o,Heap.get?_push_size _ fr,at0⟩ (one_mem (Z:=fun b=>s.heap.get? b=none) (get_size _)) k
theorem fields_no {o:Obj}{vs:Array Value}(h:o.data=.fields vs):(∀ vs n,o.data≠.seq vs n)/\∀ es n,o.data≠.dict es n:=⟨(fun _ _ z=>nomatch h.symm.trans z),fun _ _ z=>nomatch h.symm.trans z⟩
theorem ar_none {vs:List Value}{l:List AV}(h:vs.length=l.length):vs.toArray[l.length]?=none:=by rw [List.getElem?_toArray];exact List.getElem?_eq_none_iff.mpr (Nat.le_of_eq h)
theorem it_list {i:Nat}{l:List AV}(hi:H[i]?=some (.list l)):ItOK P (.ref i) H l (fun H'=>H'[i]?=some (.list l)):=fun A E ι s v Q hr r h=>by
 refine x1_2 r fun a eQ ea=>?_
 subst eQ
 have at_:∀ {ι H h},HR P.B ι H h->H[i]?=some (.list l)->ι[i]?=some a->∃ vs,h.PlainList a (List.toArray vs)/\VRs P.B h ι l vs:=fun hr hi ea=>x1_2 (hr.objs i _ hi) fun a' ea' o=>Option.some.inj (ea'.symm.trans ea)▸o
 refine x1_2 (at_ hr hi ea) fun vs pl rv=>wpAny_pyIter_list pl.isList ?_
 refine One.new (P:=P) (T := "list_iterator") (At:=fun k o=>o.cls=.type "list_iterator" /\ o.data=.fields #[.ref a,.int k 0]) (Pre:=fun ι _=>ι[i]?=some a) h ⟨fun k o z=>⟨z.1,fields_no z.2⟩,by decide,fun ι ι' S h h' q _ _ pr=>pre_get pr q,?_,?_,fun A E s k Q q hQ=>wpAny_pyIter_listiter q hQ⟩ ⟨rfl,rfl⟩ rfl ea
 ·intro A E ι₁ H₁ s₁ k x Q hh hr₁ hc q1 q2 hx hQ
  refine x1_2 (at_ hr₁ hc q1) fun vs₂ pl₂ rv₂=>x1_2 (rv₂.get hx) fun u hu ru=>?_
  exact wpAny_pyNext_list_item q2 pl₂.isList (x:=u) (by simpa using hu) fun h' it' sb=>hQ u h' s₁.toks ru it' sb
 ·intro A E ι₁ H₁ s₁ Q hh hr₁ hc q1 q2 hQ
  refine x1_2 (at_ hr₁ hc q1) fun vs₂ pl₂ rv₂=>?_
  exact list_end (hh.qh hr₁.base) q2 pl₂.isList (ar_none rv₂.length) fun h' x=>hQ h' s₁.toks x
theorem it_fro {l:List AV}:ItOK P (.fro l) H l (fun _=>True):=fun A E ι s v Q hr r h=>by
 unfold VR at r
 refine x2_3 r fun a vs eQ bl rv=>?_
 subst eQ
 have keepL:∀ h',P.B.StaysIn h'->h'.IsList a vs.toArray:=fun h' q=>bl.at fun o e=>q a o e
 refine wpAny_pyIter_list (keepL _ hr.base) ?_
 refine One.new (P:=P) (T := "list_iterator") (At:=fun k o=>o.cls=.type "list_iterator" /\ o.data=.fields #[.ref a,.int k 0]) (Pre:=fun ι h=>VRs P.B h ι l vs) h ⟨fun k o z=>⟨z.1,fields_no z.2⟩,by decide,fun ι ι' S h h' q kp nt pr=>VRs.mono kp nt pr _ _ q,?_,?_,fun A E s k Q q hQ=>wpAny_pyIter_listiter q hQ⟩ ⟨rfl,rfl⟩ rfl rv
 ·intro A E ι₁ H₁ s₁ k x Q hh hr₁ hc q1 q2 hx hQ
  refine x1_2 (q1.get hx) fun u hu ru=>?_
  exact wpAny_pyNext_list_item q2 (keepL _ hr₁.base) (x:=u) (by simpa using hu) fun h' it' sb=>hQ u h' s₁.toks ru it' sb
 ·intro A E ι₁ H₁ s₁ Q hh hr₁ hc q1 q2 hQ
  exact list_end (hh.qh hr₁.base) q2 (keepL _ hr₁.base) (ar_none q1.length) fun h' x=>hQ h' s₁.toks x
theorem it_tup {l:List AV}:ItOK P (.tup l) H l (fun _=>True):=fun A E ι s v Q hr r h=>by
 unfold VR at r
 refine x2_3 r fun a vs eQ tl rv=>?_
 subst eQ
 refine wpAny_pyIter_tuple tl.isTup ?_
 refine One.new (P:=P) (T := "tuple_iterator") (At:=fun k o=>o.cls=.type "tuple_iterator" /\ o.data=.fields #[.ref a,.int k 0]) (Pre:=fun ι h=>PTup h a vs.toArray/\VRs P.B h ι l vs) h ⟨fun k o z=>⟨z.1,fields_no z.2⟩,by decide,fun ι ι' S h h' q kp nt pr=>⟨istup_kept kp nt q.1,VRs.mono kp nt pr _ _ q.2⟩,?_,?_,fun A E s k Q q hQ=>wpAny_pyIter_tupleiter q hQ⟩ ⟨rfl,rfl⟩ rfl ⟨tl,rv⟩
 ·intro A E ι₁ H₁ s₁ k x Q hh hr₁ hc q1 q2 hx hQ
  refine x1_2 (q1.2.get hx) fun u hu ru=>?_
  exact wpAny_pyNext_tuple_item q2 q1.1.isTup (x:=u) (by simpa using hu) fun h' it' sb=>hQ u h' s₁.toks ru it' sb
 ·intro A E ι₁ H₁ s₁ Q hh hr₁ hc q1 q2 hQ
  exact tup_end (hh.qh hr₁.base) q2 q1.1.isTup (ar_none q1.2.length) fun h' x=>hQ h' s₁.toks x
noncomputable def ItTail (P:PEnv) (tt:Bool) (A:Around) (ι₁:List Addr) (items:List AV) (Cnd:Hp->Prop) (v:Value) (s₀ s₁:Shared):Prop :=
 ∀ E (Q:Value->Shared->Prop),(∀ I wr It Mid h' tk,Itr P tt I wr items Cnd It Mid->It 0 ι₁ h'->(∀ a∈wr,s₀.heap.get? a=none)->(∀ b o,s₀.heap.get? b=some o->h'.get? b=some o)->Q (.ref I) { s₀ with heap:=h',toks:=tk }) ->
   wpAny (model P.prog P.w) A (pyIter v) Q E s₁
inductive ItG (P:PEnv) (tt:Bool) (A:Around) (ι:List Addr) (s:Shared) (K:List AV->(Hp->Prop)->Hp->Prop) (v:Value) (s₁:Shared):Prop where
 | mk (ι₁:List Addr) (H₁:Hp) (items:List AV) (Cnd:Hp->Prop) (s₀:Shared) (p:Post P.B ι s ι₁ H₁ s₀) (tl:ItTail P tt A ι₁ items Cnd v s₀ s₁) (k:K items Cnd H₁)
theorem gi {P:PEnv}{tt:Bool}{A:Around}{t:Sem Value}{E:Value->Shared->Prop}{ι:List Addr}{s s₀:Shared}{K:List AV->(Hp->Prop)->Hp->Prop}{R:Value->Shared->Prop}(h:wpAny (model P.prog P.w) A t (ItG P tt A ι s K) E s₀)
  (k:∀ v s₂ ι₁ H₁ items Cnd s₁,Post P.B ι s ι₁ H₁ s₁->ItTail P tt A ι₁ items Cnd v s₁ s₂->K items Cnd H₁->R v s₂):wpAny (model P.prog P.w) A t R E s₀ :=
 wpAny_mono h (fun v s₁ g=>by cases g with|mk a b c d e p r q=>exact k v s₁ a b c d e p r q) fun _ _ x=>x
noncomputable def ItEv (P:PEnv) (tt:Bool) (C:Ctx) (d:Nat) (it:Expr) (loc:Loc) (H:Hp) (K:List AV->(Hp->Prop)->Hp->Prop) (X:XP):Prop :=
 ∀ A E env ι s,W P A d ι H s->EnvR P.B C env ι s.heap loc->Acc P A X ι s E->wpAny (model P.prog P.w) A (eval it env) (ItG P tt A ι s K) E s
theorem itEv_of {tt:Bool}{it:Expr}{K:List AV->(Hp->Prop)->Hp->Prop}{X:XP}(h:EvOK P C d it loc H (fun x H₁=>∃ items Cnd,ItOK P x H₁ items Cnd/\K items Cnd H₁) X):ItEv P tt C d it loc H K X:=fun A E env ι s w e a =>
 gv (h A E env ι s w e a) fun v s₁ ι₁ H₁ x p₁ r₁ g=>x2_2 g fun items Cnd io k =>
  ⟨ι₁,H₁,items,Cnd,s₁,p₁,fun E Q hq=>io A E ι₁ s₁ v Q p₁.hr r₁ fun I wr It Mid h' tk itr=>hq I wr It Mid h' tk itr.any,k⟩
theorem ItEv.mono {tt:Bool}{it:Expr}{K K':List AV->(Hp->Prop)->Hp->Prop}{X:XP}(h:ItEv P tt C d it loc H K X) (k:∀ i c H,K i c H->K' i c H):ItEv P tt C d it loc H K' X:=fun A E env ι s w e a =>
 gi (h A E env ι s w e a) fun v s₁ ι₁ H₁ items Cnd s₀ p₁ io q=>⟨ι₁,H₁,items,Cnd,s₀,p₁,io,k _ _ _ q⟩
theorem ntw {wr:List Addr}{h:Heap}(q:∀ a∈wr,∃ o,h.get? a=some o/\∀ vs n,o.data≠.seq vs n):NoTup wr h:=fun a ha vs t=>by
 refine x1_2 (q a ha) fun o eo d1=>?_
 exact x1_3 t fun o' eo' _ q=>q.elim fun n d2=>d1 _ _ (Option.some.inj (eo.symm.trans eo')▸d2)
theorem EnvR.off {B:Heap}{C:Ctx}{env:Env}{ι T:List Addr}{h h':Heap}{loc:Loc}(ee:EnvR B C env ι h loc) (ext:∀ b o,b∉T->h.get? b=some o->h'.get? b=some o) (nt:NoTup T h) (hL:env.locals∉T)
  (hC:∀ x c,some x∈C.vars->env.cells.lookup x=some c->c∉T):EnvR B C env ι h' loc:=by
 have kO:∀ a,a∉T->∀ o,h.get? a=some o->∃ o',h'.get? a=some o'/\o'.data=o.data:=fun a ha o eo=>⟨o,ext a o ha eo,rfl⟩
 refine ⟨ee.kind,ee.names,ee.glob,ee.blt,ee.ns.elim fun m n=>⟨m,Ns.of_data n (kO _ hL)⟩,ee.offL,ee.newL,ee.offC,fun x c hm hx=>(ee.isC x c hm hx).elim fun ov q=>⟨ov,Cell.of_data q (kO c (hC x c hm hx))⟩,ee.apart,ee.len,fun j x hj=>?_⟩
 refine x1_2 (ee.vars j x hj) fun ov hs hv=>⟨ov,?_,fun dd hd=>x1_2 (hv dd hd) fun v' ev rv=>⟨v',ev,VR.mono (Kept.of_keeps ext) nt (List.prefix_refl _) _ _ rv⟩⟩
 exact hs.imp (fun q=>⟨q.1,q.2.elim fun m n=>⟨m,Ns.of_data n.1 (kO _ hL),n.2⟩⟩) fun q=>⟨q.1,q.2.elim fun c n=>⟨c,n.1,Cell.of_data n.2 (kO c (hC x c (List.mem_of_getElem? hj) n.1))⟩⟩
theorem reachS {env:Env}{ι₁ ι₂:List Addr}{H₂:Hp}{s₁ s₂:Shared}{h':Heap}{t':Nat}{wr:List Addr}(wrn:∀ a∈wr,s₁.heap.get? a=none) (q:PostS P.B (own C env) ι₁ s₁ ι₂ H₂ s₂) (hr:HR P.B ι₂ H₂ h') (ext:∀ b o,b∉wr->s₂.heap.get? b=some o->h'.get? b=some o) :
  PostS P.B (own C env) ι₁ s₁ ι₂ H₂ { s₂ with heap:=h',toks:=t' }:=by
 refine ⟨q.pre,hr,fun a o eo hn=>?_,q.new,?_⟩
 ·exact x1_2 (q.kept a o eo hn) fun sl e1 q1=>⟨sl,ext a _ (fun m=>absent (wrn a m) eo) e1,q1⟩
 ·exact q.same
inductive ForI (P:PEnv) (C:Ctx) (env:Env) (ι₁:List Addr) (s₁:Shared) (wr:List Addr) (It:Nat->List Addr->Heap->Prop) (m:Nat) (J:Nat->Loc->Hp->Prop) (n:Nat) (s':Shared):Prop where
 | mk (k:Nat) (ι':List Addr) (H':Hp) (loc':Loc) (hn:n=m+1-k) (hk:k<=m) (wrO:∀ a∈wr,a∉own C env++ι') (p:PostS P.B (own C env) ι₁ s₁ ι' H' s') (e:EnvR P.B C env ι' s'.heap loc') (j:J k loc' H') (it:It k ι' s'.heap)
theorem ForI.el {env:Env}{ι₁:List Addr}{s₁:Shared}{wr:List Addr}{It:Nat->List Addr->Heap->Prop}{m:Nat}{J:Nat->Loc->Hp->Prop}{n:Nat}{s':Shared}{G:Prop}(h:ForI P C env ι₁ s₁ wr It m J n s')
  (g:∀ k ι' H' loc',n=m+1-k->k<=m->(∀ a∈wr,a∉own C env++ι')->PostS P.B (own C env) ι₁ s₁ ι' H' s'->EnvR P.B C env ι' s'.heap loc'->J k loc' H'->It k ι' s'.heap->G):G:=by
 cases h with|mk k a b c h1 h2 h3 h4 h5 h6 h7=>exact g k a b c h1 h2 h3 h4 h5 h6 h7
theorem next_lt {m n k:Nat}(h:n=m+1-k) (hk:k<m):m+1-(k+1)<n:=h▸Nat.sub_lt_sub_left (Nat.lt_succ_of_lt hk) (Nat.lt_succ_self k)
noncomputable def forEnd (J:Nat->Loc->Hp->Prop) (Q:MFlow->Loc->Hp->Prop) (k:Nat) (fl:MFlow) (l'':Loc) (H'':Hp):Prop:=match fl with
    | .next=>J (k+1) l'' H''
    | .cont=>J (k+1) l'' H''
    | .brk=>Q .next l'' H''
    | .ret v=>Q (.ret v) l'' H''
    | .exc _=>False
theorem ex_for_gen {tt:Bool}{tgt it:Expr}{body:List Stmt}{pos:Pos}{Q:MFlow->Loc->Hp->Prop}
  (ht:tt=true->isTupE tgt=true) (h:ItEv P tt C d it loc H (fun items Cnd H₁=>∃ J:Nat->Loc->Hp->Prop,J 0 loc H₁/\∀ k loc H,J k loc H->Cnd H /\
   (∀ y,items[k]?=some y->TgOK P C tgt y loc (fun l'=>ExsOK P C d body l' H (forEnd J Q k))) /\
   (k=items.length->Q .next loc H)) XF)
  (hs:∀ env x,foldedSetIterable it env x=pure x):ExOK P C d (.For tgt it body [] pos) loc H Q:=fun A E env ι s w e=>by
 refine wpAny_For (gi (h A E env ι s w e Acc.no) fun v s₀ ι₁ H₁ items Cnd s₁ p₁ io g=>x1_2 g fun J j0 turn=>?_) (hs env)
 clear g
 have w₁:=w.step p₁
 have e₁:=e.step w.hr p₁
 refine io E _ fun I wr It Mid h₂ tk itr it0 wrn k₂=>?_
 have p₂:Post P.B ι₁ s₁ ι₁ H₁ { s₁ with heap:=h₂,toks:=tk }:=Post.keep w₁.hr k₂
 have hL:env.locals∉wr:=fun m=>e₁.ns.elim fun _ q=>x3_2 q fun o _ _ eo _=>absent (wrn _ m) eo
 have hC:∀ x c,some x∈C.vars->env.cells.lookup x=some c->c∉wr:=fun x c hm hc m=>(e₁.isC x c hm hc).elim fun ov q=>x1_2 q fun o eo _=>absent (wrn c m) eo
 have nbW:∀ a∈wr,P.B.get? a=none:=fun a ha=>w₁.hr.noB (wrn a ha)
 refine codeAny_forLoop_any (ForI P C env ι₁ s₁ wr It items.length J) (fun n s' hI=>gRE fun R F kR=>hI.el fun k ι' H' loc' hn hk wrO p e' hj hit=>?_) (items.length+1)
  ⟨0,ι₁,H₁,loc,rfl,Nat.zero_le _,fun a ha m=>?_,p₂.toS,e₁.step w₁.hr p₂,j0,it0⟩
 rotate_left
 ·rcases List.mem_append.mp m with m|m
  ·exact x1_2 (e₁.isOwn a m) fun o eo _=>absent (wrn a ha) eo
  ·exact (w₁.hr.mem m).elim fun o eo=>absent (wrn a ha) eo
 clear hI
 refine x0_3 (turn k loc' H' hj) fun hc htg hend=>?_
 have w':=w₁.stepS e₁ p e'
 have offW:∀ a∈wr,a∉ι':=fun a ha m=>wrO a ha (List.mem_append.mpr (.inr m))
 have nt0:=ntw (itr.there k ι' _ hit)
 cases hx:items[k]? with
 | none =>
  have hke:k=items.length:=Nat.le_antisymm hk (List.getElem?_eq_none_iff.mp hx)
  refine itr.stop A _ ι' H' s' _ w'.qt w'.hr hc (hke▸hit) fun h' tk ext=>kR _ _ ?_
  have ee₃:=e'.off ext nt0 hL hC
  exact wpAny_execs_nil ⟨ι',H',loc',.next,PostS.trans p₁.toS (reachS wrn p (w'.hr.off ext nt0 offW nbW) ext) ee₃.offOwn,ee₃,rfl,hend hke⟩
 | some y =>
  have hkl:k<items.length:=(List.getElem?_eq_some_iff.mp hx).1
  refine itr.next A _ ι' H' s' k y _ w'.qt w'.hr hc hit hx fun v h₃ tk₃ rv mid ext₃=>kR _ _ (gRE fun R₁ F₁ kR₁=>?_)
  have hr₃:=w'.hr.off ext₃ nt0 offW nbW
  have p₃:=reachS (t':=tk₃) wrn p hr₃ ext₃
  have nt1:=ntw (itr.thereM k v ι' _ mid)
  refine itr.go tgt A _ ι' { s' with heap:=h₃,toks:=tk₃ } k v _ ht mid fun h₄ it₄ ext₄=>kR₁ _ _ (gRE fun R₂ F₂ kR₂=>?_)
  have hr₄:=hr₃.off ext₄ nt1 offW nbW
  have p₄:=reachS (t':=tk₃) wrn p₃ hr₄ ext₄
  have e₄:=(e'.off ext₃ nt0 hL hC).off ext₄ nt1 hL hC
  refine wpAny_mono (htg y hx A _ env ι' H' { s' with heap:=h₄,toks:=tk₃ } v w'.qt hr₄ e₄ (VR.mono (S:=wr) (Kept.of_keeps ext₄) nt1 (List.prefix_refl _) _ _ rv)) (fun u s₅ g=>kR₂ u s₅ (g.el fun loc₅ p₅ e₅ g=>?_)) fun _ _ x=>x
  clear kR kR₁ kR₂
  have pp₅:=p₄.trans p₅ e₅.offOwn
  have it₅:It (k+1) ι' s₅.heap:=itr.mono _ _ _ _ _ _ it₄ p₅.kept (e₄.noTup hr₄) (List.prefix_refl _) wrO
  refine gs (g A _ env ι' s₅ (w₁.stepS e₁ pp₅ e₅) e₅) (fun f s₆ ι₆ H₆ loc₆ fl p₆ e₆ r₆ g=>?_)
  have pp₆:=pp₅.trans p₆ e₆.offOwn
  have I₆:J (k+1) loc₆ H₆->∃ m,m<n/\ForI P C env ι₁ s₁ wr It items.length J m s₆:=fun g=>⟨items.length+1-(k+1),next_lt hn hkl,k+1,ι₆,H₆,loc₆,rfl,hkl,fun a ha m=>?_,pp₆,e₆,g,
   itr.mono _ _ _ _ _ _ it₅ p₆.kept (e₅.noTup p₅.hr) p₆.pre wrO⟩
  ·cases fl with
   | next=>cases r₆;exact I₆ g
   | cont=>cases r₆;exact I₆ g
   | brk=>cases r₆;exact ⟨ι₆,H₆,loc₆,.next,PostS.trans p₁.toS pp₆ e₆.offOwn,e₆,rfl,g⟩
   | ret v=>exact x1_2 r₆ fun u hu r=>by subst hu;exact ⟨ι₆,H₆,loc₆,.ret v,PostS.trans p₁.toS pp₆ e₆.offOwn,e₆,⟨u,rfl,r⟩,g⟩
   | exc c=>exact r₆.elim
  ·rcases List.mem_append.mp m with m|m
   ·exact wrO a ha (List.mem_append.mpr (.inl m))
   ·exact (p₆.new a m).elim (offW a ha) fun z=>x1_2 (itr.there _ _ _ it₅ a ha) fun o eo _=>absent z eo
end Mine
set_option maxRecDepth 100000
namespace Mine
open PySem
section
variable {prog:Program}{w:World}{A:Around}{E:Value->Shared->Prop}{s:Shared}
theorem str_end {it:Addr}{x:Str}{t:Tok}{i:Nat}{Q:Option Value->Shared->Prop}(q:Qh A s.heap) (hit:s.heap.IsStrIter it "str_ascii_iterator" x t i) (hx:x.cps[i]?=none)
  (hQ:∀ h',Heap.ExtBut it s.heap h'->Q none { s with heap:=h' }):wpAny (model prog w) A (pyNext (.ref it)) Q E s:=by
 refine x1_3 (id hit) fun o ho hc hd=>?_
 unfold pyNext
 refine wpAny_bind (wpAny_attempt (wpAny_callSpecial?_slot (name:=Str.ofString "__next__") hit.typeIs F.slot_str_ascii_iterator_next
  (wpAny_call_entry F.slot_str_ascii_iterator_next hit.typeIs F.entry_str_ascii_iterator_next ?_ (F.args_str_ascii_iterator_next_1 _))))
 show wpAny _ _ (field (.ref it) 0 >>= _) _ _ s
 refine wpAny_bind (wpAny_field ho hd (x:=.str x t) rfl ?_)
 show wpAny _ _ (field (.ref it) 1 >>= _) _ _ s
 refine wpAny_bind (wpAny_field ho hd (x:=.int i 0) rfl ?_)
 simp only [Int.toNat_natCast,hx]
 refine wpAny_bind (wpAny_rule (wpAny_bind (wpAny_setField ho hd (by simp) (wpAny_bind (wpAny_letGo ?_)))))
 refine stop_q (A:=A.in1) (Qh.update (A:=A) q (mild_field (by decide))) fun h' x k st=>?_
 refine wpAny_bind (wpAny_isInstance (T := "StopIteration") (b:=true) st isSubtype_stop ?_)
 exact wpAny_pure (hQ _ fun b o' hb eb=>k b o' ((Heap.get?_update_other _ _ (Ne.symm hb)).trans eb))
end
variable {P:PEnv}{H:Hp}
noncomputable def chrs (x:Str):List AV:=x.cps.toList.map fun c=>.str ⟨#[c]⟩
theorem it_str {x:Str}(ha:x.cps.all (·<128)=true):ItOK P (.str x) H (chrs x) (fun _=>True):=fun A E ι s v Q hr r h=>by
 refine x0_2 (r) fun _ qQ1=>?_
 clear r
 obtain ⟨t,rfl⟩:=qQ1
 refine wpAny_pyIter_ascii ha ?_
 refine h s.heap.objs.size [s.heap.objs.size] (fun k ι' h'=>h'.IsStrIter s.heap.objs.size "str_ascii_iterator" x t k) (fun k _ ι' h'=>h'.IsStrIter s.heap.objs.size "str_ascii_iterator" x t (k+1)) _ s.toks ?_
  ⟨_,Heap.get?_push_size _ rfl,rfl,rfl⟩ (fun b hb=>by rw [List.mem_singleton.mp hb];exact get_size _) (fun b o e=>Heap.get?_push_of_some _ e)
 refine ⟨?_,?_,?_,?_,?_,?_,?_⟩
 ·rintro k ι₁ ι₂ S h₁ h₂ ⟨o,e,c,dt⟩ kp nts pr hw
  exact ⟨o,kp.exact e (hw _ (List.mem_singleton.mpr rfl)) (fun _ _=>by rw [dt];simp),c,dt⟩
 ·rintro k ι₁ h₁ ⟨o,e,c,dt⟩ b hb
  rw [List.mem_singleton.mp hb]
  exact ⟨o,e,fun vs n=>by rw [dt];simp⟩
 ·rintro k v ι₁ h₁ ⟨o,e,c,dt⟩ b hb
  rw [List.mem_singleton.mp hb]
  exact ⟨o,e,fun vs n=>by rw [dt];simp⟩
 ·intro A E ι₁ H₁ s₁ k y Q hh hr₁ hc q hx hQ
  unfold chrs at hx
  rw [List.getElem?_map] at hx
  refine x1_2 (Option.map_eq_some_iff.mp hx) fun c hcx eQ2=>?_
  subst eQ2
  have hlt:c<128:=by
   have:=List.mem_of_getElem? hcx
   rw [←Array.all_toList,List.all_eq_true] at ha
   simpa using ha c this
  refine wpAny_pyNext_ascii_item q (c:=c) (by rw [←Array.getElem?_toList];exact hcx) fun h' it' sb=>?_
  refine hQ _ h' _ (VR.mkStr _ _ ?_) it' fun b o hb eb=>sb.extBut b o (fun z=>hb (z▸List.mem_singleton.mpr rfl)) eb
  unfold PyData.strOk
  simp;(first|lia|omega)
 ·rintro tgt A E ι₁ s₁ k v Q _ ⟨o,e,c,dt⟩ hQ
  exact go_plain e c (by decide) (hQ s₁.heap ⟨o,e,c,dt⟩ fun _ _ _ e=>e)
 ·intro A E ι₁ H₁ s₁ Q hh hr₁ hc q hQ
  refine str_end (hh.qh hr₁.base) q ?_ fun h' ext=>hQ h' s₁.toks fun b o hb eb=>ext b o (fun z=>hb (z▸List.mem_singleton.mpr rfl)) eb
  unfold chrs
  simp
 ·intro A E ι₁ s₁ k Q q hQ
  exact wpAny_pyIter_striter_ascii q hQ
end Mine
namespace Mine
open PySem
noncomputable def CallOK (P:PEnv) (d:Nat) (x:Str) (args:List AV) (H:Hp) (Q:AV->Hp->Prop) (X:XP):Prop :=
 ∀ A ι s vs fa (R:Result->Shared->Prop),P.mg x=some (.ref fa)->W P A d ι H s->VRs P.B s.heap ι args vs->(∀ v s',Gives P.B ι s Q v s'->R (.ok (.ret v)) s')->Acc P A X ι s (fun e s'=>R (.error e) s') ->
  codeAny (model P.prog P.w) A (.call (.ref fa) ⟨vs,[]⟩) R s
theorem CallOK.mono {P:PEnv}{d:Nat}{x:Str}{args:List AV}{H:Hp}{Q Q':AV->Hp->Prop}{X:XP}(h:CallOK P d x args H Q X) (q:∀ a H',Q a H'->Q' a H'):CallOK P d x args H Q' X :=
 fun A ι s vs fa R e w r hR hX=>h A ι s vs fa R e w r (fun v s' g=>hR v s' (g.mono q)) hX
theorem CallOK.x {P:PEnv}{d:Nat}{x:Str}{args:List AV}{H:Hp}{Q:AV->Hp->Prop}{X:XP}(h:CallOK P d x args H Q XF):CallOK P d x args H Q X :=
 fun A ι s vs fa R e w r hR hX=>h A ι s vs fa R e w r hR Acc.no
structure FnAt (P:PEnv) (x:Str) (C:Ctx) (params:List Str) (body:List Stmt):Prop where
 ex:∃ fa o fd,P.mg x=some (.ref fa)/\P.B.get? fa=some o/\o.data=.func fd/\fd.body=.stmts body/\fd.scope.names=C.names/\fd.scope.kind=.function/\fd.scope.isCoroutine=false/\fd.scope.isGenerator=false /\
  fd.closure=[]/\fd.globals=mainGlobals/\fd.builtins=builtinsNs/\P.B.CodeRec fd.code fd.qualname/\∀ vals:List Value,vals.length=params.length->bindArgs fd ⟨vals,[]⟩=pure (params.zip vals)
noncomputable def Ctx.good (C:Ctx) (params:List Str):Bool :=
 (C.vars.all fun o=>match o with|some x=>C.names.lookup x == some .local||C.names.lookup x == some .cell|none=>false)&&decide (C.vars.Nodup)&&decide ((params.map some).isPrefixOf C.vars=true)&&decide (C.ro=0)
theorem bindL_not {k:Str->Option NameKind}{x:Str}:∀ {b:List (Str×Value)}{m:Str->Option Value},x∉b.map (·.1)->bindL k b m x=m x
 | [],_,_=>rfl
 | (n,v)::r,m,h=>by
  have h1:x≠n:=fun e=>h (e▸List.mem_cons_self ..)
  have h2:x∉r.map (·.1):=fun q=>h (List.mem_cons_of_mem _ q)
  unfold bindL
  rw [bindL_not h2]
  split
  ·simp [h1]
  ·rfl
theorem bindC_not {k:Str->Option NameKind}{x:Str}:∀ {b:List (Str×Value)}{m:Str->Option Value},x∉b.map (·.1)->bindC k b m x=m x
 | [],_,_=>rfl
 | (n,v)::r,m,h=>by
  have h1:x≠n:=fun e=>h (e▸List.mem_cons_self ..)
  have h2:x∉r.map (·.1):=fun q=>h (List.mem_cons_of_mem _ q)
  unfold bindC
  rw [bindC_not h2]
  split
  ·rfl
  ·simp [h1]
theorem zip_keys:∀ {ps:List Str}{vs:List Value}{x:Str},x∉ps->x∉(ps.zip vs).map (·.1)
 | [],_,_,_=>by simp
 | p::ps,[],_,_=>by simp
 | p::ps,v::vs,x,h=>by
  simp only [List.zip_cons_cons,List.map_cons,List.mem_cons,not_or] at h ⊢
  exact ⟨h.1,zip_keys h.2⟩
theorem bindL_at {k:Str->Option NameKind}{x:Str}(hk:k x=some .local):∀ {ps:List Str}{vs:List Value}{m:Str->Option Value}{i:Nat}{v:Value},ps.Nodup->ps[i]?=some x->vs[i]?=some v->bindL k (ps.zip vs) m x=some v
 | [],_,_,_,_,_,h,_=>by simp at h
 | p::ps,[],_,_,_,_,_,h=>by simp at h
 | p::ps,v::vs,m,0,u,nd,h1,h2=>by
  simp only [List.getElem?_cons_zero,Option.some.injEq] at h1 h2
  subst h1;subst h2
  have:=List.nodup_cons.mp nd
  show bindL k (ps.zip vs) _ p=some v
  rw [bindL_not (zip_keys this.1),if_pos hk];simp
 | p::ps,v::vs,m,i+1,u,nd,h1,h2=>by
  simp only [List.getElem?_cons_succ] at h1 h2
  show bindL k (ps.zip vs) _ x=some u
  exact bindL_at hk (List.nodup_cons.mp nd).2 h1 h2
theorem bindC_at {k:Str->Option NameKind}{x:Str}(hk:k x=some .cell):∀ {ps:List Str}{vs:List Value}{m:Str->Option Value}{i:Nat}{v:Value},ps.Nodup->ps[i]?=some x->vs[i]?=some v->bindC k (ps.zip vs) m x=some v
 | [],_,_,_,_,_,h,_=>by simp at h
 | p::ps,[],_,_,_,_,_,h=>by simp at h
 | p::ps,v::vs,m,0,u,nd,h1,h2=>by
  simp only [List.getElem?_cons_zero,Option.some.injEq] at h1 h2
  subst h1;subst h2
  have:=List.nodup_cons.mp nd
  show bindC k (ps.zip vs) _ p=some v
  rw [bindC_not (zip_keys this.1),if_neg (by rw [hk];decide)];simp
 | p::ps,v::vs,m,i+1,u,nd,h1,h2=>by
  simp only [List.getElem?_cons_succ] at h1 h2
  show bindC k (ps.zip vs) _ x=some u
  exact bindC_at hk (List.nodup_cons.mp nd).2 h1 h2
theorem lookup_of_mem {α:Type}{x:Str}{c:α}:∀ {l:List (Str×α)},(x,c)∈l->∃ c',l.lookup x=some c'
 | (n,u)::r,h=>by
  rw [List.lookup_cons]
  cases hx:x == n with
  | true=>exact ⟨u,rfl⟩
  | false =>
   rcases List.mem_cons.mp h with e|m
   ·rw [(Prod.mk.inj e).1] at hx;simp at hx
   ·exact lookup_of_mem m
theorem cellsFrom_mem {x:Str}:∀ {names:List (Str×NameKind)}{n:Nat}{acc:List (Str×Addr)},(x,NameKind.cell)∈names\/(∃ c,(x,c)∈acc)->∃ c,(x,c)∈cellsFrom n names acc
 | [],_,_,h=>h.elim (fun q=>nomatch q) fun q=>q
 | (y,k)::r,n,acc,h=>by
  unfold cellsFrom
  split
  ·rename_i hk
   refine cellsFrom_mem ?_
   rcases h with h|⟨c,h⟩
   ·rcases List.mem_cons.mp h with e|m
    ·exact .inr ⟨n,by rw [(Prod.mk.inj e).1];exact List.mem_cons_self ..⟩
    ·exact .inl m
   ·exact .inr ⟨c,List.mem_cons_of_mem _ h⟩
  ·rename_i hk
   refine cellsFrom_mem ?_
   rcases h with h|h
   ·rcases List.mem_cons.mp h with e|m
    ·rw [←(Prod.mk.inj e).2] at hk;exact absurd rfl hk
    ·exact .inl m
   ·exact .inr h
theorem mem_of_lookupK {x:Str}{k:NameKind}:∀ {l:List (Str×NameKind)},l.lookup x=some k->(x,k)∈l:=fun h=>mem_of_lookup h
variable {P:PEnv}{C:Ctx}{d:Nat}{loc:Loc}{H:Hp}{X:XP}
noncomputable def start (C:Ctx) (args:List AV):Loc:=args.map some++List.replicate (C.vars.length-args.length) none
noncomputable def endOf (Q:AV->Hp->Prop):MFlow->Loc->Hp->Prop
 | .ret v,_,H=>Q v H
 | .next,_,H=>Q .none H
 | _,_,_=>False
noncomputable def XMade (P:PEnv) (l:List Env) (S ι:List Addr) (s:Shared) (ι':List Addr) (H':Hp) (s':Shared) (e:Value) (c:Str):Prop :=
 ∃ ea base D,e=.ref ea/\P.mg c=some (.ref D)/\XLeft P.B l S ι s ι' H' base s'/\∃ h t,base.StaysIn h/\h.FunFrames base l/\(∀ b o,h.get? b=some o->s'.heap.get? b=some o)/\h.get? ea=none/\s'.heap.get? ea=some { cls:=.ref D,data:=.fields #[.ref t,.none,hdV P.hd,.none,.bool false,.none] }
noncomputable def TopIs (A:Around) (env:Env):Prop:=env.frame=some env.locals/\∃ l,A.frames=some (env::l)
noncomputable def XAcc (P:PEnv) (C:Ctx) (A:Around) (env:Env) (ι:List Addr) (s:Shared) (Q:MFlow->Loc->Hp->Prop) (E:Value->Shared->Prop):Prop :=
 ∀ l,A.frames=some l->∀ e s' ι' H' loc' c,(XPost P l (own C env) ι s ι' H' s' e c\/XMade P l (own C env) ι s ι' H' s' e c)->EnvR P.B C env ι' s'.heap loc'->Q (.exc c) loc' H'->E e s'
noncomputable def ExX (P:PEnv) (C:Ctx) (d:Nat) (st:Stmt) (loc:Loc) (H:Hp) (Q:MFlow->Loc->Hp->Prop):Prop :=
 ∀ A E env ι s,W P A d ι H s->EnvR P.B C env ι s.heap loc->TopIs A env->XAcc P C A env ι s Q E->wpAny (model P.prog P.w) A (exec st env) (GivesS P.B C env ι s Q) E s
noncomputable def ExsX (P:PEnv) (C:Ctx) (d:Nat) (sts:List Stmt) (loc:Loc) (H:Hp) (Q:MFlow->Loc->Hp->Prop):Prop :=
 ∀ A E env ι s,W P A d ι H s->EnvR P.B C env ι s.heap loc->TopIs A env->XAcc P C A env ι s Q E->wpAny (model P.prog P.w) A (execs sts env) (GivesS P.B C env ι s Q) E s
theorem ExOK.x {st:Stmt}{Q:MFlow->Loc->Hp->Prop}(h:ExOK P C d st loc H Q):ExX P C d st loc H Q:=fun A E env ι s w e _ _=>h A E env ι s w e
theorem ExsOK.x {sts:List Stmt}{Q:MFlow->Loc->Hp->Prop}(h:ExsOK P C d sts loc H Q):ExsX P C d sts loc H Q:=fun A E env ι s w e _ _=>h A E env ι s w e
noncomputable def endX (Q:AV->Hp->Prop) (X:XP):MFlow->Loc->Hp->Prop
 | .ret v,_,H=>Q v H
 | .next,_,H=>Q .none H
 | .exc c,_,H=>X c H
 | _,_,_=>False
theorem XLeft.out {B:Heap}{l:List Env}{env:Env}{S ι ι':List Addr}{s s₁ s':Shared}{H':Hp}{base h':Heap}(x:XLeft B (env::l) S ι s₁ ι' H' base s') (ef:env.frame=some env.locals)
  (keep:∀ a o,s.heap.get? a=some o->s₁.heap.get? a=some o) (hS:∀ a∈S,s.heap.get? a=none) (hL:s.heap.get? env.locals=none) (hs:s₁.gens=s.gens/\s₁.os=s.os)
  (fr:∀ a∈fAs l,∀ o,s.heap.get? a=some o->∃ es n,o.data=.dict es n) (st:base.StaysIn h') (up:s'.heap.UpToSlots h'):XLeft B l [] ι s ι' H' base { s' with heap:=h' }:=by
 have off:∀ a o,s.heap.get? a=some o->a∉ι->a∉S++ι:=fun a o e hn m=>(List.mem_append.mp m).elim (fun z=>by rw [hS a z] at e;cases e) hn
 have offF:∀ a o,s.heap.get? a=some o->a∉fAs l->a∉fAs (env::l):=fun a o e hn m=>by
  unfold fAs at m
  rw [List.filterMap_cons,ef] at m
  rcases List.mem_cons.mp m with z|z
  ·rw [z,hL] at e;cases e
  ·exact hn z
 refine ⟨x.pre,x.hr,st,fun a o e hn=>?_,fun a o e hn hf=>?_,fun a ha=>?_,?_⟩
 ·refine x1_2 (x.kept a o (keep a o e) (off a o e hn)) fun sl e1 q1=>?_
  by_cases hf:a∈fAs l
  ·refine x2_1 (fr a hf o e) fun es n hd=>?_
   obtain ⟨sl',e2⟩:=up a _ e1 fun vs q=>by rw [show ({ o with slots:=sl }:Obj).data=o.data from rfl,hd] at q;cases q
   exact ⟨sl',e2,fun c=>absurd hd (c es n)⟩
  ·refine x1_1 (x.inb a o (keep a o e) (off a o e hn) (offF a o e hf)) fun sl' e2=>?_
   have e3:=x.stays a _ e2
   rw [e1] at e3
   have e4:sl'=sl:=by injection e3 with q;injection q with _ _ _ q;exact q.symm
   subst e4
   exact ⟨sl',st a _ e2,q1⟩
 ·exact x.inb a o (keep a o e) (off a o e hn) (offF a o e hf)
 ·rcases x.new a ha with z|z
  ·exact .inl z
  ·right
   cases y:s.heap.get? a with
   | none=>rfl
   | some o=>rw [keep a o y] at z;cases z
 ·exact ⟨x.same.1.trans hs.1,x.same.2.trans hs.2⟩
theorem start_get {params:List Str}{args:List AV}{rest:List (Option Str)}(hrest:params.map some++rest=C.vars) (hl:args.length=params.length){i:Nat}{y:Str}{dd:AV}(hi:C.vars[i]?=some (some y)) (hd:(start C args)[i]?=some (some dd)):params[i]?=some y/\args[i]?=some dd:=by
 unfold start at hd
 by_cases hlt:i<args.length
 ·rw [List.getElem?_append_left (by rw [List.length_map];exact hlt),List.getElem?_map] at hd
  rw [←hrest,List.getElem?_append_left (by rw [List.length_map,←hl];exact hlt),List.getElem?_map] at hi
  exact ⟨x1_2 (Option.map_eq_some_iff.mp hi) fun z h1 h2=>Option.some.inj h2▸h1,x1_2 (Option.map_eq_some_iff.mp hd) fun z h1 h2=>Option.some.inj h2▸h1⟩
 ·rw [List.getElem?_append_right (by rw [List.length_map];exact Nat.not_lt.mp hlt),List.getElem?_replicate] at hd
  split at hd<;>cases hd
theorem start_len {params:List Str}{args:List AV}{rest:List (Option Str)}(hrest:params.map some++rest=C.vars) (hl:args.length=params.length):(start C args).length=C.vars.length:=by
 unfold start
 rw [List.length_append,List.length_map,List.length_replicate,Nat.add_sub_cancel']
 rw [hl,←hrest,List.length_append,List.length_map];exact Nat.le_add_right _ _
theorem call_envR {params:List Str}{args:List AV}{rest:List (Option Str)}{env:Env}{ι:List Addr}{s s₁:Shared}{vs:List Value}(hrest:params.map some++rest=C.vars) (hl:args.length=params.length)
  (kinds:∀ y,some y∈C.vars->C.names.lookup y=some .local\/C.names.lookup y=some .cell) (pnd:params.Nodup) (hk:env.scope.kind=.function) (hn:env.scope.names=C.names) (hg:env.globals=mainGlobals) (hb:env.builtins=builtinsNs)
  (lo:∀ a,env.locals<=a->a∉ι/\P.B.get? a=none) (ic:InCallC s env.locals (bindL env.kindOf (params.zip vs) fun _=>none) env.cells (bindC env.kindOf (params.zip vs) fun _=>none) s₁)
  (kc:∀ y,C.names.lookup y=some .cell->∃ c,env.cells.lookup y=some c) (rv:VRs P.B s₁.heap ι args vs):EnvR P.B C env ι s₁.heap (start C args):=by
 have ek:∀ y k,C.names.lookup y=k->env.kindOf y=k:=fun y k q=>by unfold Env.kindOf;rw [hn];exact q
 refine ⟨hk,hn,hg,hb,⟨_,ic.toInCall.ns⟩,(lo _ (Nat.le_refl _)).1,(lo _ (Nat.le_refl _)).2,fun y c hm hc=>?_,fun y c hm hc=>⟨_,ic.cell y c hc⟩,fun y z c hy hz hc hc'=>name_of_addr ic.apart (mem_of_lookup hc) (mem_of_lookup hc'),start_len hrest hl,fun i y hi=>?_⟩
 ·have ab:=ic.above y c (mem_of_lookup hc)
  exact ⟨(lo c (Nat.le_of_lt ab)).1,Nat.ne_of_gt ab,(lo c (Nat.le_of_lt ab)).2⟩
 ·refine (kinds y (List.mem_of_getElem? hi)).elim (fun q=>⟨_,.inl ⟨ek _ _ q,_,ic.toInCall.ns,rfl⟩,fun dd hd=>?_⟩) fun q=>(kc y q).elim fun c hc=>⟨_,.inr ⟨.inl (ek _ _ q),c,hc,ic.cell y c hc⟩,fun dd hd=>?_⟩
  ·have pr:=start_get hrest hl hi hd
   exact x1_2 (rv.get pr.2) fun u hu ru=>⟨u,bindL_at (ek _ _ q) pnd pr.1 hu,ru⟩
  ·have pr:=start_get hrest hl hi hd
   exact x1_2 (rv.get pr.2) fun u hu ru=>⟨u,bindC_at (ek _ _ q) pnd pr.1 hu,ru⟩
theorem call_w {A:Around}{env:Env}{ι:List Addr}{s s₁:Shared}(w:W P A (d+1) ι H s) (p₁:Post P.B ι s ι H s₁) (ef:env.frame=some env.locals) (e:EnvR P.B C env ι s₁.heap loc):W P (A.deeper env) d ι H s₁:=by
 refine ⟨⟨?_,?_⟩,⟨w.qt.is,w.qt.ctx⟩,?_,p₁.hr⟩
 ·show A.depth+1+d<_;have:=w.room.depth;rw [Nat.add_assoc,Nat.add_comm 1 d];exact this
 ·show A.units+3+8*d+200<_;have:=w.room.units;(first|lia|omega)
 ·refine x1_2 (w.fr.step p₁) fun fl efl q=>⟨env::fl,by show A.frames.map _=_;rw [efl];rfl,fun en hen'=>?_⟩
  refine (List.mem_cons.mp hen').elim (fun z=>?_) (q en)
  rw [z]
  exact e.ns.elim fun m n=>x3_3 n fun o' es' ep' eo' d' _=>⟨by rw [e.kind];decide,env.locals,o',ef,e.newL,eo',⟨es',ep',d'⟩,e.offL⟩
theorem back_none {s s₁:Shared}(keep:∀ a o,s.heap.get? a=some o->s₁.heap.get? a=some o){a:Addr}(z:s₁.heap.get? a=none):s.heap.get? a=none:=by
 cases y:s.heap.get? a with
 | none=>rfl
 | some o=>rw [keep a o y] at z;cases z
theorem call_out {S ι ι₂:List Addr}{s s₁ s₂:Shared}{H₂:Hp}{h₁:Heap}{t₁:Nat}(hs₁:s₁={ s with heap:=h₁,toks:=t₁ }) (keep:∀ a o,s.heap.get? a=some o->s₁.heap.get? a=some o) (hi:∀ a∈S,s.heap.get? a=none) (p₂:PostS P.B S ι s₁ ι₂ H₂ s₂):Post P.B ι s ι₂ H₂ s₂ :=
 ⟨p₂.pre,p₂.hr,fun a o eo hn=>p₂.kept a o (keep a o eo) fun m=>(List.mem_append.mp m).elim (fun z=>by have:=hi a z;rw [eo] at this;cases this) hn,fun a ha=>(p₂.new a ha).imp id (back_none keep),p₂.same.1.trans (by rw [hs₁]),p₂.same.2.trans (by rw [hs₁])⟩
theorem fr_dict {A:Around}{B h:Heap}{ι:List Addr}{fl:List Env}(hfl:∀ env∈fl,env.scope.kind≠.module/\∃ L o,env.frame=some L/\B.get? L=Option.none/\h.get? L=some o/\(∃ es n,o.data=.dict es n)/\L∉ι) :
  ∀ a∈fAs fl,∀ o,h.get? a=some o->∃ es n,o.data=.dict es n:=fun a ha o eo =>
 x1_2 (List.mem_filterMap.mp ha) fun en hen q=>x2_5 (hfl en hen).2 fun L o' h1 _ h3 h4 _=>by
  rw [q] at h1
  have:=Option.some.inj h1;subst this
  have:=Option.some.inj (eo.symm.trans h3);subst this
  exact h4
theorem call_exc {A:Around}{env:Env}{ι ι':List Addr}{s s₁ s':Shared}{H':Hp}{S:List Addr}{fl:List Env}{e':Value}{c:Str}{R:Value->Shared->Prop}(hdf:(A.deeper env).frames=some (env::fl)) (ef:env.frame=some env.locals) (hx:XPost P (env::fl) S ι s₁ ι' H' s' e' c\/XMade P (env::fl) S ι s₁ ι' H' s' e' c)
  (out:∀ base h',XLeft P.B (env::fl) S ι s₁ ι' H' base s'->base.StaysIn h'->s'.heap.UpToSlots h'->XLeft P.B fl [] ι s ι' H' base { s' with heap:=h' }) (hR:∀ s'',XPost P fl [] ι s ι' H' s'' e' c->R e' s'') :
  wpAny (model P.prog P.w) (A.deeper env) (leaving env e') (fun _ s''=>R e' s'') (fun e s''=>R e s'') s':=by
 rcases hx with ⟨ea,base,D,rfl,hD,xl,hf,nc⟩|⟨ea,base,D,rfl,hD,xl,hh,t,hb,hfr,hkp,hnw,hm⟩
 ·refine wpAny_mono (calm_leaving.any nc (leaves_fly (Q:=fun _ s''=>∃ h',s''={ s' with heap:=h' }/\Fly base fl ea (.ref D) h'/\s'.heap.UpToSlots h') hdf ef hf fun h' hf' up=>⟨h',rfl,hf',up⟩)) (fun _ s'' g=>?_) fun _ _ x=>x
  refine x0_2 (g) fun qQ0 nc'=>?_
  clear g
  obtain ⟨h',rfl,hf',up⟩:=qQ0
  exact hR _ ⟨ea,base,D,rfl,hD,out base h' xl hf'.stays up,hf',nc'⟩
 ·have nc:CtxIs (hdV P.hd) ea s'.heap:=⟨_,_,hm,rfl,rfl⟩
  have fresh:base.get? ea=none:=by
   cases hq:base.get? ea with
   | none=>rfl
   | some o'=>have:=hb ea o' hq;rw [hnw] at this;cases this
  refine wpAny_mono (calm_leaving.any nc (wpAny_leaving_firstW (Q:=fun _ s''=>∃ h',s''={ s' with heap:=h' }/\Heap.FlyingW base fl ea (.ref D) (.ref t) h'/\s'.heap.UpToSlots h') hdf (hfr.of_keeps fun b o hb _=>⟨o,hkp b o hb,rfl⟩) ef hm (fun b o hb'=>hkp b o (hb b o hb')) fresh rfl rfl rfl fun h' hL=>?_)) (fun _ s'' g=>?_) fun _ _ x=>x
  ·obtain ⟨k1,⟨_,_,k2⟩,k3,k4⟩:=hL
   exact ⟨h',rfl,⟨k1,fresh,k2,k3⟩,k4⟩
  ·refine x0_2 (g) fun qQ0 nc'=>?_
   clear g
   obtain ⟨h',rfl,hf',up⟩:=qQ0
   exact hR _ ⟨ea,base,D,rfl,hD,out base h' xl hf'.1 up,Fly.of hf',nc'⟩
theorem callX_of {x:Str}{params:List Str}{body:List Stmt}{args:List AV}{Q:AV->Hp->Prop}(ok:P.OK) (fn:FnAt P x C params body) (good:C.good params=true) (hl:args.length=params.length)
  (h:ExsX P C d body (start C args) H (endX Q X)):CallOK P (d+1) x args H Q X:=fun A ι s vs fa R e w r hR hX=>by
 refine x3_5 (fn.ex) fun fa' o fd h1 h2 h3 h4 qQ7=>?_
 have:=Value.ref.inj (Option.some.inj (e.symm.trans h1))
 subst this
 refine x0_5 qQ7 fun h5 h6 h7 h8 q=>x0_5 q fun h9 h10 h11 h12 h13=>?_
 clear q qQ7 h1
 simp only [Ctx.good,Bool.and_eq_true,List.all_eq_true,decide_eq_true_eq] at good
 have g1:=good.1.1.1
 have g2:=good.1.1.2
 refine (List.isPrefixOf_iff_prefix.mp good.1.2).elim fun rest hrest=>?_
 clear good
 have hlv:vs.length=params.length:=r.length.trans hl
 have kinds:∀ y,some y∈C.vars->C.names.lookup y=some .local\/C.names.lookup y=some .cell:=fun y hy=>by
  have:=g1 _ hy
  simpa using this
 have pnd:params.Nodup:=by
  rw [←hrest] at g2
  exact (List.pairwise_map.mp (List.nodup_append.mp g2).1).imp fun hne hxy=>hne (congrArg some hxy)
 have kc:∀ {n:Nat} y,C.names.lookup y=some .cell->∃ c,(cellsFrom n fd.scope.names []).lookup y=some c:=fun y hy =>
  (cellsFrom_mem (n:=_) (acc:=[]) (.inl (h5▸mem_of_lookupK hy))).elim fun c hc=>lookup_of_mem hc
 refine codeAny_call_cells (fd:=fd) (body:=body) (binds:=params.zip vs) (Nat.lt_of_le_of_lt (Nat.le_add_right _ _) w.room.depth) (w.hr.base _ _ h2) h3 (ok.nolimit.keeps w.hr.base) (h12.keeps w.hr.base) h4 (h13 vs hlv) h9 (fun y hy=>?_) (fun s₁ ic=>?_) h7 h8 h6
 ·have hy1:y.1∈params:=(List.of_mem_zip (show (y.1,y.2)∈params.zip vs from hy)).1
  have h5':fd.scope.names.lookup y.1=C.names.lookup y.1:=by rw [h5]
  rw [h5']
  exact (kinds _ (by rw [←hrest];exact List.mem_append.mpr (.inl (List.mem_map.mpr ⟨_,hy1,rfl⟩)))).imp id fun q=>⟨q,(kc _ q).elim fun c hc=>by rw [hc];rfl⟩
 ·generalize hen:callEnvC fd s.heap.objs.size fa=env at ic ⊢
  have el:env.locals=s.heap.objs.size:=by rw [←hen];rfl
  have ef:env.frame=some env.locals:=by rw [←hen];rfl
  have keep:=ic.toInCall.keep
  refine x2_1 (ic.toInCall.same) fun h₁ t₁ hs₁=>x1_2 w.fr fun fl efl hfl=>?_
  have p₁:Post P.B ι s ι H s₁:=by rw [hs₁];exact Post.keep w.hr (by rw [hs₁] at keep;exact keep)
  have nn:∀ a,env.locals<=a->s.heap.get? a=none:=fun a ha=>by
   cases z:s.heap.get? a with
   | none=>rfl
   | some o=>exact absurd (Heap.lt_size z) (Nat.not_lt.mpr (el▸ha))
  have envR:EnvR P.B C env ι s₁.heap (start C args):=by
   refine call_envR hrest hl kinds pnd (by rw [←hen];exact h6) (by rw [←hen];exact h5) (by rw [←hen];exact h10) (by rw [←hen];exact h11) (fun a ha=>⟨fun m=>?_,?_⟩) ic (fun y hy=>by rw [←hen];exact kc y hy) (p₁.vrs w.hr r)
   ·exact (w.hr.mem m).elim fun o eo=>by rw [nn a ha] at eo;cases eo
   ·cases z:P.B.get? a with
    | none=>rfl
    | some o=>have:=w.hr.base a o z;rw [nn a ha] at this;cases this
  have hi:∀ a∈own C env,s.heap.get? a=none:=fun a ha=>(mem_own ha).elim (fun q=>nn a (Nat.le_of_eq q.symm)) fun q=>x1_2 q fun y _ q=>nn a (Nat.le_of_lt (ic.above y a (mem_of_lookup q)))
  have hdf:(A.deeper env).frames=some (env::fl):=by show A.frames.map _=_;rw [efl];rfl
  clear hen
  refine gs (h (A.deeper env) _ env ι s₁ (call_w w p₁ ef envR) envR ⟨ef,fl,hdf⟩ fun l' hl' e' s' ι' H' loc' c hx _ hc=>?_) fun f s₂ ι₂ H₂ loc₂ fl p₂ e₂ r₂ g=>?_
  ·have:=Option.some.inj (hdf.symm.trans hl')
   subst this
   exact call_exc (R:=fun e s=>R (.error e) s) hdf ef hx (fun base h' xl st up=>xl.out ef keep hi (nn _ (Nat.le_refl _)) ⟨by rw [hs₁],by rw [hs₁]⟩ (fr_dict (A:=A) hfl) st up) fun s'' q=>hX fl efl _ _ ι' H' c q hc
  ·have pp:=call_out hs₁ keep hi p₂
   cases fl with
   | next=>cases r₂;exact hR .none s₂ ⟨ι₂,H₂,.none,pp,rfl,g⟩
   | brk=>exact g.elim
   | cont=>exact g.elim
   | ret v=>exact x1_2 r₂ fun u hu ru=>by subst hu;exact hR u s₂ ⟨ι₂,H₂,v,pp,ru,g⟩
   | exc c=>exact r₂.elim
theorem callOK_of {x:Str}{params:List Str}{body:List Stmt}{args:List AV}{Q:AV->Hp->Prop}(ok:P.OK) (fn:FnAt P x C params body) (good:C.good params=true) (hl:args.length=params.length)
  (h:ExsOK P C d body (start C args) H (endOf Q)):CallOK P (d+1) x args H Q X :=
 CallOK.x (callX_of ok fn good hl fun A E env ι s w e _ _=>wpAny_mono (h A E env ι s w e) (fun f s' g=>by
  obtain ⟨ι',H',loc',fl,p,e',r,g⟩:=g
  refine ⟨ι',H',loc',fl,p,e',r,?_⟩
  cases fl with
  | exc c=>exact r.elim
  | _=>exact g) fun _ _ x=>x)
end Mine
namespace Mine
open PySem
variable {P:PEnv}{C:Ctx}{d:Nat}{loc:Loc}{H:Hp}{X:XP}
noncomputable def plainArgs (es:List Expr):Prop:=∀ env pos,(backTo pos (starEach es env)).any (·.1)=false
theorem ev_call {x:Str}{pn pos:Pos}{e0:Expr}{es:List Expr}{Q:AV->Hp->Prop}(ok:P.OK) (hk:C.names.lookup x=some .globalImplicit) (hd:(x == ("__debug__" : Str))=false)
  {fa:Addr}{o:Obj}{fd:FuncData}(hg:P.mg x=some (.ref fa)) (ho:P.B.get? fa=some o) (hf:o.data=.func fd)
  (h:EvsOK P C d (e0::es) loc H (fun args H'=>CallOK P d x args H' Q X) X) (he:∀ env,starEach (e0::es) env=(false,eval e0 env)::starEach es env) :
  EvOK P C d (.Call (.Name x pn) (e0::es) [] pos) loc H Q X:=fun A E env ι s w e a=>by
 refine PyProof.Rows.Call_ (Calls.Name_function_global e.kind (by unfold Env.kindOf;rw [e.names];exact hk) (Calls.loadGlobal_global (e.glob▸ok.g.keeps fun b o e=>w.hr.base b o e) hg ?_) hd)
 refine PyProof.Rows.callWith_def (o:=o) (fd:=fd) hf (gll (h A E env ι s pos w e a) (fun vs s₁ ι₁ H₁ l p₁ r₁ g=>?_)) (he env)
 refine ⟨p₁.hr.base _ _ ho,wpAny_call (g A ι₁ s₁ vs fa _ hg (w.step p₁) r₁ (fun v s' gv=>gv.before p₁) ?_)⟩
 exact a.step p₁
theorem ev_bi {x:Str}{id:String}{pn pos:Pos}{e0:Expr}{es:List Expr}{Q:AV->Hp->Prop}(ok:P.OK) (hk:C.names.lookup x=some .globalImplicit) (hd:(x == ("__debug__" : Str))=false)
  (hg:P.mg x=none) (hb:P.mb x=some (.builtin id))
  (h:EvsOK P C d (e0::es) loc H (fun args H'=>OpOK P d (fun vs=>call (.builtin id) vs) args H' Q) X) (he:∀ env,starEach (e0::es) env=(false,eval e0 env)::starEach es env) (hp:plainArgs es) :
  EvOK P C d (.Call (.Name x pn) (e0::es) [] pos) loc H Q X:=fun A E env ι s w e a=>by
 refine PyProof.Rows.Call_ (Calls.Name_function_global e.kind (by unfold Env.kindOf;rw [e.names];exact hk) (Calls.loadGlobal_builtin (e.glob▸ok.g.keeps fun b o e=>w.hr.base b o e) hg (e.blt▸ok.b.keeps fun b o e=>w.hr.base b o e) hb ?_) hd)
 refine PyProof.Rows.callWith_builtin1 (gll (h A E env ι s pos w e a) (fun vs s₁ ι₁ H₁ l p₁ r₁ g=>?_)) (he env) (hp env pos)
 exact wpAny_mono (g A E ι₁ s₁ vs (w.step p₁) r₁) (fun v s' gv=>gv.before p₁) fun _ _ x=>x
theorem ev_ty {x:Str}{T:String}{pn pos:Pos}{e0:Expr}{es:List Expr}{Q:AV->Hp->Prop}(ok:P.OK) (hk:C.names.lookup x=some .globalImplicit) (hd:(x == ("__debug__" : Str))=false)
  (hg:P.mg x=none) (hb:P.mb x=some (.type T))
  (h:EvsOK P C d (e0::es) loc H (fun args H'=>OpOK P d (fun vs=>call (.type T) vs) args H' Q) X) (he:∀ env,starEach (e0::es) env=(false,eval e0 env)::starEach es env) (hp:plainArgs es) :
  EvOK P C d (.Call (.Name x pn) (e0::es) [] pos) loc H Q X:=fun A E env ι s w e a=>by
 refine PyProof.Rows.Call_ (Calls.Name_function_global e.kind (by unfold Env.kindOf;rw [e.names];exact hk) (Calls.loadGlobal_builtin (e.glob▸ok.g.keeps fun b o e=>w.hr.base b o e) hg (e.blt▸ok.b.keeps fun b o e=>w.hr.base b o e) hb ?_) hd)
 refine PyProof.Rows.callWith_type1 (gll (h A E env ι s pos w e a) (fun vs s₁ ι₁ H₁ l p₁ r₁ g=>?_)) (he env) (hp env pos)
 exact wpAny_mono (g A E ι₁ s₁ vs (w.step p₁) r₁) (fun v s' gv=>gv.before p₁) fun _ _ x=>x
theorem ev_isi {x y:Str}{id:String}{tv:Value}{pn pt pos:Pos}{e0:Expr}{Q:AV->Hp->Prop}(ok:P.OK) (hk:C.names.lookup x=some .globalImplicit) (hd:(x == ("__debug__" : Str))=false)
  (hg:P.mg x=none) (hb:P.mb x=some (.builtin id)) (hk':C.names.lookup y=some .globalImplicit) (hd':(y == ("__debug__" : Str))=false) (hty:P.mg y=some tv\/(P.mg y=none/\P.mb y=some tv))
  (h:EvOK P C d e0 loc H (fun v H'=>OpOK P d (fun vs=>call (.builtin id) [vs.getD 0 .none,tv]) [v] H' Q) X) (he:∀ env,starEach [e0,.Name y pt] env=(false,eval e0 env)::starEach [.Name y pt] env) :
  EvOK P C d (.Call (.Name x pn) [e0,.Name y pt] [] pos) loc H Q X:=fun A E env ι s w e a=>by
 refine PyProof.Rows.Call_ (Calls.Name_function_global e.kind (by unfold Env.kindOf;rw [e.names];exact hk) (Calls.loadGlobal_builtin (e.glob▸ok.g.keeps fun b o e=>w.hr.base b o e) hg (e.blt▸ok.b.keeps fun b o e=>w.hr.base b o e) hb ?_) hd)
 refine PyProof.Rows.callWith_builtin1 ?_ (he env) rfl
 refine wpAny_items_cons (gv (h A E env ι s w e a) (fun v s₁ ι₁ H₁ l p₁ r₁ g=>?_)) (he env)
 have e₁:=e.step w.hr p₁
 refine wpAny_items_cons (Calls.Name_function_global e₁.kind (by unfold Env.kindOf;rw [e₁.names];exact hk') ?_ hd') rfl
 have fin:wpAny (model P.prog P.w) A (spliced (backTo pos (starEach [] env))) (fun vs s₂=>wpAny (model P.prog P.w) A (call (.builtin id) (v::tv::vs)) (Gives P.B ι s Q) E s₂) E s₁ :=
  wpAny_items_nil (wpAny_mono (g A E ι₁ s₁ [v] (w.step p₁) ⟨_,_,rfl,r₁,rfl⟩) (fun _ _ gv=>gv.before p₁) fun _ _ x=>x)
 rcases hty with q|⟨q1,q2⟩
 ·exact Calls.loadGlobal_global (e₁.glob▸ok.g.keeps fun b o e=>p₁.hr.base b o e) q fin
 ·exact Calls.loadGlobal_builtin (e₁.glob▸ok.g.keeps fun b o e=>p₁.hr.base b o e) q1 (e₁.blt▸ok.b.keeps fun b o e=>p₁.hr.base b o e) q2 fin
noncomputable def MethIs (P:PEnv) (x:AV) (H:Hp) (name:Str) (id:String):Prop :=
 ∀ A E ι s v (pl:Sem Bool) (Q:Value×List Value->Shared->Prop),HR P.B ι H s.heap->VR P.B s.heap ι x v->Q (.builtin id,[v]) s->wpAny (model P.prog P.w) A (getMethod v name pl) Q E s
theorem ev_meth0 {o:Expr}{name:Str}{apos pos:Pos}{pl:Env->Sem Bool}{Q:AV->Hp->Prop}
  (h:EvOK P C d o loc H (fun x H₁=>∃ id,MethIs P x H₁ name id/\OpOK P d (fun vs=>call (.builtin id) vs) [x] H₁ Q) X)
  (he:∀ env,eval (.Call (.Attribute o name apos) [] [] pos) env=(do
   let ov ←eval o env
   standAt apos.atName
   let (f,first) ←holding [ov] (getMethod ov name (pl env))
   callWith pos f first (backTo pos (starEach [] env)) [])) :
  EvOK P C d (.Call (.Attribute o name apos) [] [] pos) loc H Q X:=fun A E env ι s w e a=>by
 refine PyProof.Rows.MethodCall_ (gv (h A E env ι s w e a) (fun v s₁ ι₁ H₁ x p₁ r₁ g=>?_)) (he env)
 refine x1_2 (g) fun id hm g=>?_
 refine hm A E ι₁ s₁ v _ _ p₁.hr r₁ ?_
 refine PyProof.Rows.callWith_method0 (wpAny_mono (g A E ι₁ s₁ [v] (w.step p₁) ⟨_,_,rfl,r₁,rfl⟩) (fun _ _ gv=>gv.before p₁) fun _ _ x=>x)
theorem ev_meth {o:Expr}{name:Str}{apos pos:Pos}{e0:Expr}{es:List Expr}{pl:Env->Sem Bool}{Q:AV->Hp->Prop}
  (h:EvOK P C d o loc H (fun x H₁=>∃ id,MethIs P x H₁ name id/\EvsOK P C d (e0::es) loc H₁ (fun args H₂=>OpOK P d (fun vs=>call (.builtin id) vs) (x::args) H₂ Q) X) X)
  (he:∀ env,eval (.Call (.Attribute o name apos) (e0::es) [] pos) env=(do
   let ov ←eval o env
   standAt apos.atName
   let (f,first) ←holding [ov] (getMethod ov name (pl env))
   callWith pos f first (backTo pos (starEach (e0::es) env)) []))
  (hs:∀ env,starEach (e0::es) env=(false,eval e0 env)::starEach es env) (hp:plainArgs es) :
  EvOK P C d (.Call (.Attribute o name apos) (e0::es) [] pos) loc H Q X:=fun A E env ι s w e a=>by
 refine PyProof.Rows.MethodCall_ (gv (h A E env ι s w e a) (fun v s₁ ι₁ H₁ x p₁ r₁ g=>?_)) (he env)
 refine x1_2 (g) fun id hm g=>?_
 refine hm A E ι₁ s₁ v _ _ p₁.hr r₁ ?_
 refine PyProof.Rows.callWith_method1 (gll (g A E env ι₁ s₁ pos (w.step p₁) (e.step w.hr p₁) (a.step p₁)) (fun vs s₂ ι₂ H₂ l p₂ r₂ g=>?_)) (hs env) (hp env pos)
 exact wpAny_mono (g A E ι₂ s₂ (v::vs) ((w.step p₁).step p₂) ⟨_,_,rfl,p₂.vr p₁.hr r₁,r₂⟩) (fun _ _ gv=>(gv.before p₂).before p₁) fun _ _ x=>x
end Mine
namespace Mine
open PySem
variable {P:PEnv}{C:Ctx}{d:Nat}{loc:Loc}{H:Hp}{X:XP}
theorem Post.off {B:Heap}{ι ι' T:List Addr}{H':Hp}{s s':Shared}{h':Heap}{t:Nat}(p:Post B ι s ι' H' s') (ext:∀ b o,b∉T->s'.heap.get? b=some o->h'.get? b=some o) (nt:NoTup T s'.heap) (ho:∀ a∈T,a∉ι')
  (hn:∀ a∈T,s.heap.get? a=none) (hb:∀ a∈T,B.get? a=none):Post B ι s ι' H' { s' with heap:=h',toks:=t } :=
 ⟨p.pre,p.hr.off ext nt ho hb,fun a o eo hna=>x1_2 (p.kept a o eo hna) fun sl e1 q1=>⟨sl,ext a _ (fun m=>absent (hn a m) eo) e1,q1⟩,p.new,p.same⟩
theorem Post.gone {B:Heap}{ι ι':List Addr}{H':Hp}{s s':Shared}(p:Post B ι s ι' H' s'){b:Addr}(hb:s'.heap.get? b=none):s.heap.get? b=none:=by
 cases z:s.heap.get? b with
 | none=>rfl
 | some o =>
  by_cases hi:b∈ι
  ·exact (p.hr.mem (p.pre.subset hi)).elim fun o' eo'=>absent hb eo'
  ·exact x1_2 (p.kept b o z hi) fun sl e1 _=>absent hb e1
noncomputable def relab (outer names:List (Str×NameKind)):List (Str×NameKind):=names.map fun (n,k)=>if (k == .free&&outer.lookup n == some .cell) then (n,.cell) else (n,k)
noncomputable def compCtx (C:Ctx) (scope:Scope) (locals:List Str):Ctx where
 vars:=(C.vars.map fun o=>o.bind fun x=>if scope.names.lookup x == some .free then some x else none)++locals.map some
 names:=relab C.names scope.names
 ro:=C.vars.length
noncomputable def compGood (C:Ctx) (scope:Scope) (locals:List Str):Bool :=
 decide (scope.kind=.function)&&decide ((scope.names.map (·.1)).Nodup)&&scope.names.all (fun x=>decide (x.2≠.cell)) &&
 scope.names.all (fun x=>x.2 != .free||(C.vars.contains (some x.1)&&(C.names.lookup x.1 == some .cell||C.names.lookup x.1 == some .free)&&((relab C.names scope.names).lookup x.1 == some .cell||(relab C.names scope.names).lookup x.1 == some .free))) &&
 locals.all (fun x=>scope.names.lookup x == some .local&&(relab C.names scope.names).lookup x == some .local)&&decide (locals.Nodup)
theorem lookup_mem {x:Str}{k:NameKind}:∀ {l:List (Str×NameKind)},(l.map (·.1)).Nodup->(x,k)∈l->l.lookup x=some k
 | (n,u)::r,nd,h=>by
  rw [List.lookup_cons]
  have:=List.nodup_cons.mp nd
  rcases List.mem_cons.mp h with e|m
  ·rw [(Prod.mk.inj e).1,(Prod.mk.inj e).2];simp
  ·have hx:x≠n:=fun e=>this.1 (e▸List.mem_map.mpr ⟨(x,k),m,rfl⟩)
   have:(x == n)=false:=by simpa using hx
   rw [this]
   exact lookup_mem (List.nodup_cons.mp nd).2 m
theorem closure_is {env:Env}:∀ (names:List (Str×NameKind)) (acc:List (Str×Addr)),(∀ x,(x,NameKind.free)∈names->∃ c,env.cells.lookup x=some c)->(∀ y∈acc,env.cells.lookup y.1=some y.2) ->
  ∃ cl:List (Str×Addr),(forIn names acc (fun (x:Str×NameKind) (cs:List (Str×Addr))=>(if x.2 == .free then (do let c ←cellOf env x.1;pure (ForInStep.yield ((x.1,c)::cs))) else pure (ForInStep.yield cs):Sem (ForInStep (List (Str×Addr)))))=pure cl) /\
   (∀ y∈cl,env.cells.lookup y.1=some y.2)/\(∀ x,((x,NameKind.free)∈names\/∃ c,(x,c)∈acc)↔∃ c,(x,c)∈cl)
 | [],acc,_,ha=>⟨acc,rfl,ha,fun x=>by simp⟩
 | (n,k)::r,acc,hf,ha=>by
  rw [List.forIn_cons]
  cases hk:k == NameKind.free with
  | true =>
   have hk':k=.free:=by simpa using hk
   subst hk'
   refine x1_1 (hf n (List.mem_cons_self ..)) fun c hc=>?_
   obtain ⟨cl,e,h1,h2⟩:=closure_is r ((n,c)::acc) (fun x hx=>hf x (List.mem_cons_of_mem _ hx)) (fun y hy=>(List.mem_cons.mp hy).elim (fun e=>by rw [e];exact hc) (ha y))
   refine ⟨cl,?_,h1,fun x=>?_⟩
   ·have:cellOf env n=pure c:=by unfold cellOf;rw [hc]
    simp only [if_true,this]
    exact e
   ·rw [←h2 x]
    constructor
    ·rintro (h|⟨c',h⟩)
     ·rcases List.mem_cons.mp h with e|m
      ·exact .inr ⟨c,by rw [(Prod.mk.inj e).1];exact List.mem_cons_self ..⟩
      ·exact .inl m
     ·exact .inr ⟨c',List.mem_cons_of_mem _ h⟩
    ·rintro (h|⟨c',h⟩)
     ·exact .inl (List.mem_cons_of_mem _ h)
     ·rcases List.mem_cons.mp h with e|m
      ·exact .inl (by rw [(Prod.mk.inj e).1];exact List.mem_cons_self ..)
      ·exact .inr ⟨c',m⟩
  | false =>
   refine x1_3 (closure_is r acc (fun x hx=>hf x (List.mem_cons_of_mem _ hx)) ha) fun cl e h1 h2=>?_
   refine ⟨cl,?_,h1,fun x=>?_⟩
   ·simp only [Bool.false_eq_true,if_false]
    exact e
   ·rw [←h2 x]
    constructor
    ·rintro (h|h)
     ·rcases List.mem_cons.mp h with e|m
      ·rw [←(Prod.mk.inj e).2] at hk;simp at hk
      ·exact .inl m
     ·exact .inr h
    ·rintro (h|h)
     ·exact .inl (List.mem_cons_of_mem _ h)
     ·exact .inr h
theorem closure_ex {env:Env}{scope:Scope}(hf:∀ x,(x,NameKind.free)∈scope.names->∃ c,env.cells.lookup x=some c) :
  ∃ cl:List (Str×Addr),closureFor scope env=pure cl/\(∀ y∈cl,env.cells.lookup y.1=some y.2)/\∀ x,(x,NameKind.free)∈scope.names↔∃ c,(x,c)∈cl:=by
 refine x1_3 (closure_is (env:=env) scope.names [] hf (fun _ h=>nomatch h)) fun cl e h1 h2=>?_
 refine ⟨cl,?_,h1,fun x=>?_⟩
 ·show (forIn scope.names ([]:List (Str×Addr)) (fun (x:Str×NameKind) (cs:List (Str×Addr))=>(if x.2 == .free then (do let c ←cellOf env x.1;pure (ForInStep.yield ((x.1,c)::cs))) else pure (ForInStep.yield cs):Sem (ForInStep (List (Str×Addr))))) >>= fun cs=>pure cs)=pure cl
  rw [e];rfl
 ·have:=h2 x
  simpa using this
noncomputable def CompR (M:Model) (A:Around) (F:Value->Shared->Prop) (elt target:Expr) (ifs:List Expr) (it acc:Value) (env:Env) (stop nxt:Shared->Prop) (r:Option Value) (s₁:Shared):Prop:=match r with
 | none=>stop s₁
 | some v=>wpAny M A (letOwnedTupleGo target it v) (fun _ s₁'=>wpAny M A (assign target env v) (fun _ s₂ =>
   wpAny M A (forIn ifs true fun c r=>if r=true then do let ok ←isTrue c env (eval c env);pure (ForInStep.yield ok) else pure (ForInStep.yield r)) (fun ok s₃ =>
    if ok=true then wpAny M A (eval elt env) (fun x s₄=>wpAny M A (call (.builtin "list.append") [acc,x]) (fun _ s₅=>nxt s₅) F s₄) F s₃ else nxt s₃) F s₂) F s₁') F s₁
theorem compLoop_go {prog:Program}{w:World}{A:Around}{R:Result->Shared->Prop}{s:Shared}{elt target iter:Expr}{ifs:List Expr}{scope:Scope}{pos:Pos}{it acc:Value}{env:Env}(I:Nat->Shared->Prop)
  (turn:∀ n s,I n s->wpAny (model prog w) A (pyNext it) (CompR (model prog w) A (notedBy (model prog w) A env fun x s'=>R (.error x) s') elt target ifs it acc env (R (.ok .next)) fun s₅=>∃ m,m<n/\I m s₅) (notedBy (model prog w) A env fun x s'=>R (.error x) s') s)
  (n:Nat) (h:I n s):codeAny (model prog w) A (.compLoop (.ListComp elt [⟨target,iter,ifs,0⟩] scope pos) 0 it acc env) R s:=by
 refine codeAny_loop rfl I (fun n s hI=>?_) n h
 show wpAny _ A ((compTurn (.ListComp elt [⟨target,iter,ifs,0⟩] scope pos) 0 it acc env).onRaise (fun x=>do noteFrame x env;theTreesLotGoes x)) _ _ s
 refine wpAny_noted ?_
 rw [compTurn_list]
 refine wpAny_bind (wpAny_standAt (wpAny_bind (wpAny_mono (turn n s hI) (fun r s₁ h₁=>?_) fun _ _ h'=>h')))
 cases r with
 | none=>exact wpAny_pure h₁
 | some v =>
  refine wpAny_bind (wpAny_mono h₁ (fun _ s₁' h₁'=>?_) fun _ _ h'=>h')
  refine wpAny_bind (wpAny_mono h₁' (fun _ s₂ h₂=>wpAny_bind (wpAny_mono h₂ (fun ok s₃ h₃=>?_) fun _ _ h'=>h')) fun _ _ h'=>h')
  cases ok with
  | false=>exact wpAny_pure ⟨rfl,h₃⟩
  | true=>exact wpAny_bind (wpAny_bind (wpAny_mono h₃ (fun x s₄ h₄=>wpAny_bind (wpAny_mono h₄ (fun _ s₅ h₅=>wpAny_pure (wpAny_pure ⟨rfl,h₅⟩)) fun _ _ h'=>h')) fun _ _ h'=>h'))
noncomputable def CondOK (P:PEnv) (C:Ctx) (d:Nat) (ifs:List Expr) (loc:Loc) (H:Hp) (K:Bool->Hp->Prop):Prop :=
 match ifs with
 | []=>K true H
 | [c]=>TsOK P C d c loc H K XF
 | _=>False
theorem cond_ok {A:Around}{E:Value->Shared->Prop}{env:Env}{ι:List Addr}{s:Shared}{ifs:List Expr}{K:Bool->Hp->Prop}(w:W P A d ι H s) (e:EnvR P.B C env ι s.heap loc) (h:CondOK P C d ifs loc H K) :
  wpAny (model P.prog P.w) A (forIn ifs true fun c r=>if r=true then do let ok ←isTrue c env (eval c env);pure (ForInStep.yield ok) else pure (ForInStep.yield r)) (GivesB P.B ι s K) E s:=by
 match ifs,h with
 | [],h=>exact wpAny_tests_nil ⟨ι,H,Post.id w.hr,h⟩
 | [c],h=>exact wpAny_tests_one (h A E env ι s w e Acc.no)
structure CompOK (C:Ctx) (scope:Scope) (locals:List Str):Prop where
 kind:scope.kind=.function
 nodup:(scope.names.map (·.1)).Nodup
 nocell:∀ x∈scope.names,x.2≠.cell
 free:∀ x,(x,NameKind.free)∈scope.names->some x∈C.vars/\(C.names.lookup x=some .cell\/C.names.lookup x=some .free)/\((relab C.names scope.names).lookup x=some .cell\/(relab C.names scope.names).lookup x=some .free)
 locs:∀ x∈locals,scope.names.lookup x=some .local/\(relab C.names scope.names).lookup x=some .local
 lnd:locals.Nodup
theorem compGood_ok {C:Ctx}{scope:Scope}{locals:List Str}(h:compGood C scope locals=true):CompOK C scope locals:=by
 simp only [compGood,Bool.and_eq_true,decide_eq_true_eq,List.all_eq_true] at h
 refine x0_2 (h) fun qQ0 h6=>?_
 clear h
 obtain ⟨⟨⟨⟨h1,h2⟩,h3⟩,h4⟩,h5⟩:=qQ0
 refine ⟨h1,h2,fun x hx=>by simpa using h3 x hx,fun x hx=>?_,fun x hx=>by simpa using h5 x hx,h6⟩
 have:=h4 _ hx
 simpa [and_assoc] using this
structure CpS (P:PEnv) (C':Ctx) (cenv:Env) (ι₁:List Addr) (H₁:Hp) (s₁:Shared) (wr:List Addr) (D Ca:Addr):Prop where
 hr:HR P.B ι₁ H₁ s₁.heap
 capd:∀ x c,cenv.cells.lookup x=some c->∃ o,s₁.heap.get? c=some o
 ownC:∀ b∈own C' cenv,b=Ca
 wrn:∀ a∈wr,s₁.heap.get? a=none
 wrD:∀ b∈wr,b≠D/\b≠Ca
 nD:s₁.heap.get? D=none
 nC:s₁.heap.get? Ca=none
 ne:D≠Ca
 loc:cenv.locals=Ca
structure CpA (P:PEnv) (C':Ctx) (cenv:Env) (ι₁:List Addr) (s₁:Shared) (wr:List Addr) (D:Addr) (l:List AV) (vs:List Value) (ι':List Addr) (H':Hp) (s':Shared) (lc:Loc):Prop where
 p:Post P.B ι₁ s₁ ι' H' s'
 e:EnvR P.B C' cenv ι' s'.heap lc
 pl:s'.heap.PlainList D (List.toArray vs)
 rl:VRs P.B s'.heap ι' l vs
 wrO:∀ b∈wr,b∉ι'
 dO:D∉ι'
section
variable {C':Ctx}{cenv:Env}{ι₁:List Addr}{H₁:Hp}{s₁:Shared}{wr:List Addr}{D Ca:Addr}{l:List AV}{vs:List Value}{ι':List Addr}{H':Hp}{s':Shared}{lc:Loc}
theorem CpA.off (a:CpA P C' cenv ι₁ s₁ wr D l vs ι' H' s' lc) (S:CpS P C' cenv ι₁ H₁ s₁ wr D Ca){h':Heap}{t:Nat}(nt:NoTup wr s'.heap) (ext:∀ b o,b∉wr->s'.heap.get? b=some o->h'.get? b=some o) :
  CpA P C' cenv ι₁ s₁ wr D l vs ι' H' { s' with heap:=h',toks:=t } lc :=
 ⟨a.p.off ext nt a.wrO S.wrn fun b hb=>S.hr.noB (S.wrn b hb),a.e.off ext nt (fun m=>(S.wrD _ m).2 S.loc) (fun x c _ hc m=>(S.capd x c hc).elim fun o eo=>absent (S.wrn c m) eo),
  a.pl.at fun o eo=>ext D o (fun m=>(S.wrD D m).1 rfl) eo,VRs.mono (Kept.of_keeps ext) nt (List.prefix_refl _) _ _ a.rl,a.wrO,a.dO⟩
theorem keepD {S:List Addr}{ha hb:Heap}{us:List Value}(kp:Kept S ha hb) (hn:D∉S) (q:ha.PlainList D (List.toArray us)):hb.PlainList D (List.toArray us):=q.elim fun n eo=>⟨n,kp.exact eo hn fun _ _ z=>by cases z⟩
theorem CpS.own (S:CpS P C' cenv ι₁ H₁ s₁ wr D Ca){b:Addr}(hb:b∈own C' cenv++ι'):b=Ca\/b∈ι':=(List.mem_append.mp hb).imp (S.ownC b) id
theorem CpA.tgt (a:CpA P C' cenv ι₁ s₁ wr D l vs ι' H' s' lc) (S:CpS P C' cenv ι₁ H₁ s₁ wr D Ca){s₂:Shared}{lc':Loc}(q:PostS P.B (own C' cenv) ι' s' ι' H' s₂) (e:EnvR P.B C' cenv ι' s₂.heap lc'):CpA P C' cenv ι₁ s₁ wr D l vs ι' H' s₂ lc' :=
 ⟨⟨a.p.pre,q.hr,fun b o eo hn=>x1_2 (a.p.kept b o eo hn) fun sl e1 z1=>x1_2 (q.kept b _ e1 fun m=>(S.own m).elim (fun z=>absent S.nC (z▸eo)) fun z=>(a.p.new b z).elim hn fun u=>absent u eo) fun sl' e2 z2=>⟨sl',e2,fun c=>(z2 c).trans (z1 c)⟩,
   a.p.new,q.same.1.trans a.p.same.1,q.same.2.trans a.p.same.2⟩,e,keepD q.kept (fun m=>(S.own m).elim S.ne a.dO) a.pl,VRs.mono q.kept (a.e.noTup a.p.hr) (List.prefix_refl _) _ _ a.rl,a.wrO,a.dO⟩
theorem CpA.post (a:CpA P C' cenv ι₁ s₁ wr D l vs ι' H' s' lc){ι₂:List Addr}{H₂:Hp}{s₂:Shared}(q:Post P.B ι' s' ι₂ H₂ s₂) (th:∀ a∈wr,∃ o,s'.heap.get? a=some o/\∀ vs n,o.data≠.seq vs n):CpA P C' cenv ι₁ s₁ wr D l vs ι₂ H₂ s₂ lc :=
 ⟨a.p.trans q,a.e.step a.p.hr q,keepD q.kept a.dO a.pl,q.vrs a.p.hr a.rl,fun b hb m=>(q.new b m).elim (a.wrO b hb) fun u=>x1_2 (th b hb) fun o eo _=>absent u eo,fun m=>(q.new D m).elim a.dO fun u=>a.pl.elim fun n eo=>absent u eo⟩
theorem plain_noTup {h:Heap}(pl:h.PlainList D (List.toArray vs)):NoTup [D] h:=fun b hb us t=>by
 rw [List.mem_singleton.mp hb] at t
 refine x1_3 t fun o' eo' c' _=>pl.elim fun n eo=>?_
 have:=Option.some.inj (eo.symm.trans eo')
 subst this
 simp at c'
theorem CpA.app (a:CpA P C' cenv ι₁ s₁ wr D l vs ι' H' s' lc) (S:CpS P C' cenv ι₁ H₁ s₁ wr D Ca){h':Heap}{u:Value}{x:AV}(pl':h'.PlainList D (List.toArray (vs++[u]))) (ext:∀ b o,b∉[D]->s'.heap.get? b=some o->h'.get? b=some o) (r:VR P.B s'.heap ι' x u) :
  CpA P C' cenv ι₁ s₁ wr D (l++[x]) (vs++[u]) ι' H' { s' with heap:=h',toks:=s'.toks } lc :=
 have nt:=plain_noTup a.pl
 have one:∀ {Z:Addr->Prop},Z D->∀ b∈[D],Z b:=fun z b hb=>List.mem_singleton.mp hb▸z
 ⟨a.p.off ext nt (one (Z:=fun b=>b∉ι') a.dO) (one (Z:=fun b=>s₁.heap.get? b=none) S.nD) (one (Z:=fun b=>P.B.get? b=none) (S.hr.noB S.nD)),a.e.off ext nt (fun m=>S.ne ((List.mem_singleton.mp m).symm.trans S.loc)) (fun x c _ hc m=>(S.capd x c hc).elim fun o eo=>absent S.nD (List.mem_singleton.mp m▸eo)),
  pl',VRs.append (VRs.mono (Kept.of_keeps ext) nt (List.prefix_refl _) _ _ a.rl) ⟨u,[],rfl,VR.mono (Kept.of_keeps ext) nt (List.prefix_refl _) _ _ r,rfl⟩,a.wrO,a.dO⟩
end
inductive CpI (P:PEnv) (C':Ctx) (cenv:Env) (ι₁:List Addr) (s₁:Shared) (wr:List Addr) (D:Addr) (It:Nat->List Addr->Heap->Prop) (loc:Loc) (q m:Nat) (J:Nat->List AV->Hp->Prop) (n:Nat) (s':Shared):Prop where
 | mk (k:Nat) (ι':List Addr) (H':Hp) (l:List AV) (vs:List Value) (cv:Loc) (hn:n=m+1-k) (hk:k<=m) (hl:l.length<=k) (hcv:cv.length=q) (a:CpA P C' cenv ι₁ s₁ wr D l vs ι' H' s' (loc++cv)) (it:It k ι' s'.heap) (j:J k l H')
theorem CpI.el {C':Ctx}{cenv:Env}{ι₁:List Addr}{s₁:Shared}{wr:List Addr}{D:Addr}{It:Nat->List Addr->Heap->Prop}{q m:Nat}{J:Nat->List AV->Hp->Prop}{n:Nat}{s':Shared}{G:Prop}(h:CpI P C' cenv ι₁ s₁ wr D It loc q m J n s')
  (g:∀ k ι' H' l vs cv,n=m+1-k->k<=m->l.length<=k->cv.length=q->CpA P C' cenv ι₁ s₁ wr D l vs ι' H' s' (loc++cv)->It k ι' s'.heap->J k l H'->G):G:=by
 cases h with|mk k ι' H' l vs cv h1 h2 h3 h4 h5 h6 h7=>exact g k ι' H' l vs cv h1 h2 h3 h4 h5 h6 h7
theorem comp_turn {tt:Bool}{elt tgt:Expr}{ifs:List Expr}{C':Ctx}{cenv:Env}{ι₁:List Addr}{H₁:Hp}{s₁:Shared}{wr:List Addr}{D Ca I:Addr}{items:List AV}{Cnd:Hp->Prop}{It:Nat->List Addr->Heap->Prop}{Mid:Nat->Value->List Addr->Heap->Prop}{q:Nat}{J:Nat->List AV->Hp->Prop}{K:List AV->Hp->Prop}
  {A:Around}{F:Value->Shared->Prop}{stop:Shared->Prop}{n:Nat}{s':Shared}(hF:∀ l vs ι' H' s' lc,CpA P C' cenv ι₁ s₁ wr D l vs ι' H' s' lc->Acc P A X ι' s' F) (S:CpS P C' cenv ι₁ H₁ s₁ wr D Ca) (w₁:W P A d ι₁ H₁ s₁) (itr:Itr P tt I wr items Cnd It Mid) (ht:tt=true->isTupE tgt=true) (hsz:items.length<=sizeLine)
  (turn:∀ k l H,J k l H->Cnd H/\(∀ y,items[k]?=some y->∀ cv:Loc,cv.length=q->TgOK P C' tgt y (loc++cv) (fun l'=>(∃ cv':Loc,cv'.length=q/\l'=loc++cv')/\CondOK P C' d ifs l' H (fun b H' =>
    if b then EvOK P C' d elt l' H' (fun v H''=>J (k+1) (l++[v]) H'') X else J (k+1) l H')))/\(k=items.length->K l H))
  (fin:∀ ι' H' l vs s' lc,CpA P C' cenv ι₁ s₁ wr D l vs ι' H' s' lc->l.length<=sizeLine->K l H'->stop s') (hI:CpI P C' cenv ι₁ s₁ wr D It loc q items.length J n s') :
  wpAny (model P.prog P.w) A (pyNext (.ref I)) (CompR (model P.prog P.w) A F elt tgt ifs (.ref I) (.ref D) cenv stop fun s₅=>∃ m,m<n/\CpI P C' cenv ι₁ s₁ wr D It loc q items.length J m s₅) F s':=by
 refine hI.el fun k ι' H' l vs cv hn hk hlk hcv a hit hj=>?_
 clear hI
 refine x0_3 (turn k l H' hj) fun hc htg hend=>?_
 clear turn
 have w':=w₁.step a.p
 have nt0:=ntw (itr.there k ι' _ hit)
 cases hx:items[k]? with
 | none =>
  have hke:k=items.length:=Nat.le_antisymm hk (List.getElem?_eq_none_iff.mp hx)
  exact itr.stop A _ ι' H' s' _ w'.qt w'.hr hc (hke▸hit) fun h' tk' ext=>fin ι' H' l vs _ _ (a.off S nt0 ext) (Nat.le_trans hlk (Nat.le_trans hk hsz)) (hend hke)
 | some y =>
  have hkl:k<items.length:=(List.getElem?_eq_some_iff.mp hx).1
  have nx:∀ {ι₂ H₂ l₂ vs₂ s₂ cv'},cv'.length=q->l₂.length<=k+1->CpA P C' cenv ι₁ s₁ wr D l₂ vs₂ ι₂ H₂ s₂ (loc++cv')->It (k+1) ι₂ s₂.heap->J (k+1) l₂ H₂->∃ m,m<n/\CpI P C' cenv ι₁ s₁ wr D It loc q items.length J m s₂ :=
   fun h1 h2 h3 h4 h5=>⟨_,next_lt hn hkl,k+1,_,_,_,_,_,rfl,hkl,h2,h1,h3,h4,h5⟩
  refine itr.next A _ ι' H' s' k y _ w'.qt w'.hr hc hit hx fun v h₅ tk₅ rv mid ext₅=>?_
  have a₅:=a.off (t:=tk₅) S nt0 ext₅
  have nt1:=ntw (itr.thereM k v ι' _ mid)
  refine itr.go tgt A _ ι' { s' with heap:=h₅,toks:=tk₅ } k v _ ht mid fun h₆ it₆ ext₆=>?_
  have a₆:=a₅.off (t:=tk₅) S nt1 ext₆
  refine wpAny_mono (htg y hx cv hcv A _ cenv ι' H' { s' with heap:=h₆,toks:=tk₅ } v w'.qt a₆.p.hr a₆.e (VR.mono (S:=wr) (Kept.of_keeps ext₆) nt1 (List.prefix_refl _) _ _ rv)) (fun _ s₇ g=>g.el fun loc₇ q₇ e₇ g=>?_) fun _ _ x=>x
  refine x0_2 (g) fun qQ0 nQ=>?_
  clear g
  revert nQ
  intro g
  obtain ⟨cv',hcv',rfl⟩:=qQ0
  have a₇:=a₆.tgt S q₇ e₇
  have it₇:It (k+1) ι' s₇.heap:=itr.mono _ _ _ _ _ _ it₆ q₇.kept (a₆.e.noTup a₆.p.hr) (List.prefix_refl _) fun b hb m=>(S.own m).elim (S.wrD b hb).2 (a.wrO b hb)
  refine gb (cond_ok (w₁.step a₇.p) e₇ g) fun ok s₈ ι₈ H₈ q₈ g=>?_
  have a₈:=a₇.post q₈ (itr.there _ _ _ it₇)
  have it₈:It (k+1) ι₈ s₈.heap:=itr.mono _ _ _ _ _ _ it₇ q₈.kept a₇.p.hr.noTup q₈.pre a₇.wrO
  cases ok with
  | false=>exact nx hcv' (Nat.le_succ_of_le hlk) a₈ it₈ g
  | true =>
   refine gv (g A _ cenv ι₈ s₈ (w₁.step a₈.p) a₈.e (hF _ _ _ _ _ _ a₈)) fun u s₉ ι₉ H₉ av q₉ rv₉ g=>?_
   have a₉:=a₈.post q₉ (itr.there _ _ _ it₈)
   have it₉:It (k+1) ι₉ s₉.heap:=itr.mono _ _ _ _ _ _ it₈ q₉.kept a₈.p.hr.noTup q₉.pre a₈.wrO
   refine wpAny_list_append_plain a₉.pl (fun h₁₀ pl₁₀ sb₁₀=>?_) (by rw [List.size_toArray,a₉.rl.length];exact Nat.le_trans hlk (Nat.le_trans hk hsz))
   have ext₁₀:∀ b o,b∉[D]->s₉.heap.get? b=some o->h₁₀.get? b=some o:=fun b o hb eo=>sb₁₀.extBut b o (fun z=>hb (z▸List.mem_singleton.mpr rfl)) eo
   exact nx hcv' (by rw [List.length_append];exact Nat.succ_le_succ hlk) (a₉.app S (List.push_toArray vs u▸pl₁₀) ext₁₀ rv₉) (itr.mono _ _ _ _ _ _ it₉ (Kept.of_keeps ext₁₀) (plain_noTup a₉.pl) (List.prefix_refl _) fun b hb m=>(S.wrD b hb).1 (List.mem_singleton.mp m)) g
theorem relab_names {scope:Scope}{env:Env}(hk:env.scope.kind=.function) (hn:env.scope.names=C.names):(relabel scope env).names=relab C.names scope.names:=by
 unfold relabel relab Env.kindOf
 rw [hk,hn]
 exact List.map_congr_left fun y hy=>by simp
theorem comp_own {scope:Scope}{locals:List Str}{cenv:Env}{Ca:Addr}{cl:List (Str×Addr)}(cg:CompOK C scope locals) (celC:cenv.cells=cl) (locC:cenv.locals=Ca) (cl4:∀ x c,cl.lookup x=some c->(x,NameKind.free)∈scope.names):∀ b∈own (compCtx C scope locals) cenv,b=Ca:=fun b hb=>by
 refine (List.mem_cons.mp hb).elim (fun q=>by rw [q,locC]) fun m=>?_
 exfalso
 refine x1_2 (List.mem_filterMap.mp m) fun ox hox eb=>?_
 cases ox with
 | none=>cases eb
 | some x =>
  have eb:cenv.cells.lookup x=some b:=eb
  rw [celC] at eb
  have hx:some x∈locals.map some:=by
   have:(compCtx C scope locals).vars.drop (compCtx C scope locals).ro=locals.map some:=by
    show List.drop C.vars.length ((C.vars.map _)++locals.map some)=_
    rw [List.drop_append_of_le_length (by simp)]
    simp
   rw [this] at hox;exact hox
  refine x1_2 (List.mem_map.mp hx) fun y hy ey=>?_
  cases ey
  have:=(cg.locs x hy).1
  rw [lookup_mem cg.nodup (cl4 x b eb)] at this
  cases this
theorem comp_env {scope:Scope}{locals:List Str}{env cenv:Env}{Ca:Addr}{cl:List (Str×Addr)}{ι₁:List Addr}{H₁:Hp}{s₁:Shared}{h₄:Heap}{m:Str->Option Value}(cg:CompOK C scope locals) (hr:HR P.B ι₁ H₁ s₁.heap) (e₁:EnvR P.B C env ι₁ s₁.heap loc)
  (hc:compEnvC scope cl Ca env=cenv) (cl1:∀ y∈cl,env.cells.lookup y.1=some y.2) (cl2:∀ x,(x,NameKind.free)∈scope.names↔∃ c,(x,c)∈cl) (nC:s₁.heap.get? Ca=none) (ns:h₄.Ns Ca m) (m0:∀ x,m x=none) (old:∀ b o,s₁.heap.get? b=some o->h₄.get? b=some o) :
  EnvR P.B (compCtx C scope locals) cenv ι₁ h₄ (loc++List.replicate locals.length none):=by
 have celC:cenv.cells=cl:=by rw [←hc];rfl
 have locC:cenv.locals=Ca:=by rw [←hc];rfl
 have nmC:cenv.scope.names=relab C.names scope.names:=by rw [←hc];exact relab_names e₁.kind e₁.names
 have cl3:∀ x c,cenv.cells.lookup x=some c->env.cells.lookup x=some c/\(x,NameKind.free)∈scope.names:=fun x c hc =>
  have hc:cl.lookup x=some c:=celC▸hc
  ⟨cl1 _ (mem_of_lookup hc),(cl2 x).mpr ⟨c,mem_of_lookup hc⟩⟩
 have kd:∀ x k,(relab C.names scope.names).lookup x=k->cenv.kindOf x=k:=fun x k q=>by unfold Env.kindOf;rw [nmC];exact q
 refine ⟨by rw [←hc];exact cg.kind,nmC,by rw [←hc];exact e₁.glob,by rw [←hc];exact e₁.blt,⟨_,locC▸ns⟩,fun q=>(hr.mem q).elim fun o eo=>absent nC (locC▸eo),locC▸hr.noB nC,fun x c hm hc=>?_,fun x c hm hc=>?_,fun x y c hx hy hc hc'=>?_,by simp [compCtx,e₁.len],fun i x hi=>?_⟩
 ·have q:=cl3 x c hc
  have o3:=e₁.offC x c (cg.free x q.2).1 q.1
  exact ⟨o3.1,fun z=>(e₁.isC x c (cg.free x q.2).1 q.1).elim fun ov r=>x1_2 r fun o eo _=>absent nC (z.trans locC▸eo),o3.2.2⟩
 ·have q:=cl3 x c hc
  exact (e₁.isC x c (cg.free x q.2).1 q.1).elim fun ov r=>⟨ov,r.keeps old⟩
 ·have q:=cl3 x c hc
  have r:=cl3 y c hc'
  exact e₁.apart x y c (cg.free x q.2).1 (cg.free y r.2).1 q.1 r.1
 ·by_cases hlt:i<C.vars.length
  ·have hi':(C.vars.map fun o=>o.bind fun x=>if scope.names.lookup x == some .free then some x else none)[i]?=some (some x):=by
    rw [←hi];show _=((C.vars.map _)++locals.map some)[i]?
    rw [List.getElem?_append_left (by simpa using hlt)]
   rw [List.getElem?_map] at hi'
   refine x1_2 (Option.map_eq_some_iff.mp hi') fun ox eox hox=>?_
   refine x1_2 (Option.bind_eq_some_iff.mp hox) fun y hy hoy=>?_
   clear hox
   subst hy
   by_cases hfree:(scope.names.lookup y == some .free)=true
   ·rw [if_pos hfree] at hoy
    have:=Option.some.inj hoy
    subst this
    have q2:(y,NameKind.free)∈scope.names:=mem_of_lookup (by simpa using hfree)
    refine x0_3 (cg.free y q2) fun _ f2 f3=>x1_2 (e₁.vars i y eox) fun ov hs hv=>?_
    refine hs.elim (fun q=>?_) fun q=>x1_2 q.2 fun c ec rc=>?_
    ·have k:=q.1
     unfold Env.kindOf at k;rw [e₁.names] at k
     exact f2.elim (fun z=>by rw [z] at k;cases k) fun z=>by rw [z] at k;cases k
    ·refine ((cl2 y).mp q2).elim fun c' hc'=>(lookup_of_mem hc').elim fun c'' hc''=>?_
     have h3:cenv.cells.lookup y=some c'':=by rw [celC];exact hc''
     have:=Option.some.inj (ec.symm.trans (cl3 y c'' h3).1)
     subst this
     refine ⟨ov,.inr ⟨f3.imp (kd _ _) (kd _ _),c,h3,rc.keeps old⟩,fun dd hd=>?_⟩
     rw [List.getElem?_append_left (by rw [e₁.len];exact hlt)] at hd
     exact x1_2 (hv dd hd) fun v' ev rv=>⟨v',ev,VR.mono (kept_nil_of old) noTup_nil (List.prefix_refl _) _ _ rv⟩
   ·rw [if_neg hfree] at hoy;cases hoy
  ·have hi':(locals.map some)[i-C.vars.length]?=some (some x):=by
    rw [←hi];show _=((C.vars.map _)++locals.map some)[i]?
    rw [List.getElem?_append_right (by simpa using Nat.not_lt.mp hlt)]
    simp
   refine x1_2 (List.mem_map.mp (List.mem_of_getElem? hi')) fun y hy ey=>?_
   have:=Option.some.inj ey
   subst this
   refine ⟨none,.inl ⟨kd _ _ (cg.locs y hy).2,_,locC▸ns,m0 y⟩,fun dd hd=>?_⟩
   rw [List.getElem?_append_right (by rw [e₁.len];exact Nat.not_lt.mp hlt),List.getElem?_replicate] at hd
   split at hd<;>simp at hd
noncomputable def TopF (A:Around) (env:Env):Prop:=∃ env0 l L,A.frames=some (env0::l)/\env0.frame=some L/\env.frame=some L
theorem XLeft.comp {B:Heap}{l:List Env}{ι ι₈ ι':List Addr}{s s₈ s':Shared}{H₈ H':Hp}{base h₃:Heap}{Ca:Addr}{o₈:Obj}(x:XLeft B l [] ι₈ s₈ ι' H' base s') (p:Post B ι s ι₈ H₈ s₈) (hC:s.heap.get? Ca=none) (hB:B.get? Ca=none) (h8:s₈.heap.get? Ca=some o₈) (hd:∃ es n,o₈.data=.dict es n) (n8:Ca∉ι₈)
  (nl:Ca∉fAs l) (st:(base.hide Ca).StaysIn h₃) (up:∀ b o,b≠Ca->s'.heap.get? b=some o->(∀ vs,o.data≠.fields vs)->∃ sl,h₃.get? b=some { o with slots:=sl }) (fr:∀ a∈fAs l,∀ o,s.heap.get? a=some o->∃ es n,o.data=.dict es n) :
  XLeft B l [] ι s ι' H' (base.hide Ca) { s' with heap:=h₃ }:=by
 have y:=x.before p
 have n':Ca∉ι':=fun m=>(x.new Ca m).elim n8 fun z=>by rw [h8] at z;cases z
 have ne:∀ {a:Addr}{o:Obj},s.heap.get? a=some o->a≠Ca:=fun e z=>by rw [z,hC] at e;cases e
 have nt:NoTup [Ca] base:=one_mem (Z:=fun b=>∀ vs,¬ PyProof.Rows.IsTup base b vs) fun vs t=>x1_1 (x.inb Ca o₈ h8 (by simpa using n8) nl) fun sl e=>x1_3 t fun o' e' _ q=>q.elim fun n d'=>x2_1 hd fun es m d1=>by
  rw [e] at e';cases e'
  rw [show ({ o₈ with slots:=sl }:Obj).data=o₈.data from rfl,d1] at d';cases d'
 refine ⟨y.pre,y.hr.off (T:=[Ca]) (fun b o hb e=>(Heap.hide_ne base (a:=Ca) (b:=b) fun z=>hb (z▸List.mem_singleton.mpr rfl)).trans e) nt (one_mem (Z:=fun b=>b∉ι') n') (one_mem (Z:=fun b=>B.get? b=none) hB),st,fun a o e hn=>?_,fun a o e hn hf=>?_,y.new,y.same⟩
 ·refine x1_2 (y.kept a o e hn) fun sl e1 q1=>?_
  by_cases hf:a∈fAs l
  ·refine x2_1 (fr a hf o e) fun es n dd=>?_
   obtain ⟨sl',e2⟩:=up a _ (ne e) e1 fun vs q=>by rw [show ({ o with slots:=sl }:Obj).data=o.data from rfl,dd] at q;cases q
   exact ⟨sl',e2,fun c=>absurd dd (c es n)⟩
  ·refine x1_1 (y.inb a o e hn hf) fun sl' e2=>?_
   have e3:=y.stays a _ e2
   rw [e1] at e3
   have e4:sl'=sl:=by injection e3 with q;injection q with _ _ _ q;exact q.symm
   subst e4
   exact ⟨sl',st a _ ((Heap.hide_ne _ (ne e)).trans e2),q1⟩
 ·exact x1_1 (y.inb a o e hn hf) fun sl e2=>⟨sl,(Heap.hide_ne _ (ne e)).trans e2⟩
theorem comp_core {tt:Bool}{elt tgt it:Expr}{ifs:List Expr}{scope:Scope}{locals:List Str}{pos:Pos}{use:Option (Value->Sem Unit)}{Qc:Value->Shared->Prop}{K:List AV->Hp->Prop}{A:Around}{E:Value->Shared->Prop}{env:Env}{ι:List Addr}{s:Shared}
  (cg:CompOK C scope locals) (w:W P A d ι H s) (e:EnvR P.B C env ι s.heap loc) (a:Acc P A X ι s E){X₂:XP}(tf:∀ c H,X₂ c H->X c H/\TopF A env)
  (ht:tt=true->isTupE tgt=true) (h:ItEv P tt C d it loc H (fun items Cnd H₁=>items.length<=sizeLine/\∃ J:Nat->List AV->Hp->Prop,J 0 [] H₁/\∀ k l H,J k l H->Cnd H /\
   (∀ y,items[k]?=some y->∀ cv:Loc,cv.length=locals.length->TgOK P (compCtx C scope locals) tgt y (loc++cv) (fun l'=>(∃ cv':Loc,cv'.length=locals.length/\l'=loc++cv')/\CondOK P (compCtx C scope locals) d ifs l' H (fun b H' =>
    if b then EvOK P (compCtx C scope locals) d elt l' H' (fun v H''=>J (k+1) (l++[v]) H'') X₂ else J (k+1) l H'))) /\
   (k=items.length->K l H)) X)
  (hs:∀ x,foldedSetIterable it env x=pure x)
  (fin:∀ D Ca ι' H' l s' m,Post P.B ι s ι' H' s'->(∃ vs,s'.heap.PlainList D (List.toArray vs)/\VRs P.B s'.heap ι' l vs)->s.heap.get? D=none->s.heap.get? Ca=none->D∉ι'->Ca∉ι'->D≠Ca->s'.heap.Ns Ca m->l.length<=sizeLine->K l H' ->
   compPost (model P.prog P.w) A E use Qc (.ref D) Ca (.ok .next) s') :
  wpAny (model P.prog P.w) A (comprehension (.ListComp elt [⟨tgt,it,ifs,0⟩] scope pos) scope env it.pos (newList []) false (eval it env) use) Qc E s:=by
 refine x1_3 (closure_ex (env:=env) (scope:=scope) fun x hx=>?_) fun cl hcl cl1 cl2=>?_
 ·refine x0_3 (cg.free x hx) fun q1 q2 _=>?_
  refine x1_1 (List.getElem_of_mem q1) fun i qQ1=>?_
  obtain ⟨hi,ei⟩:=qQ1
  refine x1_2 (e.vars i x (by rw [List.getElem?_eq_getElem hi,ei])) fun ov hs _=>hs.elim (fun q=>?_) fun q=>q.2.elim fun c r=>⟨c,r.1⟩
  have k:=q.1
  unfold Env.kindOf at k;rw [e.names] at k
  exact q2.elim (fun z=>by rw [z] at k;cases k) fun z=>by rw [z] at k;cases k
 refine wpAny_comprehension_free (g:=⟨tgt,it,ifs,0⟩) (gs:=[]) rfl hs hcl cg.kind (fun x hx hl=>lookup_mem cg.nodup (by rw [←hl];exact hx)) (gi (h A E env ι s w e a) fun v s₀ ι₁ H₁ items Cnd s₁ p₁ io g=>?_)
 have hsz:=g.1
 refine x1_2 g.2 fun J j0 turn=>?_
 clear g
 have w₁:=w.step p₁
 have e₁:=e.step w.hr p₁
 refine io E _ fun I wr It Mid h₂ tk itr it0 wrn k₂=>?_
 refine wpAny_newObj_type (wpAny_newFunctionEnv cg.nocell (by intro y hy;simp at hy) (fun h₄ hns₄ hsb₄=>?_) cg.kind) (by size_fits)
 generalize hD:h₂.objs.size=D at *
 have szH:(h₂.push { cls:=.type "list",dict:=none,data:=.seq ([]:List Value).toArray }).objs.size=D+1:=by rw [Heap.size_push,hD]
 have hnD:∀ b o,h₂.get? b=some o->b<D:=fun b o eo=>hD▸Heap.lt_size eo
 have qD:(h₂.push { cls:=.type "list",dict:=none,data:=.seq ([]:List Value).toArray }).get? D=some { cls:=.type "list",dict:=none,data:=.seq ([]:List Value).toArray }:=by rw [←hD];exact Heap.get?_push_size _ rfl
 generalize hCa:(h₂.push { cls:=.type "list",dict:=none,data:=.seq ([]:List Value).toArray }).objs.size=Ca at *
 have hDCa:D<Ca:=by rw [szH];exact Nat.lt_succ_self _
 have old:∀ b o,h₂.get? b=some o->h₄.get? b=some o:=fun b o eo=>hsb₄.extBut b o (Nat.ne_of_lt (Nat.lt_trans (hnD b o eo) hDCa)) (Heap.get?_push_of_some _ (Heap.get?_push_of_some _ eo))
 have pl₄:h₄.PlainList D (List.toArray []):=⟨0,hsb₄.extBut D _ (Nat.ne_of_lt hDCa) (Heap.get?_push_of_some _ qD)⟩
 have no:∀ b,¬ b<D->s₁.heap.get? b=none:=fun b hb=>by
  cases z:s₁.heap.get? b with
  | none=>rfl
  | some o=>exact absurd (hnD b o (k₂ b o z)) hb
 clear hsb₄ qD szH hD hCa
 generalize hcenv:compEnvC scope cl Ca env=cenv
 have celC:cenv.cells=cl:=by rw [←hcenv];rfl
 have S:CpS P (compCtx C scope locals) cenv ι₁ H₁ s₁ wr D Ca:=by
  refine ⟨w₁.hr,fun x c hc=>?_,comp_own cg celC (by rw [←hcenv];rfl) fun x c hc=>(cl2 x).mpr ⟨c,mem_of_lookup hc⟩,wrn,fun b hb=>?_,no D (Nat.lt_irrefl _),no Ca (Nat.not_lt_of_le (Nat.le_of_lt hDCa)),Nat.ne_of_lt hDCa,by rw [←hcenv];rfl⟩
  ·rw [celC] at hc
   exact (e₁.isC x c (cg.free x ((cl2 x).mpr ⟨c,mem_of_lookup hc⟩)).1 (cl1 _ (mem_of_lookup hc))).elim fun ov r=>r.elim fun o z=>⟨o,z.1⟩
  ·refine x1_2 (itr.there 0 _ _ it0 b hb) fun o eo _=>?_
   have:=hnD b o eo
   exact ⟨Nat.ne_of_lt this,Nat.ne_of_lt (Nat.lt_trans this hDCa)⟩
 have old₁:∀ b o,s₁.heap.get? b=some o->h₄.get? b=some o:=fun b o eo=>old b o (k₂ b o eo)
 have envR₄:=comp_env cg w₁.hr e₁ hcenv cl1 cl2 S.nC hns₄ (fun _=>rfl) old₁
 have it₄:It 0 ι₁ h₄:=itr.mono 0 _ _ [] _ _ it0 (kept_nil_of old) noTup_nil (List.prefix_refl _) (fun _ _=>List.not_mem_nil)
 have loop:codeAny (model P.prog P.w) A (.compLoop (.ListComp elt [⟨tgt,it,ifs,0⟩] scope pos) 0 (.ref I) (.ref D) cenv) (compPost (model P.prog P.w) A E use Qc (.ref D) Ca) { s₁ with heap:=h₄,toks:=tk }:=by
  refine compLoop_go (CpI P (compCtx C scope locals) cenv ι₁ s₁ wr D It loc locals.length items.length J) (fun n s' hI=>comp_turn (fun l vs ι' H' s' lc a₈=>?_) S w₁ itr ht hsz turn (fun ι' H' l vs s' lc a hl hk=>a.e.ns.elim fun m₅ n₅=>?_) hI) (items.length+1)
   ⟨0,ι₁,H₁,[],[],List.replicate locals.length none,rfl,Nat.zero_le _,Nat.zero_le _,List.length_replicate,⟨Post.keep w₁.hr old₁,envR₄,pl₄,rfl,fun b hb m=>(w₁.hr.mem m).elim fun o eo=>absent (wrn b hb) eo,fun m=>(w₁.hr.mem m).elim fun o eo=>absent S.nD eo⟩,it₄,j0⟩
  ·rintro fl hfl e' s₉ ι₉ H₉ c ⟨ea,base,D',rfl,hD',xl,fly,nc⟩ hX
   refine x0_2 (tf c H₉ hX) fun hXc tp=>x3_3 tp fun env0 l' L hfr hf0 hfe=>?_
   have:=Option.some.inj (hfl.symm.trans hfr)
   subst this
   show wpAny _ _ (noteFrame _ cenv) _ _ _
   rw [noteFrame_congr (show cenv.frame=env0.frame by rw [←hcenv];exact hfe.trans hf0.symm)]
   refine wpAny_mono (calm_noteFrame.any nc (looks_fly (Q:=fun _ s''=>∃ a0 h',s''={ s₉ with heap:=h' }/\Heap.HeldW base (env0::l') ea (.ref D') a0 L h'/\s₉.heap.UpToSlots h') hfr hf0 fly fun a0 h' hh up=>⟨a0,h',rfl,hh,up⟩)) (fun _ s'' g=>?_) fun _ _ x=>x
   obtain ⟨⟨a0,h',rfl,hh,up⟩,nc'⟩:=g
   have key:∃ m,h'.Ns Ca m/\∀ h'',Heap.SameBut Ca h' h''->∀ cenv':Env,cenv'.locals=Ca->wpAny (model P.prog P.w) A (passOn "comprehension.variables-let-go" (.ref ea) cenv':Sem Value) (fun _ _=>False) E { s₉ with heap:=h'' }:=by
    refine a₈.e.ns.elim fun m n₈=>?_
    rw [S.loc] at n₈
    have n8:Ca∉ι':=S.loc▸a₈.e.offL
    refine x3_3 n₈ fun o₈ es₈ ep₈ q1 q2 _=>?_
    have n₉:s₉.heap.Ns Ca m:=Ns.of_data n₈ fun o eo=>x1_3 (xl.kept.data eo (by simpa using n8)) fun o' e1 d1 _=>⟨o',e1,d1⟩
    have n':=up.ns n₉
    refine ⟨m,n',fun h'' sb cenv' _=>?_⟩
    refine x1_2 w.fr fun fl' efl qfl=>?_
    have:=Option.some.inj (efl.symm.trans hfr)
    subst this
    have sC:=p₁.gone S.nC
    have nl:Ca∉fAs (env0::l'):=fun m=>x1_2 (List.mem_filterMap.mp m) fun en hen z=>x2_5 (qfl en hen).2 fun L' o' h1 _ h3 _ _=>by
     rw [z] at h1
     have:=Option.some.inj h1
     subst this
     exact absent sC h3
    have dC:∃ o es n,h'.get? Ca=some o/\o.data=.dict es n:=x3_3 n' fun o es ep h1 h2 _=>⟨o,es,ep,h1,h2⟩
    have eaC:ea≠Ca:=fun z=>x3_2 dC fun o es n h1 h2=>x2_3 nc' fun o' vs h3 h4 _=>by
     rw [z,h1] at h3;cases h3;rw [h2] at h4;cases h4
    have f0:Fly base (env0::l') ea (.ref D') h':=⟨a0,rawInt L,hh.1,hh.2.1,hh.2.2.1,hh.2.2.2⟩
    have f1:Fly (base.hide Ca) (env0::l') ea (.ref D') h'':=(f0.base fun b o q=>Heap.of_hide q).off (fun b o hb q=>sb.extBut b o hb q) (Heap.hide_self _ _) dC nl
    have nc₂:CtxIs (hdV P.hd) ea h'':=x2_3 nc' fun o vs h1 h2 h3=>⟨o,vs,sb.extBut ea o eaC h1,h2,h3⟩
    refine pass_fly (s:={ s₉ with heap:=h'' }) f1 nc₂ fun h₃ f₃ nc₃ up₃=>?_
    refine a _ hfl _ _ ι₉ H₉ c ⟨ea,base.hide Ca,D',rfl,hD',XLeft.comp (s':=s₉) xl (p₁.trans a₈.p) sC (w.hr.noB sC) q1 ⟨es₈,ep₈,q2⟩ n8 nl f₃.stays (fun b o hb eb hno=>?_) (fr_dict (A:=A) qfl),f₃,nc₃⟩ hXc
    refine (up b o eb hno).elim fun sl e1=>?_
    exact (up₃ b _ (sb.extBut b _ hb e1) hno).elim fun sl' e2=>⟨sl',e2⟩
   cases use<;>exact key
  exact fin D Ca ι' H' l s' m₅ (p₁.trans a.p) ⟨vs,a.pl,a.rl⟩ (p₁.gone S.nD) (p₁.gone S.nC) a.dO (S.loc▸a.e.offL) S.ne (S.loc▸n₅) hl hk
 subst hcenv
 refine codeAny_compStart_list loop ?_
 exact itr.self A _ ι₁ { s₁ with heap:=h₄,toks:=tk } 0 _ it₄ loop
end Mine
namespace Mine
open PySem
variable {P:PEnv}{C:Ctx}{d:Nat}{loc:Loc}{H:Hp}{X:XP}
theorem HR.adopt {B:Heap}{ι:List Addr}{H:Hp}{h:Heap}(q:HR B ι H h){a:Addr}(ha:a∉ι) (hb:B.get? a=none){o:AObj}(ho:OR B h (ι++[a]) a o):HR B (ι++[a]) (H++[o]) h:=by
 refine ⟨q.base,fun b m=>?_,?_,by simp [q.len],fun i x e=>?_⟩
 ·rcases List.mem_append.mp m with m|m
  ·exact q.fresh b m
  ·rw [List.mem_singleton.mp m];exact hb
 ·refine List.nodup_append.mpr ⟨q.nodup,by simp,fun x hx y hy e=>?_⟩
  have:=List.mem_singleton.mp hy;subst this;subst e
  exact ha hx
 ·by_cases hi:i<H.length
  ·rw [List.getElem?_append_left hi] at e
   refine x1_2 (q.objs i x e) fun b eb r=>?_
   exact ⟨b,pre_get (List.prefix_append _ _) eb,r.mono (Kept.refl [] h) noTup_nil (List.prefix_append _ _) fun _ e=>e⟩
  ·rw [List.getElem?_append_right (Nat.not_lt.mp hi)] at e
   have h0:i-H.length=0:=by
    cases z:i-H.length with
    | zero=>rfl
    | succ n=>rw [z] at e;simp at e
   rw [h0] at e
   simp only [List.getElem?_cons_zero,Option.some.injEq] at e
   subst e
   refine ⟨a,?_,ho⟩
   have:i=ι.length:=by rw [q.len];(first|lia|omega)
   subst this
   simp
theorem Post.adopt {B:Heap}{ι ι':List Addr}{H':Hp}{s s':Shared}(p:Post B ι s ι' H' s'){a:Addr}(ha:a∉ι') (hs:s.heap.get? a=none) (hb:B.get? a=none){o:AObj}(ho:OR B s'.heap (ι'++[a]) a o):Post B ι s (ι'++[a]) (H'++[o]) s' :=
 ⟨p.pre.trans (List.prefix_append _ _),p.hr.adopt ha hb ho,p.kept,fun b m=>(List.mem_append.mp m).elim (p.new b) fun z=>.inr (by rw [List.mem_singleton.mp z];exact hs),p.same⟩
noncomputable def CompWp (P:PEnv) (tt:Bool) (C:Ctx) (d:Nat) (elt tgt it:Expr) (ifs:List Expr) (scope:Scope) (locals:List Str) (loc:Loc) (H:Hp) (K:List AV->Hp->Prop) (X:XP):Prop :=
 ItEv P tt C d it loc H (fun items Cnd H₁=>items.length<=sizeLine/\∃ J:Nat->List AV->Hp->Prop,J 0 [] H₁/\∀ k l H,J k l H->Cnd H /\
   (∀ y,items[k]?=some y->∀ cv:Loc,cv.length=locals.length->TgOK P (compCtx C scope locals) tgt y (loc++cv) (fun l'=>(∃ cv':Loc,cv'.length=locals.length/\l'=loc++cv')/\CondOK P (compCtx C scope locals) d ifs l' H (fun b H' =>
    if b then EvOK P (compCtx C scope locals) d elt l' H' (fun v H''=>J (k+1) (l++[v]) H'') XF else J (k+1) l H'))) /\
   (k=items.length->K l H)) X
theorem ev_comp {tt:Bool}{elt tgt it:Expr}{ifs:List Expr}{scope:Scope}{locals:List Str}{pos:Pos}{Q:AV->Hp->Prop}(cg:CompOK C scope locals)
  (ht:tt=true->isTupE tgt=true) (h:CompWp P tt C d elt tgt it ifs scope locals loc H (fun l H'=>Q (.ref H'.length) (H'++[.list l])) X) (hs:∀ env x,foldedSetIterable it env x=pure x) :
  EvOK P C d (.ListComp elt [⟨tgt,it,ifs,0⟩] scope pos) loc H Q X:=fun A E env ι s w e a=>by
 show wpAny _ _ (comprehension (.ListComp elt [⟨tgt,it,ifs,0⟩] scope pos) scope env it.pos (newList []) false (eval it env) none) _ _ _
 refine comp_core cg w e a (X₂:=XF) (fun _ _ z=>z.elim) ht h (hs env) fun D Ca ι' H' l s' m p hd sD sC dO cO hDC ns hl hk=>?_
 refine ⟨m,ns,fun h' sb=>?_⟩
 have bN:∀ b,s.heap.get? b=none->P.B.get? b=none:=fun b hb=>by
  cases z:P.B.get? b with
  | none=>rfl
  | some o=>have:=w.hr.base b o z;rw [hb] at this;cases this
 refine x1_2 (hd) fun vs pl rl=>?_
 clear hd
 have ext:∀ b o,b∉[Ca]->s'.heap.get? b=some o->h'.get? b=some o:=fun b o hb eo=>sb.extBut b o (fun z=>hb (z▸List.mem_singleton.mpr rfl)) eo
 have nt:NoTup [Ca] s'.heap:=fun b hb us t=>by
  rw [List.mem_singleton.mp hb] at t
  refine x1_3 (t) fun o' eo' _ qQ3=>?_
  clear t
  refine x1_1 (qQ3) fun n d'=>?_
  clear qQ3
  refine x3_3 (ns) fun o es ep eo d1 _=>?_
  clear ns
  rw [eo] at eo';cases eo';rw [d1] at d';cases d'
 have p':Post P.B ι s ι' H' { s' with heap:=h',toks:=s'.toks }:=p.off ext nt (fun b hb=>by rw [List.mem_singleton.mp hb];exact cO) (fun b hb=>by rw [List.mem_singleton.mp hb];exact sC) (fun b hb=>by rw [List.mem_singleton.mp hb];exact bN _ sC)
 have pl':h'.PlainList D vs.toArray:=pl.at fun o eo=>ext D o (fun z=>hDC (List.mem_singleton.mp z)) eo
 refine ⟨ι'++[D],H'++[.list l],.ref H'.length,p'.adopt (o:=.list l) dO sD (bN _ sD) ⟨vs,pl',VRs.mono (Kept.of_keeps ext) nt (List.prefix_append _ _) _ _ rl⟩,⟨D,rfl,?_⟩,hk⟩
 rw [←p'.hr.len];simp
theorem ex_assign' {i:Nat}{x:Str}{v:Expr}{p' pos:Pos}{Q:MFlow->Loc->Hp->Prop}(sl:Slot C i x) (h:EvOK P C d v loc H (fun a H'=>Q .next (loc.set i (some a)) H') XF)
  (hs:∀ env:Env,env.scope.kind=.function->env.scope.names=C.names->swapsWith v (some (.Name x p')) pos.line env=pure false):ExOK P C d (.Assign [.Name x p'] v pos) loc H Q:=fun A E env ι s w e=>by
 refine wpAny_Assign_Name (gv (h A E env ι s w e Acc.no) (fun u s₁ ι₁ H₁ a p₁ r₁ g=>?_)) (hs env e.kind e.names)
 exact store_ok p₁.hr (e.step w.hr p₁) sl.lo sl.at_ sl.uniq sl.kind r₁ fun s' ps e'=>⟨ι₁,H₁,_,.next,PostS.trans p₁.toS ps e'.offOwn,e',rfl,g⟩
theorem ex_assign_comp {tt:Bool}{elt tgt it:Expr}{ifs:List Expr}{scope:Scope}{locals:List Str}{cpos p' pos:Pos}{i:Nat}{x:Str}{Q:MFlow->Loc->Hp->Prop}(sl:Slot C i x) (cg:CompOK C scope locals)
  (ht:tt=true->isTupE tgt=true) (h:CompWp P tt C d elt tgt it ifs scope locals loc H (fun l H'=>Q .next (loc.set i (some (.ref H'.length))) (H'++[.list l])) XF) (hs:∀ env x,foldedSetIterable it env x=pure x) :
  ExOK P C d (.Assign [.Name x p'] (.ListComp elt [⟨tgt,it,ifs,0⟩] scope cpos) pos) loc H Q:=by
 have sw:∀ env:Env,env.scope.kind=.function->env.scope.names=C.names->swapsWith (.ListComp elt [⟨tgt,it,ifs,0⟩] scope cpos) (some (.Name x p')) pos.line env=pure (C.names.lookup x == some .local&&p'.line == cpos.line&&!(scope.names.any fun (n,k)=>n == x&&(k == .local||k == .cell))):=fun env hk hn=>by
  show (pure (env.blockKind == .function&&env.kindOf x == some .local&&p'.line == cpos.line&&!(scope.names.any fun (n,k)=>n == x&&(k == .local||k == .cell))):Sem Bool)=_
  simp only [Env.blockKind,Env.kindOf,hk,hn]
  rfl
 cases hb:(C.names.lookup x == some .local&&p'.line == cpos.line&&!(scope.names.any fun (n,k)=>n == x&&(k == .local||k == .cell))) with
 | false=>exact ex_assign' sl (ev_comp cg ht h hs) fun env hk hn=>by rw [sw env hk hn,hb]
 | true =>
  intro A E env ι s w e
  rw [exec_Assign_Name_used x p' _ pos (by rw [sw env e.kind e.names,hb])]
  refine wpAny_bind (wpAny_standAt (wpAny_bind ?_))
  show wpAny _ _ (comprehension (.ListComp elt [⟨tgt,it,ifs,0⟩] scope cpos) scope env it.pos (newList []) false (eval it env) (some (assign (.Name x p') env)) >>= fun _=>pure PUnit.unit) _ _ _
  refine wpAny_bind ?_
  refine comp_core (Qc:=fun _ s'=>wpAny (model P.prog P.w) A (pure PUnit.unit:Sem PUnit) (fun _ s''=>wpAny (model P.prog P.w) A (pure .next:Sem Flow) (GivesS P.B C env ι s Q) E s'') E s') cg w e Acc.no (X₂:=XF) (fun _ _ z=>z.elim) ht h (hs env) fun D Ca ι' H' l s' m p hd sD sC dO cO hDC ns hl hk=>?_
  have bN:∀ b,s.heap.get? b=none->P.B.get? b=none:=fun b hb=>by
   cases z:P.B.get? b with
   | none=>rfl
   | some o=>have:=w.hr.base b o z;rw [hb] at this;cases this
  refine x1_2 (hd) fun vs pl rl=>?_
  clear hd
  have pa:Post P.B ι s (ι'++[D]) (H'++[.list l]) s':=p.adopt dO sD (bN _ sD) ⟨vs,pl,VRs.mono (Kept.refl [] _) noTup_nil (List.prefix_append _ _) _ _ rl⟩
  have ea:=e.step w.hr pa
  have caO:Ca∉own C env:=fun m=>by
   refine x1_2 (e.isOwn Ca m) fun o eo _=>?_
   rw [sC] at eo;cases eo
  have caI:Ca∉ι'++[D]:=fun m=>(List.mem_append.mp m).elim cO fun z=>hDC (List.mem_singleton.mp z).symm
  have vr:VR P.B s'.heap (ι'++[D]) (.ref H'.length) (.ref D):=⟨D,rfl,by rw [←p.hr.len];simp⟩
  refine wpAny_assign_Name (store_ok pa.hr ea sl.lo sl.at_ sl.uniq sl.kind vr fun s'' ps e''=>?_)
  -- the comprehension's own table stands as it stood
  have ns'':∃ m,s''.heap.Ns Ca m:=⟨m,Ns.of_data ns fun o eo=>by
   refine x1_3 (ps.kept.data eo fun q=>(List.mem_append.mp q).elim caO caI) fun o' eo' d' _=>?_
   exact ⟨o',eo',d'⟩⟩
  refine x1_1 (ns'') fun m'' n''=>?_
  clear ns''
  refine ⟨m'',n'',fun h' sb=>wpAny_pure (wpAny_pure ?_)⟩
  have ext:∀ b o,b∉[Ca]->s''.heap.get? b=some o->h'.get? b=some o:=fun b o hb eo=>sb.extBut b o (fun z=>hb (z▸List.mem_singleton.mpr rfl)) eo
  have nt:NoTup [Ca] s''.heap:=fun b hb us t=>by
   rw [List.mem_singleton.mp hb] at t
   refine x1_3 (t) fun o' eo' _ qQ3=>?_
   clear t
   refine x1_1 (qQ3) fun n d'=>?_
   clear qQ3
   refine x3_3 (n'') fun o es ep eo d1 _=>?_
   clear n''
   rw [eo] at eo';cases eo';rw [d1] at d';cases d'
  have hr':HR P.B (ι'++[D]) (H'++[.list l]) h':=ps.hr.off ext nt (fun b hb=>by rw [List.mem_singleton.mp hb];exact caI) (fun b hb=>by rw [List.mem_singleton.mp hb];exact bN _ sC)
  have e3:EnvR P.B C env (ι'++[D]) h' (loc.set i (some (.ref H'.length))):=e''.off ext nt (fun z=>caO ((List.mem_singleton.mp z)▸List.mem_cons_self ..)) (fun y c hm hc z=>by
   refine x2_2 (e.isC y c hm hc) fun ov o eo _=>?_
   rw [List.mem_singleton.mp z,sC] at eo;cases eo)
  have pf:=PostS.trans (pa.toS (S:=own C env)) ps e''.offOwn
  refine ⟨ι'++[D],H'++[.list l],loc.set i (some (.ref H'.length)),.next,⟨pf.pre,hr',fun b o eo hn=>?_,pf.new,?_⟩,e3,rfl,hk⟩
  ·refine x1_2 (pf.kept b o eo hn) fun sl' e1 q1=>?_
   exact ⟨sl',ext b _ (fun z=>by rw [List.mem_singleton.mp z,sC] at eo;cases eo) e1,q1⟩
  ·exact pf.same
end Mine
namespace Mine
open PySem
variable {P:PEnv}{C:Ctx}{d:Nat}{loc:Loc}{H:Hp}{X:XP}
theorem vrs1 {B h:Heap}{ι:List Addr}{x:AV}{vs:List Value}(r:VRs B h ι [x] vs):∃ u,vs=[u]/\VR B h ι x u:=by
 refine x2_3 (r) fun u t eQ2 r1 r2=>?_
 clear r
 subst eQ2
 exact ⟨u,by rw [show t=[] from r2],r1⟩
theorem vrs2 {B h:Heap}{ι:List Addr}{x y:AV}{vs:List Value}(r:VRs B h ι [x,y] vs):∃ u v,vs=[u,v]/\VR B h ι x u/\VR B h ι y v:=by
 refine x2_3 (r) fun u t eQ2 r1 r2=>?_
 clear r
 subst eQ2
 refine x1_2 (vrs1 r2) fun v eQ1 r3=>?_
 subst eQ1
 exact ⟨u,v,rfl,r1,r3⟩
theorem vrs3 {B h:Heap}{ι:List Addr}{x y z:AV}{vs:List Value}(r:VRs B h ι [x,y,z] vs):∃ u v w,vs=[u,v,w]/\VR B h ι x u/\VR B h ι y v/\VR B h ι z w:=by
 refine x2_3 (r) fun u t eQ2 r1 r2=>?_
 clear r
 subst eQ2
 refine x2_3 (vrs2 r2) fun v w eQ2 r3 r4=>?_
 subst eQ2
 exact ⟨u,v,w,rfl,r1,r3,r4⟩
abbrev BinOK (P:PEnv) (d:Nat) (op:Operator) (x y:AV) (H:Hp) (Q:AV->Hp->Prop):Prop:=OpOK P d (fun vs=>binaryOp op (vs.getD 0 .none) (vs.getD 1 .none)) [x,y] H Q
abbrev CmpOK (P:PEnv) (d:Nat) (op:CmpOp) (x y:AV) (H:Hp) (Q:AV->Hp->Prop):Prop:=OpOK P d (fun vs=>compareOp op (vs.getD 0 .none) (vs.getD 1 .none)) [x,y] H Q
theorem op2 {t:Value->Value->Sem Value}{x y:AV}{Q:AV->Hp->Prop}(h:∀ A E ι s u v,W P A d ι H s->VR P.B s.heap ι x u->VR P.B s.heap ι y v->wpAny (model P.prog P.w) A (t u v) (Gives P.B ι s Q) E s) :
  OpOK P d (fun vs=>t (vs.getD 0 .none) (vs.getD 1 .none)) [x,y] H Q:=fun A E ι s vs w r=>by
 refine x2_3 (vrs2 r) fun u v eQ2 r1 r2=>?_
 subst eQ2
 exact h A E ι s u v w r1 r2
theorem bin_add {a b:Int}{Q:AV->Hp->Prop}(h:Q (.int (a+b)) H):BinOK P d .Add (.int a) (.int b) H Q:=op2 fun A E ι s u v w r1 r2=>by
 obtain ⟨t,rfl⟩:=r1;obtain ⟨t',rfl⟩:=r2
 exact PyProof.Rows.add_int (Gives.now _ w.hr (VR.mkInt _ _) h)
theorem bin_sub {a b:Int}{Q:AV->Hp->Prop}(h:Q (.int (a-b)) H):BinOK P d .Sub (.int a) (.int b) H Q:=op2 fun A E ι s u v w r1 r2=>by
 obtain ⟨t,rfl⟩:=r1;obtain ⟨t',rfl⟩:=r2
 exact PyProof.Rows.sub_int (Gives.now _ w.hr (VR.mkInt _ _) h)
theorem bin_mul {a b:Int}{Q:AV->Hp->Prop}(hm:IntMulOk a b) (h:Q (.int (a*b)) H):BinOK P d .Mult (.int a) (.int b) H Q:=op2 fun A E ι s u v w r1 r2=>by
 obtain ⟨t,rfl⟩:=r1;obtain ⟨t',rfl⟩:=r2
 exact PyProof.Rows.mul_int (Gives.now _ w.hr (VR.mkInt _ _) h) hm
theorem bin_mod {a b:Int}{Q:AV->Hp->Prop}(hb:b≠0) (h:Q (.int (a.fmod b)) H):BinOK P d .Mod (.int a) (.int b) H Q:=op2 fun A E ι s u v w r1 r2=>by
 obtain ⟨t,rfl⟩:=r1;obtain ⟨t',rfl⟩:=r2
 exact PyProof.Rows.mod_int' hb (Gives.now _ w.hr (VR.mkInt _ _) h)
theorem bin_fdiv {a b:Int}{Q:AV->Hp->Prop}(hb:b≠0) (hp:Builtin.divisionGoesByPylong a b=false) (h:Q (.int (a.fdiv b)) H):BinOK P d .FloorDiv (.int a) (.int b) H Q:=op2 fun A E ι s u v w r1 r2=>by
 obtain ⟨t,rfl⟩:=r1;obtain ⟨t',rfl⟩:=r2
 exact PyProof.Rows.floordiv_int hb (Gives.now _ w.hr (VR.mkInt _ _) h) (.inl hp)
theorem bin_pow {a n:Int}{Q:AV->Hp->Prop}(hn:0<=n) (hn2:n<=1000000) (ha:a.natAbs<2^64) (h:Q (.int (a^n.toNat)) H):BinOK P d .Pow (.int a) (.int n) H Q:=op2 fun A E ι s u v w r1 r2=>by
 obtain ⟨t,rfl⟩:=r1;obtain ⟨t',rfl⟩:=r2
 exact PyProof.Rows.pow_int_small hn hn2 ha (Gives.now _ w.hr (VR.mkInt _ _) h)
theorem cmp_lt {a b:Int}{Q:AV->Hp->Prop}(h:Q (.bool (decide (a<b))) H):CmpOK P d .Lt (.int a) (.int b) H Q:=op2 fun A E ι s u v w r1 r2=>by
 obtain ⟨t,rfl⟩:=r1;obtain ⟨t',rfl⟩:=r2
 exact PyProof.Rows.lt_int (Gives.same w.hr (VR.mkBool _) h)
theorem cmp_le {a b:Int}{Q:AV->Hp->Prop}(h:Q (.bool (decide (a<=b))) H):CmpOK P d .LtE (.int a) (.int b) H Q:=op2 fun A E ι s u v w r1 r2=>by
 obtain ⟨t,rfl⟩:=r1;obtain ⟨t',rfl⟩:=r2
 exact PyProof.Rows.le_int (Gives.same w.hr (VR.mkBool _) h)
theorem cmp_gt {a b:Int}{Q:AV->Hp->Prop}(h:Q (.bool (decide (b<a))) H):CmpOK P d .Gt (.int a) (.int b) H Q:=op2 fun A E ι s u v w r1 r2=>by
 obtain ⟨t,rfl⟩:=r1;obtain ⟨t',rfl⟩:=r2
 exact PyProof.Rows.gt_int (Gives.same w.hr (VR.mkBool _) h)
theorem cmp_ge {a b:Int}{Q:AV->Hp->Prop}(h:Q (.bool (decide (b<=a))) H):CmpOK P d .GtE (.int a) (.int b) H Q:=op2 fun A E ι s u v w r1 r2=>by
 obtain ⟨t,rfl⟩:=r1;obtain ⟨t',rfl⟩:=r2
 exact PyProof.Rows.ge_int (Gives.same w.hr (VR.mkBool _) h)
theorem HR.list {B:Heap}{ι:List Addr}{H:Hp}{h:Heap}(q:HR B ι H h){i:Nat}{a:Addr}{l:List AV}(e:ι[i]?=some a) (hi:H[i]?=some (.list l)):∃ vs,h.PlainList a (List.toArray vs)/\VRs B h ι l vs:=by
 refine x1_2 (q.objs i _ hi) fun a' e' r=>?_
 rw [e] at e';cases e';exact r
noncomputable def seqL (H:Hp):AV->Option (List AV)
 | .ref i=>match H[i]? with|some (.list l)=>some l|_=>none
 | .fro l=>some l
 | _=>none
theorem seqL_is {ι:List Addr}{h:Heap}{x:AV}{v:Value}{l:List AV}(hr:HR P.B ι H h) (r:VR P.B h ι x v) (e:seqL H x=some l):∃ a vs,v=.ref a/\h.IsList a (List.toArray vs)/\VRs P.B h ι l vs:=by
 cases x with
 | ref i =>
  refine x1_2 (r) fun a eQ1 ea=>?_
  clear r
  subst eQ1
  simp only [seqL] at e
  split at e
  ·rename_i l' hl
   cases e
   refine x1_2 (hr.list ea hl) fun vs pl rl=>?_
   exact ⟨a,vs,rfl,pl.isList,rl⟩
  ·cases e
 | fro l' =>
  simp only [seqL,Option.some.injEq] at e
  subst e
  unfold VR at r
  refine x2_3 (r) fun a vs eQ2 bl rl=>?_
  clear r
  subst eQ2
  exact ⟨a,vs,rfl,bl.at fun o eo=>hr.base a o eo,rl⟩
 | _=>simp [seqL] at e
theorem bin_addL {i j:Nat}{l m:List AV}{Q:AV->Hp->Prop}(hx:H[i]?=some (.list l)) (hy:H[j]?=some (.list m)) (hz:l.length+m.length<=sizeLine) (h:Q (.ref H.length) (H++[.list (l++m)])):BinOK P d .Add (.ref i) (.ref j) H Q:=op2 fun A E ι s u v w r1 r2=>by
 refine x1_2 (r1) fun a eQ1 ea=>?_
 clear r1
 subst eQ1
 refine x1_2 (r2) fun b eQ1 eb=>?_
 clear r2
 subst eQ1
 refine x1_2 (w.hr.list ea hx) fun vs qQ1 rl=>?_
 refine x1_1 (qQ1) fun n pl=>?_
 clear qQ1
 refine x1_2 (w.hr.list eb hy) fun ws qQ1 rm=>?_
 refine x1_1 (qQ1) fun n' pm=>?_
 clear qQ1
 refine PySem.P.add_list pl pm ?_ (by simp only [List.size_toArray,rl.length,rm.length];exact hz)
 have:=gives_newList (Q:=Q) w.hr (rl.append rm) h
 simpa using this
theorem bin_addT {l m:List AV}{Q:AV->Hp->Prop}(hz:l.length+m.length<=sizeLine) (h:Q (.tup (l++m)) H):BinOK P d .Add (.tup l) (.tup m) H Q:=op2 fun A E ι s u v w r1 r2=>by
 have r1':=r1
 have r2':=r2
 unfold VR at r1 r2
 refine x2_3 (r1) fun a vs eQ2 qQ3 rl=>?_
 clear r1
 subst eQ2
 refine x3_1 (qQ3) fun n dd sl pl=>?_
 clear qQ3
 refine x2_3 (r2) fun b ws eQ2 qQ3 rm=>?_
 clear r2
 subst eQ2
 refine x3_1 (qQ3) fun n' dd' sl' pm=>?_
 clear qQ3
 have hvl:=rl.length
 have hwl:=rm.length
 by_cases hv:vs=[]
 ·have:l=[]:=by rw [hv] at hvl;exact List.length_eq_zero_iff.mp hvl.symm
  subst this
  exact concat_meets ⟨_,pl,rfl⟩ ⟨_,pm,rfl⟩ noFill_tuple_add seq_tuple_add PySem.F.slot_tuple_add PySem.F.entry_tuple_add (PySem.F.args_tuple_add_2 _ _)
   (PyProof.Rows.tuple_addW0 a b vs.toArray ws.toArray n n' dd dd' sl sl' (by simp [hv])) ⟨pl,pm,Gives.same w.hr r2' (by simpa using h)⟩
 ·by_cases hw:ws=[]
  ·have:m=[]:=by rw [hw] at hwl;exact List.length_eq_zero_iff.mp hwl.symm
   subst this
   exact concat_meets ⟨_,pl,rfl⟩ ⟨_,pm,rfl⟩ noFill_tuple_add seq_tuple_add PySem.F.slot_tuple_add PySem.F.entry_tuple_add (PySem.F.args_tuple_add_2 _ _)
    (PyProof.Rows.tuple_addW1 a b vs.toArray ws.toArray n n' dd dd' sl sl' (by simpa using hv) (by simp [hw])) ⟨pl,pm,Gives.same w.hr r1' (by simpa using h)⟩
  ·refine concat_meets ⟨_,pl,rfl⟩ ⟨_,pm,rfl⟩ noFill_tuple_add seq_tuple_add PySem.F.slot_tuple_add PySem.F.entry_tuple_add (PySem.F.args_tuple_add_2 _ _)
    (PyProof.Rows.tuple_addW2 a b vs.toArray ws.toArray n n' dd dd' sl sl' (by simpa using hv) (by simpa using hw) (by simp only [List.size_toArray,hvl,hwl];exact hz)) ⟨pl,pm,?_⟩
   have:=gives_newTuple (Q:=Q) w.hr (rl.append rm) h
   simpa using this
theorem bin_addS {x y:Str}{Q:AV->Hp->Prop}(hz:x.length+y.length<=sizeLine) (h:Q (.str (x++y)) H):BinOK P d .Add (.str x) (.str y) H Q:=op2 fun A E ι s u v w r1 r2=>by
 obtain ⟨k1,t,rfl⟩:=r1;obtain ⟨k2,t',rfl⟩:=r2
 refine PyProof.Rows.add_str (fun t' tk=>Gives.now tk w.hr (VR.mkStr _ _ ?_) h) hz
 unfold PyData.strOk at k1 k2 ⊢
 simp only [Str.cps_append,Array.all_append,k1,k2,Bool.and_self]
mutual
noncomputable def datR (ρ:Nat->Option PyData):AV->Option PyData
 | .none=>some .none
 | .bool b=>some (.bool b)
 | .int i=>some (.int i)
 | .str x=>some (.str x)
 | .tup l=>(datRs ρ l).map .tuple
 | .ref i=>ρ i
 | .fro l=>(datRs ρ l).map .list
noncomputable def datRs (ρ:Nat->Option PyData):List AV->Option (List PyData)
 | []=>some []
 | x::r=>(datR ρ x).bind fun y=>(datRs ρ r).map (y::·)
end
noncomputable def rho (H:Hp):Nat->Nat->Option PyData
 | 0,_=>none
 | n+1,i=>match H[i]? with
  | some (.list l)=>(datRs (rho H n) l).map .list
  | _=>none
noncomputable def dat (H:Hp) (x:AV):Option PyData:=datR (rho H 4) x
noncomputable def dats (H:Hp) (l:List AV):Option (List PyData):=datRs (rho H 4) l
noncomputable def RhoOK (P:PEnv) (ι:List Addr) (h:Heap) (ρ:Nat->Option PyData):Prop:=∀ i d a,ρ i=some d->ι[i]?=some a->(∃ as,Reads h (.ref a) d as)/\d.canLay0=true
mutual
theorem datR_ok {ι:List Addr}{h:Heap}{ρ:Nat->Option PyData}(B:P.B.StaysIn h) (k:RhoOK P ι h ρ):∀ (x:AV) (v:Value) (d:PyData),VR P.B h ι x v->datR ρ x=some d->(∃ as,Reads h v d as)/\d.canLay0=true
 | .none,_,_,r,e=>by cases r;cases e;exact ⟨⟨_,Reads.none⟩,rfl⟩
 | .bool b,_,_,r,e=>by cases r;cases e;exact ⟨⟨_,Reads.bool b⟩,rfl⟩
 | .int i,_,_,r,e=>by obtain ⟨t,rfl⟩:=r;cases e;exact ⟨⟨_,Reads.int i t⟩,rfl⟩
 | .str x,_,_,r,e=>by obtain ⟨hx,t,rfl⟩:=r;cases e;exact ⟨⟨_,Reads.str x t⟩,hx⟩
 | .tup l,v,d,r,e=>by
  unfold VR at r
  refine x2_3 (r) fun a vs eQ2 qQ3 rl=>?_
  clear r
  subst eQ2
  refine x3_1 (qQ3) fun n _ _ pt=>?_
  clear qQ3
  simp only [datR,Option.map_eq_some_iff] at e
  refine x1_2 (e) fun ds e1 eQ2=>?_
  clear e
  subst eQ2
  refine x0_2 (datRs_ok B k l vs ds rl e1) fun qQ0 q2=>?_
  obtain ⟨as,q1⟩:=qQ0
  exact ⟨⟨as,Reads.tuple pt rfl rfl q1⟩,q2⟩
 | .ref i,v,d,r,e=>by
  refine x1_2 (r) fun a eQ1 ea=>?_
  clear r
  subst eQ1
  exact k i d a e ea
 | .fro l,v,d,r,e=>by
  unfold VR at r
  refine x2_3 (r) fun a vs eQ2 qQ3 rl=>?_
  clear r
  subst eQ2
  refine x1_3 (qQ3) fun o eo hc nQ=>?_
  clear qQ3
  revert nQ
  intro qQ3
  obtain ⟨n,hd⟩:=qQ3
  simp only [datR,Option.map_eq_some_iff] at e
  refine x1_2 (e) fun ds e1 eQ2=>?_
  clear e
  subst eQ2
  refine x0_2 (datRs_ok B k l vs ds rl e1) fun qQ0 q2=>?_
  obtain ⟨as,q1⟩:=qQ0
  exact ⟨⟨_,Reads.list (B a o eo) hc hd q1⟩,q2⟩
theorem datRs_ok {ι:List Addr}{h:Heap}{ρ:Nat->Option PyData}(B:P.B.StaysIn h) (k:RhoOK P ι h ρ):∀ (l:List AV) (vs:List Value) (ds:List PyData),VRs P.B h ι l vs->datRs ρ l=some ds->(∃ as,ReadsAll h vs ds as)/\PyData.canLayAll0 ds=true
 | [],_,_,r,e=>by rw [show _=[] from r];cases e;exact ⟨⟨_,ReadsAll.nil⟩,rfl⟩
 | x::l,_,ds,r,e=>by
  refine x2_3 (r) fun v vs eQ2 r1 r2=>?_
  clear r
  subst eQ2
  simp only [datRs,Option.bind_eq_some_iff,Option.map_eq_some_iff] at e
  refine x1_2 (e) fun y e1 qQ2=>?_
  clear e
  refine x1_2 (qQ2) fun ys e2 eQ2=>?_
  clear qQ2
  subst eQ2
  refine x0_2 (datR_ok B k x v y r1 e1) fun qQ0 q2=>?_
  obtain ⟨as,q1⟩:=qQ0
  refine x0_2 (datRs_ok B k l vs ys r2 e2) fun qQ0 q4=>?_
  obtain ⟨bs,q3⟩:=qQ0
  exact ⟨⟨_,ReadsAll.cons q1 q3⟩,by simp [PyData.canLayAll0,q2,q4]⟩
end
theorem rho_ok {ι:List Addr}{h:Heap}(hr:HR P.B ι H h):∀ n,RhoOK P ι h (rho H n)
 | 0,_,_,_,e,_=>by cases e
 | n+1,i,d,a,e,ea=>by
  unfold rho at e
  split at e
  ·rename_i l hl
   simp only [Option.map_eq_some_iff] at e
   refine x1_2 (e) fun ds e1 eQ2=>?_
   clear e
   subst eQ2
   refine x1_2 (hr.list ea hl) fun vs qQ1 rl=>?_
   refine x1_1 (qQ1) fun k pl=>?_
   clear qQ1
   refine x0_2 (datRs_ok hr.base (rho_ok hr n) l vs ds rl e1) fun qQ0 q2=>?_
   obtain ⟨as,q1⟩:=qQ0
   exact ⟨⟨_,Reads.list pl rfl rfl q1⟩,q2⟩
  ·cases e
theorem dat_ok {ι:List Addr}{h:Heap}{x:AV}{v:Value}{dd:PyData}(hr:HR P.B ι H h) (r:VR P.B h ι x v) (e:dat H x=some dd):(∃ as,Reads h v dd as)/\dd.canLay0=true :=
 datR_ok hr.base (rho_ok hr 4) x v dd r e
theorem dats_ok {ι:List Addr}{h:Heap}{l:List AV}{vs:List Value}{ds:List PyData}(hr:HR P.B ι H h) (r:VRs P.B h ι l vs) (e:dats H l=some ds):(∃ as,ReadsAll h vs ds as)/\PyData.canLayAll0 ds=true :=
 datRs_ok hr.base (rho_ok hr 4) l vs ds r e
theorem cmp_eq {x y:AV}{dx dy:PyData}{Q:AV->Hp->Prop}(hx:dat H x=some dx) (hy:dat H y=some dy) (hd:dx.depth<=100) (h:Q (.bool (PyData.eqv dx dy)) H):CmpOK P d .Eq x y H Q:=op2 fun A E ι s u v w r1 r2=>by
 refine x0_2 (dat_ok w.hr r1 hx) fun qQ0 q2=>?_
 obtain ⟨as,q1⟩:=qQ0
 refine x0_2 (dat_ok w.hr r2 hy) fun qQ0 q4=>?_
 obtain ⟨bs,q3⟩:=qQ0
 exact SeqAt.compareEq_reads q1 q3 q2 q4 (by have:=w.room.units;(first|lia|omega)) (Gives.same w.hr (VR.mkBool _) h)
theorem cmp_ne {x y:AV}{dx dy:PyData}{Q:AV->Hp->Prop}(hx:dat H x=some dx) (hy:dat H y=some dy) (hd:dx.depth<=100) (h:Q (.bool !(PyData.eqv dx dy)) H):CmpOK P d .NotEq x y H Q:=op2 fun A E ι s u v w r1 r2=>by
 refine x0_2 (dat_ok w.hr r1 hx) fun qQ0 q2=>?_
 obtain ⟨as,q1⟩:=qQ0
 refine x0_2 (dat_ok w.hr r2 hy) fun qQ0 q4=>?_
 obtain ⟨bs,q3⟩:=qQ0
 exact SeqAt.compareNe_reads q1 q3 q2 q4 (by have:=w.room.units;(first|lia|omega)) (Gives.same w.hr (VR.mkBool _) h)
end Mine
namespace Mine
open PySem
variable {P:PEnv}{C:Ctx}{d:Nat}{loc:Loc}{H:Hp}{X:XP}
theorem fn1 {f:Value}{x:AV}{Q:AV->Hp->Prop}(h:∀ A E ι s u,W P A d ι H s->VR P.B s.heap ι x u->wpAny (model P.prog P.w) A (call f [u]) (Gives P.B ι s Q) E s) :
  OpOK P d (fun vs=>call f vs) [x] H Q:=fun A E ι s vs w r=>by
 refine x1_2 (vrs1 r) fun u eQ1 r1=>?_
 subst eQ1
 exact h A E ι s u w r1
theorem fn2 {f:Value}{x y:AV}{Q:AV->Hp->Prop}(h:∀ A E ι s u v,W P A d ι H s->VR P.B s.heap ι x u->VR P.B s.heap ι y v->wpAny (model P.prog P.w) A (call f [u,v]) (Gives P.B ι s Q) E s) :
  OpOK P d (fun vs=>call f vs) [x,y] H Q:=fun A E ι s vs w r=>by
 refine x2_3 (vrs2 r) fun u v eQ2 r1 r2=>?_
 subst eQ2
 exact h A E ι s u v w r1 r2
theorem fn3 {f:Value}{x y z:AV}{Q:AV->Hp->Prop}(h:∀ A E ι s u v t,W P A d ι H s->VR P.B s.heap ι x u->VR P.B s.heap ι y v->VR P.B s.heap ι z t->wpAny (model P.prog P.w) A (call f [u,v,t]) (Gives P.B ι s Q) E s) :
  OpOK P d (fun vs=>call f vs) [x,y,z] H Q:=fun A E ι s vs w r=>by
 refine x3_4 (vrs3 r) fun u v t eQ3 r1 r2 r3=>?_
 subst eQ3
 exact h A E ι s u v t w r1 r2 r3
theorem subscripted_ops (sl:Expr) (o i:Value):∃ ops,subscripted sl false o i=operate ops (getItem o i):=by
 cases sl with
 | Slice a b c p=>cases c<;>exact ⟨_,rfl⟩
 | _=>exact ⟨_,rfl⟩
abbrev SubOK (P:PEnv) (d:Nat) (eo ei:Expr) (x y:AV) (H:Hp) (Q:AV->Hp->Prop):Prop:=OpOK P d (fun vs=>PyProof.Rows.subscriptTail eo ei (vs.getD 0 .none) (vs.getD 1 .none)) [x,y] H Q
noncomputable def place (k:Int) (n:Nat):Option Nat:=if 0<=k then (if k<n then some k.toNat else none) else if 0<=k+n then some (k+n).toNat else none
theorem seqIndex_place {k:Int}{n j:Nat}(h:place k n=some j):seqIndex? k n=some j:=by
 unfold place at h
 unfold seqIndex?
 by_cases h0:0<=k
 ·rw [if_pos h0] at h
  rw [if_neg (Int.not_lt.mpr h0)]
  by_cases h1:k<n
  ·rw [if_pos h1] at h
   exact (if_pos (by rw [decide_eq_true h0,decide_eq_true h1];rfl)).trans h
  ·rw [if_neg h1] at h;cases h
 ·rw [if_neg h0] at h
  have h0:=Int.not_le.mp h0
  rw [if_pos h0]
  by_cases h1:0<=k+n
  ·rw [if_pos h1] at h
   exact (if_pos (by rw [decide_eq_true h1,decide_eq_true (show k+n<n by have:=Int.add_lt_add_right h0 n;rwa [Int.zero_add] at this)];rfl)).trans h
  ·rw [if_neg h1] at h;cases h
theorem sub_tup {eo ei:Expr}{l:List AV}{k:Int}{j:Nat}{x:AV}{Q:AV->Hp->Prop}(hn:l.length<2^62) (hj:place k l.length=some j) (hx:l[j]?=some x) (h:Q x H):SubOK P d eo ei (.tup l) (.int k) H Q:=op2 fun A E ι s u v w r1 r2=>by
 unfold VR at r1
 refine x2_3 (r1) fun a vs eQ2 pt rl=>?_
 clear r1
 subst eQ2
 refine x1_1 (r2) fun t eQ1=>?_
 clear r2
 subst eQ1
 refine x1_2 (rl.get hx) fun z hz rz=>?_
 refine x1_1 (subscripted_ops ei (.ref a) (.int k t)) fun ops ho=>?_
 have hb : -(2^63)<=k/\k<2^63:=by unfold place at hj;split at hj<;>(try split at hj)<;>(first|cases hj|skip)<;>(first|lia|omega)
 exact PyProof.Rows.tail_any pt.isTup.typeIs PyProof.Rows.slot_tuple_getitem.lookup (PyProof.Rows.getItem_tuple pt.isTup hb.1 hb.2 (by rw [List.size_toArray,rl.length];exact seqIndex_place hj) (by simpa using hz) (Gives.same w.hr rz h)) ho
theorem sub_list {eo ei:Expr}{o:AV}{l:List AV}{k:Int}{x:AV}{Q:AV->Hp->Prop}(ho:seqL H o=some l) (hn:l.length<2^62) (h0:0<=k) (hx:l[k.toNat]?=some x) (h:Q x H):SubOK P d eo ei o (.int k) H Q:=op2 fun A E ι s u v w r1 r2=>by
 refine x2_3 (seqL_is w.hr r1 ho) fun a vs eQ2 il rl=>?_
 subst eQ2
 refine x1_1 (r2) fun t eQ1=>?_
 clear r2
 subst eQ1
 refine x1_2 (rl.get hx) fun z hz rz=>?_
 refine x1_1 (subscripted_ops ei (.ref a) (.int k t)) fun ops hops=>?_
 have hlt:k.toNat<l.length:=(List.getElem?_eq_some_iff.mp hx).1
 exact PyProof.Rows.tail_any il.typeIs slot_list_getitem.lookup (wpAny_getItem_list il h0 (by (first|lia|omega)) (by simpa using hz) (Gives.same w.hr rz h)) hops
theorem ERs.pairs (P:PEnv){B h:Heap}{ι:List Addr}:∀ {l:List (Int×AV)}{es:List DictEntry},ERs B h ι l es->∃ kvs:List (Int×Value),Pairs (intKind P.prog P.w) es kvs/\kvs.map (·.1)=l.map (·.1)/\VRs B h ι (l.map (·.2)) (kvs.map (·.2))/\∀ e∈es,∃ k,(intKind P.prog P.w).is k e.key=true/\e.hash=(intKind P.prog P.w).hash k
 | [],es,q=>⟨[],by rw [show es=[] from q];exact .nil,rfl,rfl,fun e he=>by rw [show es=[] from q] at he;cases he⟩
 | (k,x)::l,es,q=>by
  refine x3_3 (q) fun t v es' eQ3 rv r=>?_
  clear q
  subst eQ3
  refine x1_4 (ERs.pairs P r) fun kvs p1 p2 p3 p4=>?_
  have hk:(intKind P.prog P.w).is k (.int k t)=true:=by simp [intKind,Value.isInt]
  refine ⟨(k,v)::kvs,.cons hk rfl p1,by simp [p2],⟨v,_,rfl,rv,p3⟩,fun e he=>?_⟩
  rcases List.mem_cons.mp he with rfl|m
  ·exact ⟨k,hk,rfl⟩
  ·exact p4 e m
theorem pairs_ERs {B h:Heap}{ι:List Addr}{kvs:List (Int×Value)}{es:List DictEntry}(p:Pairs (intKind P.prog P.w) es kvs):∀ {l:List (Int×AV)},(∀ e∈es,∃ k,(intKind P.prog P.w).is k e.key=true/\e.hash=(intKind P.prog P.w).hash k)->kvs.map (·.1)=l.map (·.1)->VRs B h ι (l.map (·.2)) (kvs.map (·.2))->ERs B h ι l es:=by
 induction p with
 | nil=>intro l _ hk hv;cases l with
  | nil=>rfl
  | cons _ _=>cases hk
 | cons h1 h2 h3 ih=>rename_i e kv es kvs;intro l hh hk hv;cases l with
  | nil=>cases hk
  | cons y l =>
   have hz:=List.cons.inj hk
   have hz1:kv.1=y.1:=hz.1
   refine x2_3 hv fun v' r' e1 rv rr=>x1_2 (hh e (List.mem_cons_self ..)) fun k2 q1 q2=>(Value.isInt_shape q1).elim fun t ht=>?_
   have e2:=List.cons.inj e1
   have e21:kv.2=v':=e2.1
   have hkk:k2=y.1:=((intKind P.prog P.w).inj _ _ _ q1 h1).trans hz1
   refine ⟨t,kv.2,es,?_,e21▸rv,ih (fun e he=>hh e (List.mem_cons_of_mem _ he)) hz.2 (e2.2▸rr)⟩
   rw [←h2,←hkk,←ht]
   exact congrArg (·::es) (show e=⟨hashInt k2,e.key,e.val⟩ by rw [←show e.hash=hashInt k2 from q2])
theorem HR.dict {ι:List Addr}{h:Heap}(q:HR P.B ι H h){i:Nat}{a:Addr}{l:List (Int×AV)}(e:ι[i]?=some a) (hi:H[i]?=some (.dict l)) :
  ∃ kvs:List (Int×Value),h.DictOf (intKind P.prog P.w) a kvs/\kvs.map (·.1)=l.map (·.1)/\VRs P.B h ι (l.map (·.2)) (kvs.map (·.2)):=by
 refine x1_4 (q.objs i _ hi) fun a' e' _ nd qQ4=>?_
 refine x2_2 (qQ4) fun es n eo r=>?_
 clear qQ4
 rw [e] at e';cases e'
 refine x1_4 (ERs.pairs P r) fun kvs p1 p2 p3 p4=>?_
 exact ⟨kvs,⟨_,_,n,eo,⟨rfl,rfl,rfl⟩,rfl,fun e he=>p4 e (by simpa using he),by simpa using p1,by rw [p2];exact nd⟩,p2,p3⟩
theorem OR.ofDict {ι:List Addr}{h:Heap}{a:Addr}{kvs:List (Int×Value)}{l:List (Int×AV)}(hm:(a == sysModules)=false) (q:h.DictOf (intKind P.prog P.w) a kvs) (hk:kvs.map (·.1)=l.map (·.1)) (hv:VRs P.B h ι (l.map (·.2)) (kvs.map (·.2))):OR P.B h ι a (.dict l):=by
 refine x3_5 (q) fun o es ep ho qQ4 hd hks qQ7=>?_
 clear q
 refine x0_3 (qQ4) fun h1 h2 h3=>?_
 clear qQ4
 refine x0_2 (qQ7) fun hp hn=>?_
 clear qQ7
 refine ⟨hm,by rw [←hk];exact hn,es.toList,ep,?_,pairs_ERs hp (fun e he=>hks e (by simpa using he)) hk hv⟩
 obtain ⟨c,dd,dt,sl⟩:=o
 simp only at h1 h2 h3 hd
 subst h1;subst h2;subst h3;subst hd
 simpa using ho
noncomputable def dget (l:List (Int×AV)) (k:Int):Option AV:=(l.find? fun kv=>kv.1=k).map (·.2)
noncomputable def dset (l:List (Int×AV)) (k:Int) (v:AV):List (Int×AV):=if l.any (fun kv=>kv.1=k) then l.map (fun kv=>if kv.1=k then (kv.1,v) else kv) else l++[(k,v)]
theorem find_pos {α:Type}{f:Int×α->Bool}{k:Int}(hf:∀ x,f x=decide (x.1=k)){z:Int×α}{l:List (Int×α)}(h:z.1=k):(z::l).find? f=some z:=List.find?_cons_of_pos (by rw [hf];exact decide_eq_true h)
theorem find_neg {α:Type}{f:Int×α->Bool}{k:Int}(hf:∀ x,f x=decide (x.1=k)){z:Int×α}{l:List (Int×α)}(h:¬ z.1=k):(z::l).find? f=l.find? f:=List.find?_cons_of_neg (by rw [hf];exact fun q=>h (of_decide_eq_true q))
theorem valueAt_dget {B h:Heap}{ι:List Addr}{k:Int}{l:List (Int×AV)}:∀ {kvs:List (Int×Value)},kvs.map (·.1)=l.map (·.1)->VRs B h ι (l.map (·.2)) (kvs.map (·.2)) ->
  (∀ x,dget l k=some x->∃ v,valueAt kvs k=some v/\VR B h ι x v)/\(valueAt kvs k).isSome=(dget l k).isSome:=by
 induction l with
 | nil=>intro kvs hk hv;cases kvs with
  | nil=>exact ⟨(fun x e=>nomatch e),rfl⟩
  | cons _ _=>cases hk
 | cons y l ih=>intro kvs hk hv;cases kvs with
  | nil=>cases hk
  | cons z kvs =>
   have hz:=List.cons.inj hk
   have hz1:z.1=y.1:=hz.1
   refine x2_3 hv fun v' r' e1 rv rr=>?_
   have e2:=List.cons.inj e1
   have i:=ih hz.2 (e2.2▸rr)
   unfold valueAt dget at i ⊢
   by_cases hkk:z.1=k
   ·rw [find_pos (fun _=>rfl) hkk,find_pos (fun _=>rfl) (hz1.symm.trans hkk)]
    exact ⟨fun x e=>⟨z.2,rfl,Option.some.inj e▸(show z.2=v' from e2.1)▸rv⟩,rfl⟩
   ·rw [find_neg (fun _=>rfl) hkk,find_neg (fun _=>rfl) fun q=>hkk (hz1.trans q)]
    exact i
theorem low_not_mods {ι:List Addr}{h:Heap}(hr:HR P.B ι H h){i:Nat}{a:Addr}{l:List (Int×AV)}(ea:ι[i]?=some a) (hi:H[i]?=some (.dict l)):(a == sysModules)=false:=by
 refine x1_3 (hr.objs i _ hi) fun a' e' hm _=>?_
 rw [ea] at e';cases e'
 exact hm
theorem cmp_inD {i:Nat}{l:List (Int×AV)}{k:Int}{Q:AV->Hp->Prop}(hi:H[i]?=some (.dict l)) (h:Q (.bool (dget l k).isSome) H):CmpOK P d .In (.int k) (.ref i) H Q:=op2 fun A E ι s u v w r1 r2=>by
 refine x1_1 (r1) fun t eQ1=>?_
 clear r1
 subst eQ1
 refine x1_2 (r2) fun a eQ1 ea=>?_
 clear r2
 subst eQ1
 refine x1_3 (w.hr.dict ea hi) fun kvs hd hk hv=>?_
 refine x0_2 (valueAt_dget (k:=k) hk hv) fun _ i2=>?_
 exact wpAny_in_of (knd:=intKind P.prog P.w) (k:=k) (by simp [intKind,Value.isInt]) (low_not_mods w.hr ea hi) hd.mapOf (Gives.now _ w.hr (VR.mkBool _) (by rw [i2];exact h))
theorem cmp_notInD {i:Nat}{l:List (Int×AV)}{k:Int}{Q:AV->Hp->Prop}(hi:H[i]?=some (.dict l)) (h:Q (.bool !(dget l k).isSome) H):CmpOK P d .NotIn (.int k) (.ref i) H Q:=op2 fun A E ι s u v w r1 r2=>by
 refine x1_1 (r1) fun t eQ1=>?_
 clear r1
 subst eQ1
 refine x1_2 (r2) fun a eQ1 ea=>?_
 clear r2
 subst eQ1
 refine x1_3 (w.hr.dict ea hi) fun kvs hd hk hv=>?_
 refine x0_2 (valueAt_dget (k:=k) hk hv) fun _ i2=>?_
 exact wpAny_notIn_of (knd:=intKind P.prog P.w) (k:=k) (by simp [intKind,Value.isInt]) (low_not_mods w.hr ea hi) hd.mapOf (Gives.now _ w.hr (VR.mkBool _) (by rw [i2];exact h))
theorem sub_dict {eo ei:Expr}{i:Nat}{l:List (Int×AV)}{k:Int}{x:AV}{Q:AV->Hp->Prop}(hi:H[i]?=some (.dict l)) (hx:dget l k=some x) (h:Q x H):SubOK P d eo ei (.ref i) (.int k) H Q:=op2 fun A E ι s u v w r1 r2=>by
 refine x1_2 (r1) fun a eQ1 ea=>?_
 clear r1
 subst eQ1
 refine x1_1 (r2) fun t eQ1=>?_
 clear r2
 subst eQ1
 refine x1_3 (w.hr.dict ea hi) fun kvs hd hk hv=>?_
 refine x0_2 (valueAt_dget (k:=k) hk hv) fun i1 _=>?_
 refine x1_2 (i1 x hx) fun z hz rz=>?_
 refine x1_1 (subscripted_ops ei (.ref a) (.int k t)) fun ops hops=>?_
 exact PyProof.Rows.tail_any hd.typeIs slot_dict_getitem.lookup (wpAny_getItem_of (knd:=intKind P.prog P.w) (k:=k) (by simp [intKind,Value.isInt]) hd.mapOf hz (Gives.now _ w.hr rz h)) hops
theorem cmp_in {x y:AV}{l:List AV}{dx:PyData}{ds:List PyData}{Q:AV->Hp->Prop}(hy:seqL H y=some l) (hx:dat H x=some dx) (hl:dats H l=some ds) (hd:dx.depth<=100) (h:Q (.bool (ds.any fun z=>PyData.eqv z dx)) H):CmpOK P d .In x y H Q:=op2 fun A E ι s u v w r1 r2=>by
 refine x0_2 (dat_ok w.hr r1 hx) fun qQ0 q2=>?_
 obtain ⟨as,q1⟩:=qQ0
 refine x2_3 (seqL_is w.hr r2 hy) fun a vs eQ2 qQ3 rl=>?_
 subst eQ2
 refine x1_3 (qQ3) fun o eo hc nQ=>?_
 clear qQ3
 revert nQ
 intro qQ3
 obtain ⟨n,hdt⟩:=qQ3
 refine x0_2 (dats_ok w.hr rl hl) fun qQ0 q4=>?_
 obtain ⟨bs,q3⟩:=qQ0
 exact SeqAt.in_list_reads (Reads.list eo hc hdt q3) q1 q4 q2 (by have:=w.room.units;(first|lia|omega)) (Gives.same w.hr (VR.mkBool _) h)
theorem cmp_notIn {x y:AV}{l:List AV}{dx:PyData}{ds:List PyData}{Q:AV->Hp->Prop}(hy:seqL H y=some l) (hx:dat H x=some dx) (hl:dats H l=some ds) (hd:dx.depth<=100) (h:Q (.bool !(ds.any fun z=>PyData.eqv z dx)) H):CmpOK P d .NotIn x y H Q:=op2 fun A E ι s u v w r1 r2=>by
 refine x0_2 (dat_ok w.hr r1 hx) fun qQ0 q2=>?_
 obtain ⟨as,q1⟩:=qQ0
 refine x2_3 (seqL_is w.hr r2 hy) fun a vs eQ2 qQ3 rl=>?_
 subst eQ2
 refine x1_3 (qQ3) fun o eo hc nQ=>?_
 clear qQ3
 revert nQ
 intro qQ3
 obtain ⟨n,hdt⟩:=qQ3
 refine x0_2 (dats_ok w.hr rl hl) fun qQ0 q4=>?_
 obtain ⟨bs,q3⟩:=qQ0
 exact SeqAt.notIn_list_reads (Reads.list eo hc hdt q3) q1 q4 q2 (by have:=w.room.units;(first|lia|omega)) (Gives.same w.hr (VR.mkBool _) h)
theorem cmp_inT {x:AV}{l:List AV}{dx:PyData}{ds:List PyData}{Q:AV->Hp->Prop}(hx:dat H x=some dx) (hl:dats H l=some ds) (hd:dx.depth<=100) (h:Q (.bool (ds.any fun z=>PyData.eqv z dx)) H):CmpOK P d .In x (.tup l) H Q:=op2 fun A E ι s u v w r1 r2=>by
 refine x0_2 (dat_ok w.hr r1 hx) fun qQ0 q2=>?_
 obtain ⟨as,q1⟩:=qQ0
 unfold VR at r2
 refine x2_3 (r2) fun a vs eQ2 qQ3 rl=>?_
 clear r2
 subst eQ2
 refine x3_1 (qQ3) fun n _ _ eo=>?_
 clear qQ3
 refine x0_2 (dats_ok w.hr rl hl) fun qQ0 q4=>?_
 obtain ⟨bs,q3⟩:=qQ0
 exact SeqAt.in_tuple_reads (Reads.tuple eo rfl rfl q3) q1 q4 q2 (by have:=w.room.units;(first|lia|omega)) (Gives.same w.hr (VR.mkBool _) h)
theorem cmp_notInT {x:AV}{l:List AV}{dx:PyData}{ds:List PyData}{Q:AV->Hp->Prop}(hx:dat H x=some dx) (hl:dats H l=some ds) (hd:dx.depth<=100) (h:Q (.bool !(ds.any fun z=>PyData.eqv z dx)) H):CmpOK P d .NotIn x (.tup l) H Q:=op2 fun A E ι s u v w r1 r2=>by
 refine x0_2 (dat_ok w.hr r1 hx) fun qQ0 q2=>?_
 obtain ⟨as,q1⟩:=qQ0
 unfold VR at r2
 refine x2_3 (r2) fun a vs eQ2 qQ3 rl=>?_
 clear r2
 subst eQ2
 refine x3_1 (qQ3) fun n _ _ eo=>?_
 clear qQ3
 refine x0_2 (dats_ok w.hr rl hl) fun qQ0 q4=>?_
 obtain ⟨bs,q3⟩:=qQ0
 exact SeqAt.notIn_tuple_reads (Reads.tuple eo rfl rfl q3) q1 q4 q2 (by have:=w.room.units;(first|lia|omega)) (Gives.same w.hr (VR.mkBool _) h)
noncomputable def isSame (x y:AV):Option Bool:=match y with
 | .none=>(match x with|.none=>some true|_=>some false)
 | .bool b=>(match x with|.none=>some false|.int _=>some false|.bool a=>some (a == b)|_=>Option.none)
 | _=>Option.none
theorem VR.isNone {B h:Heap}{ι:List Addr}{x:AV}{u:Value}(r:VR B h ι x u):isSame x .none=some (u == Value.none):=by
 cases x with
 | none=>rw [show u=_ from r];rfl
 | bool a=>rw [show u=_ from r];rfl
 | int i=>exact r.elim fun t e=>e▸rfl
 | str i=>exact r.2.elim fun t e=>e▸rfl
 | tup l=>unfold VR at r;exact r.elim fun a q=>q.elim fun vs z=>z.1▸rfl
 | ref i=>exact r.elim fun a z=>z.1▸rfl
 | fro l=>unfold VR at r;exact r.elim fun a q=>q.elim fun vs z=>z.1▸rfl
theorem same_val {B h:Heap}{ι:List Addr}{x y:AV}{u v:Value}{b:Bool}(hb:isSame x y=some b) (r1:VR B h ι x u) (r2:VR B h ι y v):(u == v)=b/\(v=.none\/plainIs u v=true):=by
 cases y with
 | none=>rw [show v=_ from r2];exact ⟨Option.some.inj (r1.isNone.symm.trans hb),.inl rfl⟩
 | bool e =>
  rw [show v=_ from r2]
  cases x with
  | none=>rw [show u=_ from r1];exact ⟨Option.some.inj hb,.inr rfl⟩
  | bool a=>rw [show u=_ from r1];exact ⟨(show (Value.bool a == Value.bool e)=(a == e) by cases a<;>cases e<;>rfl).trans (Option.some.inj hb),.inr rfl⟩
  | int i=>exact r1.elim fun t z=>z▸⟨Option.some.inj hb,.inr rfl⟩
  | _=>exact nomatch (show (Option.none:Option Bool)=some _ from hb)
 | _=>exact nomatch (show (Option.none:Option Bool)=some _ from hb)
theorem cmp_is {x y:AV}{b:Bool}{Q:AV->Hp->Prop}(hb:isSame x y=some b) (h:Q (.bool b) H):CmpOK P d .Is x y H Q:=op2 fun A E ι s u v w r1 r2=>by
 have e:=same_val hb r1 r2
 have g:Gives P.B ι s Q (.bool (u == v)) s:=e.1.symm▸Gives.same w.hr (VR.mkBool _) h
 exact e.2.elim (fun z=>z▸is_none (z▸g)) fun z=>wpAny_is_plain z g
theorem cmp_isNot {x y:AV}{b:Bool}{Q:AV->Hp->Prop}(hb:isSame x y=some b) (h:Q (.bool !b) H):CmpOK P d .IsNot x y H Q:=op2 fun A E ι s u v w r1 r2=>by
 have e:=same_val hb r1 r2
 have g:Gives P.B ι s Q (.bool (!(u == v))) s:=e.1.symm▸Gives.same w.hr (VR.mkBool _) h
 exact e.2.elim (fun z=>z▸isNot_none (z▸g)) fun z=>wpAny_isNot_plain z g
theorem fn_lenL {x:AV}{l:List AV}{Q:AV->Hp->Prop}(hx:seqL H x=some l) (hn:l.length<2^62) (h:Q (.int l.length) H):OpOK P d (fun vs=>call (.builtin "len") vs) [x] H Q:=fn1 fun A E ι s u w r=>by
 refine x2_3 (seqL_is w.hr r hx) fun a vs eQ2 il rl=>?_
 subst eQ2
 have e:((List.toArray vs).size:Int)=l.length:=by rw [List.size_toArray,rl.length]
 refine Calls.call_len_list il (by (first|lia|omega)) (Gives.now _ w.hr (av:=.int l.length) ?_ h)
 rw [e];exact VR.mkInt _ _
theorem fn_lenT {l:List AV}{Q:AV->Hp->Prop}(hn:l.length<2^62) (h:Q (.int l.length) H):OpOK P d (fun vs=>call (.builtin "len") vs) [.tup l] H Q:=fn1 fun A E ι s u w r=>by
 unfold VR at r
 refine x2_3 (r) fun a vs eQ2 pt rl=>?_
 clear r
 subst eQ2
 have e:((List.toArray vs).size:Int)=l.length:=by rw [List.size_toArray,rl.length]
 refine PyProof.Rows.len_tuple pt.isTup (by (first|lia|omega)) (Gives.now _ w.hr (av:=.int l.length) ?_ h)
 rw [e];exact VR.mkInt _ _
theorem gives_upd {ι:List Addr}{s:Shared}{i:Nat}{a:Addr}{h':Heap}{l:List AV}{vs:List Value}{v:Value}{x:AV}{Q:AV->Hp->Prop}(hr:HR P.B ι H s.heap) (ea:ι[i]?=some a) (sb:∀ b o,b≠a->s.heap.get? b=some o->h'.get? b=some o)
  (pl:h'.PlainList a (List.toArray vs)) (rl:VRs P.B s.heap ι l vs) (rx:VR P.B s.heap ι x v) (q:Q x (H.set i (.list l))) (t:Nat):Gives P.B ι s Q v { s with heap:=h',toks:=t }:=by
 have ma:a∈ι:=List.mem_of_getElem? ea
 exact ⟨ι,_,x,Post.upd (t:=t) hr ea sb (o:=.list l) ⟨vs,pl,hr.vrs_upd ma sb rl⟩,hr.vr_upd ma sb rx,q⟩
theorem upd_plain {h:Heap}{a:Addr}{its:Array Value}{n:Nat}(e:h.get? a=some { cls:=.type "list",dict:=none,data:=.seq its n,slots:=#[] }) (f:Array Value->Array Value) :
  (h.update a (Obj.mapSeq f)).PlainList a (f its)/\∀ b o,b≠a->h.get? b=some o->(h.update a (Obj.mapSeq f)).get? b=some o:=by
 refine ⟨⟨if (f its).size == its.size then n else n+1,?_⟩,fun b o hb eb=>(Heap.get?_update_other h _ (Ne.symm hb)).trans eb⟩
 exact Heap.get?_update_self _ e rfl
theorem fn_append {i:Nat}{l:List AV}{x:AV}{Q:AV->Hp->Prop}(hi:H[i]?=some (.list l)) (hn:l.length<=sizeLine) (h:Q .none (H.set i (.list (l++[x])))):OpOK P d (fun vs=>call (.builtin "list.append") vs) [.ref i,x] H Q:=fn2 fun A E ι s u v w r1 r2=>by
 refine x1_2 (r1) fun a eQ1 ea=>?_
 clear r1
 subst eQ1
 refine x1_2 (w.hr.list ea hi) fun vs qQ1 rl=>?_
 refine x1_1 (qQ1) fun n pl=>?_
 clear qQ1
 refine wpAny_list_append_plain ⟨n,pl⟩ (fun h' pl' sb=>?_) (by rw [List.size_toArray,rl.length];exact hn)
 exact gives_upd (vs:=vs++[v]) w.hr ea (fun b o hb eb=>sb.extBut b o hb eb) (by simpa using pl') (rl.append (m:=[x]) ⟨v,[],rfl,r2,rfl⟩) VR.mkNone h s.toks
theorem fn_pop {i:Nat}{l:List AV}{x:AV}{Q:AV->Hp->Prop}(hi:H[i]?=some (.list (l++[x]))) (hn:l.length+1<=sizeLine) (h:Q x (H.set i (.list l))):OpOK P d (fun vs=>call (.builtin "list.pop") vs) [.ref i] H Q:=fn1 fun A E ι s u w r1=>by
 refine x1_2 (r1) fun a eQ1 ea=>?_
 clear r1
 subst eQ1
 refine x1_2 (w.hr.list ea hi) fun vs qQ1 rl=>?_
 refine x1_1 (qQ1) fun n pl=>?_
 clear qQ1
 have hlen:vs.length=l.length+1:=by rw [rl.length];simp
 refine x1_2 (rl.get (i:=l.length) (x:=x) (by simp)) fun z hz rz=>?_
 refine call_meets PySem.F.slot_list_pop ⟨_,pl,rfl⟩ PySem.F.entry_list_pop (PySem.F.args_list_pop_1 _) (MeetsSeq.list_pop_last a vs.toArray n z (by simpa [hlen] using hz) (by rw [List.size_toArray,hlen];exact hn)) ⟨pl,?_⟩
 refine x0_2 (upd_plain pl (fun xs=>xs.eraseIdxIfInBounds (vs.toArray.size-1))) fun p1 p2=>?_
 have e:vs.toArray.eraseIdxIfInBounds (vs.toArray.size-1)=(vs.take l.length).toArray:=by
  simp only [List.size_toArray,List.eraseIdxIfInBounds_toArray,hlen,Nat.add_sub_cancel]
  congr 1
  rw [List.eraseIdx_eq_take_drop_succ,List.drop_eq_nil_of_le (by (first|lia|omega))];simp
 rw [e] at p1
 have rt:=rl.take l.length
 rw [List.take_left] at rt
 exact gives_upd (vs:=vs.take l.length) w.hr ea p2 p1 rt rz h s.toks
end Mine
namespace Mine
open PySem
inductive BOp where|add|sub|mul|fdiv|mod|pow
inductive COp where|eq|ne|lt|le|gt|ge|is|isNot|isin|notIn
inductive Ty where|int|bool|str|tuple|list
abbrev Fun:=Str->List AV->Hp->(AV->Hp->Prop)->Prop
abbrev PQ:=AV->Hp->Prop
noncomputable def NoPy (a b:Int):Prop:=Builtin.divisionGoesByPylong a b=false
noncomputable def asB (v:AV) (K:Bool->Prop):Prop:=match v with|.bool b=>K b|_=>False
noncomputable def asI (v:AV) (K:Int->Prop):Prop:=match v with|.int b=>K b|_=>False
theorem asB.ex {v:AV}{K:Bool->Prop}(h:asB v K):∃ b,v=.bool b/\K b:=by
 cases v<;>first|exact h.elim|exact ⟨_,rfl,h⟩
theorem asI.ex {v:AV}{K:Int->Prop}(h:asI v K):∃ b,v=.int b/\K b:=by
 cases v<;>first|exact h.elim|exact ⟨_,rfl,h⟩
noncomputable def asS (v:AV) (K:Str->Prop):Prop:=match v with|.str b=>K b|_=>False
theorem asS.ex {v:AV}{K:Str->Prop}(h:asS v K):∃ b,v=.str b/\K b:=by
 cases v<;>first|exact h.elim|exact ⟨_,rfl,h⟩
noncomputable def asR (v:AV) (K:Nat->Prop):Prop:=match v with|.ref b=>K b|_=>False
theorem asR.ex {v:AV}{K:Nat->Prop}(h:asR v K):∃ b,v=.ref b/\K b:=by
 cases v<;>first|exact h.elim|exact ⟨_,rfl,h⟩
noncomputable def asTp (v:AV) (K:List AV->Prop):Prop:=match v with|.tup b=>K b|_=>False
theorem asTp.ex {v:AV}{K:List AV->Prop}(h:asTp v K):∃ b,v=.tup b/\K b:=by
 cases v<;>first|exact h.elim|exact ⟨_,rfl,h⟩
noncomputable def wpAdd (x y:AV) (H:Hp) (Q:PQ):Prop :=
 match x with
 | .int a=>asI y fun b=>Q (.int (a+b)) H
 | .ref i=>asR y fun j=>∃ l m,H[i]?=some (.list l)/\H[j]?=some (.list m)/\l.length+m.length<=sizeLine/\Q (.ref H.length) (H++[.list (l++m)])
 | .tup l=>asTp y fun m=>l.length+m.length<=sizeLine/\Q (.tup (l++m)) H
 | .str a=>asS y fun b=>a.length+b.length<=sizeLine/\Q (.str (a++b)) H
 | _=>False
noncomputable def wpBin (op:BOp) (x y:AV) (H:Hp) (Q:PQ):Prop :=
 match op with
 | .add=>wpAdd x y H Q
 | .sub=>asI x fun a=>asI y fun b=>Q (.int (a-b)) H
 | .mul=>asI x fun a=>asI y fun b=>IntMulOk a b/\Q (.int (a*b)) H
 | .fdiv=>asI x fun a=>asI y fun b=>b≠0/\NoPy a b/\Q (.int (a.fdiv b)) H
 | .mod=>asI x fun a=>asI y fun b=>b≠0/\Q (.int (a.fmod b)) H
 | .pow=>asI x fun a=>asI y fun n=>0<=n/\n<=1000000/\a.natAbs<2^64/\Q (.int (a^n.toNat)) H
noncomputable def wpIn (x y:AV) (H:Hp) (K:Bool->Prop):Prop :=
 match y with
 | .ref i=>match H[i]? with
  | some (.list l)=>∃ dx ds,dat H x=some dx/\dats H l=some ds/\dx.depth<=100/\K (ds.any fun z=>PyData.eqv z dx)
  | some (.dict l)=>∃ k,x=.int k/\K (dget l k).isSome
  | none=>False
 | .tup l=>∃ dx ds,dat H x=some dx/\dats H l=some ds/\dx.depth<=100/\K (ds.any fun z=>PyData.eqv z dx)
 | _=>False
noncomputable def eqD (x y:AV) (H:Hp) (K:Bool->Prop):Prop:=∃ dx dy,dat H x=some dx/\dat H y=some dy/\dx.depth<=100/\K (PyData.eqv dx dy)
noncomputable def wpEq (x y:AV) (H:Hp) (K:Bool->Prop):Prop :=
 match x with
 | .int a=>(match y with|.int b=>K (a == b)|y=>eqD (.int a) y H K)
 | .str a=>(match y with|.str b=>K (a == b)|y=>eqD (.str a) y H K)
 | .bool a=>(match y with|.bool b=>K (a == b)|y=>eqD (.bool a) y H K)
 | x=>eqD x y H K
theorem wpEq.data {x y:AV}{H:Hp}{K:Bool->Prop}(h:wpEq x y H K):eqD x y H K:=by
 cases x with
 | int a =>
  cases y with
  | int b =>
   have g:K (a == b):=h
   exact ⟨.int a,.int b,rfl,rfl,by simp [PyData.depth],by simpa [PyData.eqv] using g⟩
  | _=>exact h
 | str a =>
  cases y with
  | str b =>
   have g:K (a == b):=h
   exact ⟨.str a,.str b,rfl,rfl,by simp [PyData.depth],by simpa [PyData.eqv] using g⟩
  | _=>exact h
 | bool a =>
  cases y with
  | bool b =>
   have g:K (a == b):=h
   exact ⟨.bool a,.bool b,rfl,rfl,by simp [PyData.depth],by simpa [PyData.eqv] using g⟩
  | _=>exact h
 | _=>exact h
noncomputable def wpCmp (op:COp) (x y:AV) (H:Hp) (Q:PQ):Prop :=
 match op with
 | .eq=>wpEq x y H fun b=>Q (.bool b) H
 | .ne=>wpEq x y H fun b=>Q (.bool !b) H
 | .lt=>asI x fun a=>asI y fun b=>Q (.bool (decide (a<b))) H
 | .le=>asI x fun a=>asI y fun b=>Q (.bool (decide (a<=b))) H
 | .gt=>asI x fun a=>asI y fun b=>Q (.bool (decide (b<a))) H
 | .ge=>asI x fun a=>asI y fun b=>Q (.bool (decide (b<=a))) H
 | .is=>∃ b,isSame x y=some b/\Q (.bool b) H
 | .isNot=>∃ b,isSame x y=some b/\Q (.bool !b) H
 | .isin=>wpIn x y H fun b=>Q (.bool b) H
 | .notIn=>wpIn x y H fun b=>Q (.bool !b) H
section
variable {P:PEnv}{d:Nat}{H:Hp}
noncomputable def BOp.op:BOp->Operator|.add=>.Add|.sub=>.Sub|.mul=>.Mult|.fdiv=>.FloorDiv|.mod=>.Mod|.pow=>.Pow
noncomputable def COp.op:COp->CmpOp|.eq=>.Eq|.ne=>.NotEq|.lt=>.Lt|.le=>.LtE|.gt=>.Gt|.ge=>.GtE|.is=>.Is|.isNot=>.IsNot|.isin=>.In|.notIn=>.NotIn
theorem wpAdd_ok {x y:AV}{Q:PQ}(h:wpAdd x y H Q):BinOK P d .Add x y H Q:=by
 cases x with
 | int a=>obtain ⟨b,rfl,h⟩:=asI.ex h;exact bin_add h
 | ref i=>obtain ⟨j,rfl,l,m,h1,h2,h3,h4⟩:=asR.ex h;exact bin_addL h1 h2 h3 h4
 | tup l=>obtain ⟨m,rfl,h⟩:=asTp.ex h;exact bin_addT h.1 h.2
 | str a=>obtain ⟨b,rfl,h⟩:=asS.ex h;exact bin_addS h.1 h.2
 | _=>exact h.elim
theorem wpBin_ok {op:BOp}{x y:AV}{Q:PQ}(h:wpBin op x y H Q):BinOK P d op.op x y H Q:=by
 cases op with
 | add=>exact wpAdd_ok h
 | sub=>obtain ⟨a,rfl,h⟩:=asI.ex h;obtain ⟨b,rfl,h⟩:=asI.ex h;exact bin_sub h
 | mul=>obtain ⟨a,rfl,h⟩:=asI.ex h;obtain ⟨b,rfl,h⟩:=asI.ex h;exact bin_mul h.1 h.2
 | fdiv=>obtain ⟨a,rfl,h⟩:=asI.ex h;obtain ⟨b,rfl,h⟩:=asI.ex h;exact bin_fdiv h.1 h.2.1 h.2.2
 | mod=>obtain ⟨a,rfl,h⟩:=asI.ex h;obtain ⟨b,rfl,h⟩:=asI.ex h;exact bin_mod h.1 h.2
 | pow=>obtain ⟨a,rfl,h⟩:=asI.ex h;obtain ⟨b,rfl,h⟩:=asI.ex h;exact bin_pow h.1 h.2.1 h.2.2.1 h.2.2.2
structure PEnv.OK2 (P:PEnv):Prop extends P.OK where
 low:∃ b o,P.B.get? b=some o/\sysModules<b
theorem wpIn_ok (ok:P.OK2){x y:AV}{Q:PQ}(h:wpIn x y H fun b=>Q (.bool b) H):CmpOK P d .In x y H Q:=by
 unfold wpIn at h
 split at h
 ·rename_i i
  split at h
  ·rename_i l hl
   refine x2_4 (h) fun dx ds h1 h2 h3 h4=>?_
   clear h
   exact cmp_in (by simp [seqL,hl]) h1 h2 h3 h4
  ·rename_i l hl
   refine x1_2 (h) fun k eQ1 nQ=>?_
   clear h
   revert nQ
   intro h
   subst eQ1
   exact cmp_inD hl h
  ·exact h.elim
 ·refine x2_4 (h) fun dx ds h1 h2 h3 h4=>?_
  clear h
  exact cmp_inT h1 h2 h3 h4
 ·exact h.elim
theorem wpNotIn_ok (ok:P.OK2){x y:AV}{Q:PQ}(h:wpIn x y H fun b=>Q (.bool !b) H):CmpOK P d .NotIn x y H Q:=by
 unfold wpIn at h
 split at h
 ·rename_i i
  split at h
  ·rename_i l hl
   refine x2_4 (h) fun dx ds h1 h2 h3 h4=>?_
   clear h
   exact cmp_notIn (by simp [seqL,hl]) h1 h2 h3 h4
  ·rename_i l hl
   refine x1_2 (h) fun k eQ1 nQ=>?_
   clear h
   revert nQ
   intro h
   subst eQ1
   exact cmp_notInD hl h
  ·exact h.elim
 ·refine x2_4 (h) fun dx ds h1 h2 h3 h4=>?_
  clear h
  exact cmp_notInT h1 h2 h3 h4
 ·exact h.elim
theorem wpEq_ok {x y:AV}{Q:PQ}(h:wpEq x y H fun b=>Q (.bool b) H):CmpOK P d .Eq x y H Q:=by
 refine x2_4 (h.data) fun dx dy h1 h2 h3 h4=>?_
 exact cmp_eq h1 h2 h3 h4
theorem wpNe_ok {x y:AV}{Q:PQ}(h:wpEq x y H fun b=>Q (.bool !b) H):CmpOK P d .NotEq x y H Q:=by
 refine x2_4 (h.data) fun dx dy h1 h2 h3 h4=>?_
 exact cmp_ne h1 h2 h3 h4
theorem wpCmp_ok (ok:P.OK2){op:COp}{x y:AV}{Q:PQ}(h:wpCmp op x y H Q):CmpOK P d op.op x y H Q:=by
 cases op with
 | eq=>exact wpEq_ok h
 | ne=>exact wpNe_ok h
 | lt=>obtain ⟨a,rfl,h⟩:=asI.ex h;obtain ⟨b,rfl,h⟩:=asI.ex h;exact cmp_lt h
 | le=>obtain ⟨a,rfl,h⟩:=asI.ex h;obtain ⟨b,rfl,h⟩:=asI.ex h;exact cmp_le h
 | gt=>obtain ⟨a,rfl,h⟩:=asI.ex h;obtain ⟨b,rfl,h⟩:=asI.ex h;exact cmp_gt h
 | ge=>obtain ⟨a,rfl,h⟩:=asI.ex h;obtain ⟨b,rfl,h⟩:=asI.ex h;exact cmp_ge h
 | is=>obtain ⟨b,h1,h2⟩:=h;exact cmp_is h1 h2
 | isNot=>obtain ⟨b,h1,h2⟩:=h;exact cmp_isNot h1 h2
 | isin=>exact wpIn_ok ok h
 | notIn=>exact wpNotIn_ok ok h
end
end Mine
namespace Mine
open PySem
set_option maxRecDepth 100000
variable {P:PEnv}{C:Ctx}{d:Nat}{loc:Loc}{H:Hp}{X:XP}
noncomputable def Ty.nm:Ty->String|.int => "int" | .bool => "bool" | .str => "str" | .tuple => "tuple" | .list => "list"
noncomputable def isi (H:Hp) (x:AV) (t:Ty):Bool :=
 match x with
 | .none=>false
 | .bool _=>(match t with|.bool=>true|.int=>true|_=>false)
 | .int _=>(match t with|.int=>true|_=>false)
 | .str _=>(match t with|.str=>true|_=>false)
 | .tup _=>(match t with|.tuple=>true|_=>false)
 | .fro _=>(match t with|.list=>true|_=>false)
 | .ref i=>(match t with|.list=>(match H[i]? with|some (.list _)=>true|_=>false)|_=>false)
theorem isi_ok {x:AV}{t:Ty}{Q:AV->Hp->Prop}(h:Q (.bool (isi H x t)) H):OpOK P d (fun vs=>call (.builtin "isinstance") [vs.getD 0 .none,.type t.nm]) [x] H Q:=fun A E ι s us w rs=>by
 refine x1_2 (vrs1 rs) fun u eQ1 r=>?_
 subst eQ1
 show wpAny (model P.prog P.w) A (call (.builtin "isinstance") [u,.type t.nm]) (Gives P.B ι s Q) E s
 have b0:∀ b,Q (.bool b) H->Gives P.B ι s Q (.bool b) s:=fun b q=>Gives.same w.hr (VR.mkBool b) q
 have b1:∀ b,Q (.bool b) H->Gives P.B ι s Q (.bool b) { s with toks:=s.toks+1 }:=fun b q=>Gives.now _ w.hr (VR.mkBool b) q
 cases x with
 | none =>
  cases r
  cases t
  ·exact IsiPair.NoneType_int (b1 _ h)
  ·exact IsiPair.NoneType_bool (b1 _ h)
  ·exact IsiPair.NoneType_str (b1 _ h)
  ·exact IsiPair.NoneType_tuple (b1 _ h)
  ·exact IsiPair.NoneType_list (b1 _ h)
 | bool b =>
  cases r
  cases t
  ·exact IsiPair.bool_int (b0 _ h)
  ·exact IsiPair.bool_bool (b0 _ h)
  ·exact IsiPair.bool_str (b1 _ h)
  ·exact IsiPair.bool_tuple (b1 _ h)
  ·exact IsiPair.bool_list (b1 _ h)
 | int i =>
  refine x1_1 (r) fun tk eQ1=>?_
  clear r
  subst eQ1
  cases t
  ·exact IsiPair.int_int (b0 _ h)
  ·exact IsiPair.int_bool (b1 _ h)
  ·exact IsiPair.int_str (b1 _ h)
  ·exact IsiPair.int_tuple (b1 _ h)
  ·exact IsiPair.int_list (b1 _ h)
 | str y =>
  refine x0_2 (r) fun _ qQ1=>?_
  clear r
  obtain ⟨tk,rfl⟩:=qQ1
  cases t
  ·exact IsiPair.str_int (b1 _ h)
  ·exact IsiPair.str_bool (b1 _ h)
  ·exact IsiPair.str_str (b0 _ h)
  ·exact IsiPair.str_tuple (b1 _ h)
  ·exact IsiPair.str_list (b1 _ h)
 | tup l =>
  unfold VR at r
  refine x2_3 (r) fun a vs eQ2 qQ3 rl=>?_
  clear r
  subst eQ2
  refine x3_1 (qQ3) fun n _ _ e=>?_
  clear qQ3
  cases t
  ·exact IsiPair.tuple_int e rfl (b1 _ h)
  ·exact IsiPair.tuple_bool e rfl (b1 _ h)
  ·exact IsiPair.tuple_str e rfl (b1 _ h)
  ·exact IsiPair.tuple_tuple e rfl (b0 _ h)
  ·exact IsiPair.tuple_list e rfl (b1 _ h)
 | fro l =>
  unfold VR at r
  refine x2_3 (r) fun a vs eQ2 qQ3 rl=>?_
  clear r
  subst eQ2
  refine x1_3 (qQ3) fun o e hc _=>?_
  clear qQ3
  have e:=w.hr.base _ _ e
  cases t
  ·exact IsiPair.list_int e hc (b1 _ h)
  ·exact IsiPair.list_bool e hc (b1 _ h)
  ·exact IsiPair.list_str e hc (b1 _ h)
  ·exact IsiPair.list_tuple e hc (b1 _ h)
  ·exact IsiPair.list_list e hc (b0 _ h)
 | ref i =>
  unfold VR at r
  refine x1_2 (r) fun a eQ1 ea=>?_
  clear r
  subst eQ1
  refine x1_2 (w.hr.there ea) fun o eo oo=>?_
  cases o with
  | list l =>
   refine x1_2 (oo) fun vs qQ1 _=>?_
   clear oo
   refine x1_1 (qQ1) fun n e=>?_
   clear qQ1
   cases t
   ·exact IsiPair.list_int e rfl (b1 _ h)
   ·exact IsiPair.list_bool e rfl (b1 _ h)
   ·exact IsiPair.list_str e rfl (b1 _ h)
   ·exact IsiPair.list_tuple e rfl (b1 _ h)
   ·exact IsiPair.list_list e rfl (b0 _ (by simpa [isi,eo] using h))
  | dict l =>
   refine x0_3 (oo) fun _ _ qQ2=>?_
   clear oo
   refine x2_2 (qQ2) fun vs n e _=>?_
   clear qQ2
   cases t
   ·exact IsiPair.dict_int e rfl (b1 _ h)
   ·exact IsiPair.dict_bool e rfl (b1 _ h)
   ·exact IsiPair.dict_str e rfl (b1 _ h)
   ·exact IsiPair.dict_tuple e rfl (b1 _ h)
   ·exact IsiPair.dict_list e rfl (b1 _ (by simpa [isi,eo] using h))
theorem fn_intB {b:Bool}{Q:AV->Hp->Prop}(h:Q (.int (if b then 1 else 0)) H):OpOK P d (fun vs=>call (.type "int") vs) [.bool b] H Q:=fn1 fun A E ι s u w r=>by
 cases r
 exact call_int_bool (Gives.now _ w.hr (VR.mkInt _ _) h)
theorem fn_max {a b:Int}{Q:AV->Hp->Prop}(st:P.hd=none) (h:Q (.int (if b>a then b else a)) H):OpOK P d (fun vs=>call (.builtin "max") vs) [.int a,.int b] H Q:=fn2 fun A E ι s u v w r1 r2=>by
 obtain ⟨t,rfl⟩:=r1;obtain ⟨t',rfl⟩:=r2
 refine max_two_ints (w.qt.still st) fun h' tk hk=>⟨ι,H,_,Post.keep w.hr hk,?_,h⟩
 split
 ·exact VR.mkInt _ _
 ·exact VR.mkInt _ _
theorem fn_min {a b:Int}{Q:AV->Hp->Prop}(st:P.hd=none) (h:Q (.int (if b<a then b else a)) H):OpOK P d (fun vs=>call (.builtin "min") vs) [.int a,.int b] H Q:=fn2 fun A E ι s u v w r1 r2=>by
 obtain ⟨t,rfl⟩:=r1;obtain ⟨t',rfl⟩:=r2
 refine min_two_ints (w.qt.still st) fun h' tk hk=>⟨ι,H,_,Post.keep w.hr hk,?_,h⟩
 split
 ·exact VR.mkInt _ _
 ·exact VR.mkInt _ _
theorem VRs.cons {B h:Heap}{ι:List Addr}{x:AV}{v:Value}{l:List AV}{vs:List Value}(a:VR B h ι x v) (b:VRs B h ι l vs):VRs B h ι (x::l) (v::vs):=by unfold VRs;exact ⟨v,vs,rfl,a,b⟩
theorem VRs.kept {B h h':Heap}{ι ι':List Addr}(k:∀ b o,h.get? b=some o->h'.get? b=some o) (p:ι<+:ι'){l:List AV}{vs:List Value}(r:VRs B h ι l vs):VRs B h' ι' l vs :=
 VRs.mono (kept_nil_of k) noTup_nil p l vs r
theorem fn_listOf {x:AV}{l:List AV}{Q:AV->Hp->Prop}(hx:seqL H x=some l\/x=.tup l) (hn:l.length<=sizeLine) (h:Q (.ref H.length) (H++[.list l])):OpOK P d (fun vs=>call (.type "list") vs) [x] H Q:=fn1 fun A E ι s u w r=>by
 have fin:∀ a vs T o n,T = "list" \/ T = "tuple" -> VRs P.B s.heap ι l vs->s.heap.get? a=some o->o.cls=.type T->o.data=.seq vs.toArray n ->
   wpAny (model P.prog P.w) A (call (.type "list") [.ref a]) (Gives P.B ι s Q) E s:=fun a vs T o n hT rl ho hc hd=>by
  refine call_list_seq a hT ho hc hd (fun h' c' hk hnew=>?_) (by rw [List.size_toArray,rl.length];exact hn)
  refine ⟨_,_,.ref H.length,Post.alloc (t:=s.toks) w.hr hk (get_size _) (o:=.list l) ⟨vs,⟨c',hnew⟩,rl.kept hk (List.prefix_append _ _)⟩,?_,h⟩
  unfold VR
  exact ⟨_,rfl,by rw [←w.hr.len];simp⟩
 rcases hx with hx|rfl
 ·refine x2_3 (seqL_is w.hr r hx) fun a vs eQ2 il rl=>?_
  subst eQ2
  refine x1_3 (il) fun o ho hc qQ3=>?_
  clear il
  refine x1_1 (qQ3) fun n hd=>?_
  clear qQ3
  exact fin a vs _ o n (.inl rfl) rl ho hc hd
 ·unfold VR at r
  refine x2_3 (r) fun a vs eQ2 qQ3 rl=>?_
  clear r
  subst eQ2
  refine x3_1 (qQ3) fun n _ _ e=>?_
  clear qQ3
  exact fin a vs _ _ n (.inr rfl) rl e rfl rfl
theorem fn_tupleOf {x:AV}{l:List AV}{Q:AV->Hp->Prop}(hx:seqL H x=some l) (hn:l.length<=sizeLine) (h:Q (.tup l) H):OpOK P d (fun vs=>call (.type "tuple") vs) [x] H Q:=fn1 fun A E ι s u w r=>by
 refine x2_3 (seqL_is w.hr r hx) fun a vs eQ2 il rl=>?_
 subst eQ2
 refine call_tuple_list il (fun h' hk=>?_) (by rw [List.size_toArray,rl.length];exact hn)
 have hk':∀ b o,s.heap.get? b=some o->(h'.push { cls:=.type "tuple",data:=.seq vs.toArray }).get? b=some o:=fun b o e=>Heap.get?_push_of_some _ (hk b o e)
 refine ⟨ι,H,.tup l,Post.keep (t:=s.toks) w.hr hk',?_,h⟩
 unfold VR
 exact ⟨_,vs,rfl,PTup.new _ _,rl.kept hk' (List.prefix_refl _)⟩
theorem VRs.bools {B h:Heap}{ι:List Addr}:∀ {bs:List Bool}{vs:List Value},VRs B h ι (bs.map .bool) vs->vs=bs.map .bool
 | [],_,r=>r
 | b::bs,vs,r=>by
  refine x2_3 (r) fun v t eQ2 hv ht=>?_
  clear r
  subst eQ2
  rw [VRs.bools ht,show v=.bool b from hv];rfl
theorem fn_all {x:AV}{bs:List Bool}{Q:AV->Hp->Prop}(hx:seqL H x=some (bs.map .bool)) (h:Q (.bool (bs.all fun b=>b)) H):OpOK P d (fun vs=>call (.builtin "all") vs) [x] H Q:=fn1 fun A E ι s u w r=>by
 refine x2_3 (seqL_is w.hr r hx) fun a vs eQ2 il rl=>?_
 subst eQ2
 have:=rl.bools;subst this
 refine x1_2 (Qh.list (A:=A.in1) (w.qt.qh w.hr.base)) fun cs c1 c2=>?_
 refine call_all_walk (wpAny_pyIter_list il ⟨_,_,_,_,_,_,fun i=>(bs[i]?).getD false,rfl,walks_q (A:=A.in1) s.heap.objs.size a ?_ (get_size _) c1 c2 (bs.map Value.bool).toArray,⟨⟨?_,?_⟩,fun b _ o e=>Heap.get?_push_of_some _ e⟩,?_,fun h' tk hk=>?_⟩)
 ·rintro rfl;obtain ⟨o,e,_⟩:=il;rw [get_size] at e;cases e
 ·exact ⟨_,Heap.get?_push_size _ rfl,rfl,rfl⟩
 ·exact il.push _
 ·intro i v Q' E' s' hv hq
  simp only [List.getElem?_toArray,List.getElem?_map] at hv
  cases hb:bs[i]? with
  | none=>rw [hb] at hv;simp at hv
  | some b =>
   rw [hb] at hv;simp at hv;subst hv
   simp only [hb,Option.getD_some] at hq
   exact wpAny_truthy_bool hq
 ·have hk':∀ b o,s.heap.get? b=some o->h'.get? b=some o:=fun b o e=>hk b o (fun m=>by
   simp only [List.mem_singleton] at m;subst m;rw [get_size] at e;cases e) (Heap.get?_push_of_some _ e)
  have e:(List.range (bs.map Value.bool).toArray.size).all (fun i=>(bs[i]?).getD false)=bs.all fun b=>b:=by
   rw [Bool.eq_iff_iff]
   simp only [List.all_eq_true,List.mem_range,List.size_toArray,List.length_map]
   constructor
   ·intro q b hb
    refine x1_1 (List.getElem_of_mem hb) fun i qQ1=>?_
    obtain ⟨hi,rfl⟩:=qQ1
    simpa [hi] using q i hi
   ·intro q i hi
    simpa [hi] using q _ (List.getElem_mem hi)
  rw [e]
  exact ⟨ι,H,_,Post.keep w.hr hk',VR.mkBool _,h⟩
theorem fn_any {x:AV}{bs:List Bool}{Q:AV->Hp->Prop}(hx:seqL H x=some (bs.map .bool)) (h:Q (.bool (bs.any fun b=>b)) H):OpOK P d (fun vs=>call (.builtin "any") vs) [x] H Q:=fn1 fun A E ι s u w r=>by
 refine x2_3 (seqL_is w.hr r hx) fun a vs eQ2 il rl=>?_
 subst eQ2
 have:=rl.bools;subst this
 refine x1_2 (Qh.list (A:=A.in1) (w.qt.qh w.hr.base)) fun cs c1 c2=>?_
 refine call_any_walk (wpAny_pyIter_list il ⟨_,_,_,_,_,_,fun i=>(bs[i]?).getD false,rfl,walks_q (A:=A.in1) s.heap.objs.size a ?_ (get_size _) c1 c2 (bs.map Value.bool).toArray,⟨⟨?_,?_⟩,fun b _ o e=>Heap.get?_push_of_some _ e⟩,?_,fun h' tk hk=>?_⟩)
 ·rintro rfl;obtain ⟨o,e,_⟩:=il;rw [get_size] at e;cases e
 ·exact ⟨_,Heap.get?_push_size _ rfl,rfl,rfl⟩
 ·exact il.push _
 ·intro i v Q' E' s' hv hq
  simp only [List.getElem?_toArray,List.getElem?_map] at hv
  cases hb:bs[i]? with
  | none=>rw [hb] at hv;simp at hv
  | some b =>
   rw [hb] at hv;simp at hv;subst hv
   simp only [hb,Option.getD_some] at hq
   exact wpAny_truthy_bool hq
 ·have hk':∀ b o,s.heap.get? b=some o->h'.get? b=some o:=fun b o e=>hk b o (fun m=>by
   simp only [List.mem_singleton] at m;subst m;rw [get_size] at e;cases e) (Heap.get?_push_of_some _ e)
  have e:(List.range (bs.map Value.bool).toArray.size).any (fun i=>(bs[i]?).getD false)=bs.any fun b=>b:=by
   rw [Bool.eq_iff_iff]
   simp only [List.any_eq_true,List.mem_range,List.size_toArray,List.length_map]
   constructor
   ·rintro ⟨i,hi,q⟩
    exact ⟨bs[i],List.getElem_mem hi,by simpa [hi] using q⟩
   ·rintro ⟨b,hb,q⟩
    refine x1_1 (List.getElem_of_mem hb) fun i qQ1=>?_
    obtain ⟨hi,rfl⟩:=qQ1
    exact ⟨i,hi,by simpa [hi] using q⟩
  rw [e]
  exact ⟨ι,H,_,Post.keep w.hr hk',VR.mkBool _,h⟩
theorem listFits {k:Int}(h0:0<=k) (h1:k<2^62):Builtin.List.listFitsIndex k=true:=fitsIndex_of h0 (by (first|lia|omega))
theorem fn_popAt {i:Nat}{l:List AV}{k:Int}{x:AV}{Q:AV->Hp->Prop}(hi:H[i]?=some (.list l)) (hn:l.length<=sizeLine) (h0:0<=k) (h1:k<2^62) (hx:l[k.toNat]?=some x) (h:Q x (H.set i (.list (l.eraseIdx k.toNat)))) :
  OpOK P d (fun vs=>call (.builtin "list.pop") vs) [.ref i,.int k] H Q:=fn2 fun A E ι s u v w r1 r2=>by
 refine x1_2 (r1) fun a eQ1 ea=>?_
 clear r1
 subst eQ1
 refine x1_1 (r2) fun t eQ1=>?_
 clear r2
 subst eQ1
 refine x1_2 (w.hr.list ea hi) fun vs qQ1 rl=>?_
 refine x1_1 (qQ1) fun n pl=>?_
 clear qQ1
 refine x1_2 (rl.get hx) fun z hz rz=>?_
 have hlt:k.toNat<l.length:=(List.getElem?_eq_some_iff.mp hx).1
 refine call_meets PySem.F.slot_list_pop ⟨_,pl,rfl⟩ PySem.F.entry_list_pop (PySem.F.args_list_pop_2 _ _) (MeetsSeq.list_pop_at a vs.toArray n k t k.toNat z (listFits h0 h1) ?_ (by simpa using hz) (by rw [List.size_toArray,rl.length];exact hn)) ⟨pl,?_⟩
 ·refine seqIndex_place ?_
  unfold place
  rw [if_pos h0,if_pos (by rw [List.size_toArray,rl.length];(first|lia|omega))]
 ·refine x0_2 (upd_plain pl (fun xs=>xs.eraseIdxIfInBounds k.toNat)) fun p1 p2=>?_
  have e:vs.toArray.eraseIdxIfInBounds k.toNat=(vs.eraseIdx k.toNat).toArray:=by simp
  rw [e] at p1
  have rt:VRs P.B s.heap ι (l.eraseIdx k.toNat) (vs.eraseIdx k.toNat):=by
   rw [List.eraseIdx_eq_take_drop_succ,List.eraseIdx_eq_take_drop_succ]
   exact (rl.take _).append (rl.drop _)
  exact gives_upd w.hr ea p2 p1 rt rz h s.toks
theorem fn_insert {i:Nat}{l:List AV}{k:Int}{x:AV}{Q:AV->Hp->Prop}(hi:H[i]?=some (.list l)) (hn:l.length<=sizeLine) (h0:0<=k) (h1:k<=l.length) (h:Q .none (H.set i (.list (l.take k.toNat++x::l.drop k.toNat)))) :
  OpOK P d (fun vs=>call (.builtin "list.insert") vs) [.ref i,.int k,x] H Q:=fn3 fun A E ι s u v y w r1 r2 r3=>by
 refine x1_2 (r1) fun a eQ1 ea=>?_
 clear r1
 subst eQ1
 refine x1_1 (r2) fun t eQ1=>?_
 clear r2
 subst eQ1
 refine x1_2 (w.hr.list ea hi) fun vs qQ1 rl=>?_
 refine x1_1 (qQ1) fun n pl=>?_
 clear qQ1
 have hsl:(sizeLine:Int)<2^62:=by unfold sizeLine;(first|lia|omega)
 refine call_meets PySem.F.slot_list_insert ⟨_,pl,rfl⟩ PySem.F.entry_list_insert (PySem.F.args_list_insert_3 _ _ _) (AutoListH.list_insert_list_int_val_1 a vs.toArray n k t y (by rw [listFits h0 (by (first|lia|omega))];decide) (by rw [List.size_toArray,rl.length];exact hn)) ⟨pl,?_⟩
 obtain ⟨p1,p2⟩:=upd_plain pl (fun xs=>have k':=if k<0 then (k+((xs.size:Nat):Int)).toNat else min k.toNat xs.size;(xs.extract 0 k').push y++xs.extract k')
 have hk:(if k<0 then (k+((vs.toArray.size:Nat):Int)).toNat else min k.toNat vs.toArray.size)=k.toNat:=by
  rw [if_neg (by (first|lia|omega)),List.size_toArray,rl.length];(first|lia|omega)
 have e:(have k':=if k<0 then (k+((vs.toArray.size:Nat):Int)).toNat else min k.toNat vs.toArray.size;(vs.toArray.extract 0 k').push y++vs.toArray.extract k')=(vs.take k.toNat++y::vs.drop k.toNat).toArray:=by
  simp only [hk]
  apply Array.toList_inj.mp
  simp [List.take_of_length_le]
 rw [e] at p1
 exact gives_upd w.hr ea p2 p1 ((rl.take _).append (VRs.cons r3 (rl.drop _))) VR.mkNone h s.toks
theorem fn_extend {i j:Nat}{l m:List AV}{Q:AV->Hp->Prop}(hi:H[i]?=some (.list l)) (hj:H[j]?=some (.list m)) (hn:l.length+m.length<=1000000) (h:Q .none (H.set i (.list (l++m)))) :
  OpOK P d (fun vs=>call (.builtin "list.extend") vs) [.ref i,.ref j] H Q:=fn2 fun A E ι s u v w r1 r2=>by
 refine x1_2 (r1) fun a eQ1 ea=>?_
 clear r1
 subst eQ1
 refine x1_2 (w.hr.list ea hi) fun vs qQ1 rl=>?_
 refine x1_1 (qQ1) fun n pl=>?_
 clear qQ1
 have hsl:1000000<=sizeLine:=by unfold sizeLine;(first|lia|omega)
 have hl:=rl.length
 refine x1_2 (r2) fun b eQ1 eb=>?_
 clear r2
 subst eQ1
 refine x1_2 (w.hr.list eb hj) fun ws qQ1 rm=>?_
 refine x1_1 (qQ1) fun n' pm=>?_
 clear qQ1
 have hm:=rm.length
 refine call_meets PySem.F.slot_list_extend ⟨_,pl,rfl⟩ PySem.F.entry_list_extend (PySem.F.args_list_extend_2 _ _) (AutoSeq1.list_extend_list_list_0 a vs.toArray n b ws.toArray n' ?_ (by rw [List.size_toArray];(first|lia|omega)) (by simp only [List.size_toArray];(first|lia|omega))) ⟨pl,pm,?_⟩
 ·simp only [Bool.and_eq_true,not_and];intro _;simp only [Builtin.List.listTooLong,List.size_toArray,hl,hm,decide_eq_true_eq];(first|lia|omega)
 ·refine x0_2 (upd_plain pl (fun xs=>xs++ws.toArray)) fun p1 p2=>?_
  exact gives_upd (vs:=vs++ws) w.hr ea p2 (by simpa using p1) (rl.append rm) VR.mkNone h s.toks
theorem fn_clear {i:Nat}{l:List AV}{Q:AV->Hp->Prop}(hi:H[i]?=some (.list l)) (hn:l.length<=sizeLine) (h:Q .none (H.set i (.list []))) :
  OpOK P d (fun vs=>call (.builtin "list.clear") vs) [.ref i] H Q:=fn1 fun A E ι s u w r1=>by
 refine x1_2 (r1) fun a eQ1 ea=>?_
 clear r1
 subst eQ1
 refine x1_2 (w.hr.list ea hi) fun vs qQ1 rl=>?_
 refine x1_1 (qQ1) fun n pl=>?_
 clear qQ1
 refine call_meets PySem.F.slot_list_clear ⟨_,pl,rfl⟩ PySem.F.entry_list_clear (PySem.F.args_list_clear_1 _) (AutoSeq1.list_clear_list_0 a vs.toArray n (by rw [List.size_toArray,rl.length];exact hn)) ⟨pl,?_⟩
 refine x0_2 (upd_plain pl (fun _=>#[])) fun p1 p2=>?_
 exact gives_upd (vs:=[]) (l:=[]) w.hr ea p2 p1 rfl VR.mkNone h s.toks
end Mine
namespace Mine
open PySem
set_option maxRecDepth 100000
variable {P:PEnv}{C:Ctx}{d:Nat}{loc:Loc}{H:Hp}{X:XP}
noncomputable def ItCall (P:PEnv) (tt:Bool) (d:Nat) (t:List Value->Sem Value) (args:List AV) (H:Hp) (K:List AV->(Hp->Prop)->Hp->Prop):Prop :=
 ∀ A E ι s vs,W P A d ι H s->VRs P.B s.heap ι args vs->wpAny (model P.prog P.w) A (t vs) (ItG P tt A ι s K) E s
theorem itEv_ty {tt:Bool}{x:Str}{T:String}{pn pos:Pos}{e0:Expr}{es:List Expr}{K:List AV->(Hp->Prop)->Hp->Prop}(ok:P.OK) (hk:C.names.lookup x=some .globalImplicit) (hd:(x == ("__debug__" : Str))=false)
  (hg:P.mg x=none) (hb:P.mb x=some (.type T))
  (h:EvsOK P C d (e0::es) loc H (fun args H'=>ItCall P tt d (fun vs=>call (.type T) vs) args H' K) X) (he:∀ env,starEach (e0::es) env=(false,eval e0 env)::starEach es env) (hp:plainArgs es) :
  ItEv P tt C d (.Call (.Name x pn) (e0::es) [] pos) loc H K X:=fun A E env ι s w e a=>by
 refine PyProof.Rows.Call_ (Calls.Name_function_global e.kind (by unfold Env.kindOf;rw [e.names];exact hk) (Calls.loadGlobal_builtin (e.glob▸ok.g.keeps fun b o e=>w.hr.base b o e) hg (e.blt▸ok.b.keeps fun b o e=>w.hr.base b o e) hb ?_) hd)
 refine PyProof.Rows.callWith_type1 (gll (h A E env ι s pos w e a) (fun vs s₁ ι₁ H₁ l p₁ r₁ g=>?_)) (he env) (hp env pos)
 refine gi (g A E ι₁ s₁ vs (w.step p₁) r₁) fun v s' ι₂ H₂ items Cnd s₀ p₂ tl k=>?_
 exact ⟨ι₂,H₂,items,Cnd,s₀,p₁.trans p₂,tl,k⟩
theorem rng_last {n k:Nat}(h:k<n):0<(n:Int)-k:=by (first|lia|omega)
theorem tail_range {tt:Bool}{A:Around}{ι:List Addr}{s:Shared}{a b:Int}{t u v:Tok}{r:Addr}(st:P.hd=none) (hr:HR P.B ι H s.heap) (hs:IsRange s.heap r a b 1 t u v) (ha : -(2^62)<=a) (ha':a<2^62) (hb : -(2^62)<=b) (hb':b<2^62) :
  ItTail P tt A ι ((List.range (b-a).toNat).map fun (k:Nat)=>AV.int (a+k)) (fun _=>True) (.ref r) s s:=fun E Q h=>by
 refine wpAny_pyIter_range hs (small_one ha ha' hb hb') ?_
 have rs:Builtin.Range.rangeSize a b 1=((b-a).toNat:Int):=by rw [rangeSize_one];split<;>(first|lia|omega)
 rw [rs]
 refine One.new (P:=P) (T := "range_iterator") (At:=fun k o=>o={ cls:=.type "range_iterator",dict:=none,data:=.fields #[rawInt (a+k),rawInt (((b-a).toNat:Int)-k),rawInt 1],slots:=#[] }) (Pre:=fun _ _=>True) h
  ⟨fun k o z=>⟨by rw [z],by rw [z];exact fields_no rfl⟩,by decide,fun _ _ _ _ _ _ _ _ _=>trivial,?_,?_,fun A E s k Q q hQ=>x1_2 q fun o e z=>wpAny_pyIter_rangeiter (z▸e) hQ⟩ (by rw [Int.natCast_zero,Int.add_zero,Int.sub_zero]) rfl trivial
 ·intro A E ι₁ H₁ s₁ k x Q hh hr₁ hc _ q hx hQ
  refine x1_2 q fun o e z=>?_
  subst z
  have hk:k<(b-a).toNat:=by
   have:=(List.getElem?_eq_some_iff.mp hx).1
   rwa [List.length_map,List.length_range] at this
  rw [List.getElem?_map,List.getElem?_range hk] at hx
  refine wpAny_pyNext_range_item e (rng_last hk) fun h' it' sb=>hQ _ h' (s₁.toks+1) (Option.some.inj hx▸VR.mkInt _ _) ⟨_,it',?_⟩ sb
  rw [Int.natCast_add,Int.natCast_one,Int.add_assoc,Int.sub_sub]
 ·intro A E ι₁ H₁ s₁ Q hh hr₁ hc _ q hQ
  refine x1_2 q fun o e z=>?_
  subst z
  rw [List.length_map,List.length_range] at e
  exact wpAny_pyNext_range_end (hh.still st) e (Int.le_of_eq (Int.sub_self _)) fun h' ext=>hQ h' s₁.toks ext
theorem it_range1 {tt:Bool}{n:Int}{K:List AV->(Hp->Prop)->Hp->Prop}(st:P.hd=none) (h0 : -(2^62)<=n) (h1:n<2^62) (h:K ((List.range n.toNat).map fun (k:Nat)=>AV.int k) (fun _=>True) H):ItCall P tt d (fun vs=>call (.type "range") vs) [.int n] H K:=fun A E ι s vs w rs=>by
 refine x1_2 (vrs1 rs) fun u eQ1 r=>?_
 subst eQ1
 clear rs
 refine x1_1 (r) fun t eQ1=>?_
 clear r
 subst eQ1
 refine call_range_1 ?_
 have p:Post P.B ι s ι H { s with heap:=s.heap.push { cls:=.type "range",data:=.fields #[.int 0 s.toks,.int n t,.int 1 (s.toks+1)] },toks:=s.toks+1+1 }:=Post.keep w.hr fun b o e=>Heap.get?_push_of_some _ e
 refine ⟨ι,H,_,_,_,p,tail_range (a:=0) (b:=n) st p.hr (IsRange.new ..) (by (first|lia|omega)) (by (first|lia|omega)) h0 h1,?_⟩
 simpa using h
theorem it_range2 {tt:Bool}{a b:Int}{K:List AV->(Hp->Prop)->Hp->Prop}(st:P.hd=none) (ha : -(2^62)<=a) (ha':a<2^62) (hb : -(2^62)<=b) (hb':b<2^62) (h:K ((List.range (b-a).toNat).map fun (k:Nat)=>AV.int (a+k)) (fun _=>True) H):ItCall P tt d (fun vs=>call (.type "range") vs) [.int a,.int b] H K:=fun A E ι s vs w rs=>by
 refine x2_3 (vrs2 rs) fun u v eQ2 r1 r2=>?_
 subst eQ2
 clear rs
 refine x1_1 (r1) fun t eQ1=>?_
 clear r1
 subst eQ1
 refine x1_1 (r2) fun t' eQ1=>?_
 clear r2
 subst eQ1
 refine call_range_2 ?_
 have p:Post P.B ι s ι H { s with heap:=s.heap.push { cls:=.type "range",data:=.fields #[.int a t,.int b t',.int 1 s.toks] },toks:=s.toks+1 }:=Post.keep w.hr fun b o e=>Heap.get?_push_of_some _ e
 exact ⟨ι,H,_,_,_,p,tail_range (a:=a) (b:=b) st p.hr (IsRange.new ..) ha ha' hb hb',h⟩
theorem rev_at {n k:Nat}(h:k<n):(n:Int)-1-k=((n-1-k:Nat):Int)/\(n:Int)-1-(k+1:Nat)=((n-1-k:Nat):Int)-1:=by (first|lia|omega)
theorem it_rev {tt:Bool}{i:Nat}{l:List AV}{K:List AV->(Hp->Prop)->Hp->Prop}(st:P.hd=none) (hi:H[i]?=some (.list l)) (h:K l.reverse (fun H'=>H'[i]?=some (.list l)) H):ItCall P tt d (fun vs=>call (.type "reversed") vs) [.ref i] H K:=fun A E ι s vs w rs=>by
 refine x1_2 (vrs1 rs) fun u eQ1 r=>x1_2 r fun a eQ ea=>?_
 subst eQ1
 subst eQ
 clear rs r
 have at_:∀ {ι H h},HR P.B ι H h->H[i]?=some (.list l)->ι[i]?=some a->∃ vs,h.PlainList a (List.toArray vs)/\VRs P.B h ι l vs:=fun hr hi ea=>x1_2 (hr.objs i _ hi) fun a' ea' o=>Option.some.inj (ea'.symm.trans ea)▸o
 refine x1_2 (at_ w.hr hi ea) fun ws pl rl=>?_
 refine call_reversed_list pl.isList ?_
 have hz:(ws.toArray.size:Int)=l.length:=by rw [List.size_toArray,rl.length]
 rw [hz]
 refine ⟨ι,H,l.reverse,_,s,Post.id w.hr,fun E' Q hq=>wpAny_pyIter_revIter ⟨_,Heap.get?_push_size _ rfl,rfl,rfl⟩ ?_,h⟩
 refine One.new (P:=P) (T := "list_reverseiterator") (At:=fun k o=>o.cls=.type "list_reverseiterator" /\ o.data=.fields #[.ref a,rawInt ((l.length:Int)-1-k)]) (Pre:=fun ι _=>ι[i]?=some a) hq
  ⟨fun k o z=>⟨z.1,fields_no z.2⟩,by decide,fun ι ι' S h h' q _ _ pr=>pre_get pr q,?_,?_,fun A E s k Q q hQ=>wpAny_pyIter_revIter q hQ⟩ ⟨rfl,by rw [Int.natCast_zero,Int.sub_zero];rfl⟩ rfl ea
 ·intro A E ι₁ H₁ s₁ k x Q hh hr₁ hc q1 q2 hx hQ
  have hk:k<l.length:=by
   have:=(List.getElem?_eq_some_iff.mp hx).1
   rwa [List.length_reverse] at this
  rw [List.getElem?_reverse hk] at hx
  refine x1_2 (at_ hr₁ hc q1) fun vs₂ pl₂ rv₂=>x1_2 (rv₂.get hx) fun u hu ru=>?_
  rw [(rev_at hk).1] at q2
  refine wpAny_pyNext_rev_item q2 pl₂.isList (x:=u) (by simpa using hu) fun h' it' sb=>hQ u h' s₁.toks ru ?_ sb
  rw [(rev_at hk).2];exact it'
 ·intro A E ι₁ H₁ s₁ Q hh hr₁ hc q1 q2 hQ
  rw [List.length_reverse,show (l.length:Int)-1-l.length = -1 by (first|lia|omega)] at q2
  exact wpAny_pyNext_rev_end (hh.still st) q2 fun h' ext=>hQ h' s₁.toks ext
noncomputable def lclip (n:Nat):Option Int->Nat->Nat
 | some k,_=>min k.toNat n
 | none,dflt=>dflt
noncomputable def lslice {α:Type}(l:List α) (lo hi:Option Int):List α:=(l.drop (lclip l.length lo 0)).take (lclip l.length hi l.length-lclip l.length lo 0)
noncomputable def partOK:Option Int->Prop|some k=>0<=k|none=>True
theorem VRs.slice {B h:Heap}{ι:List Addr}{l:List AV}{vs:List Value}{lo hi:Option Int}(r:VRs B h ι l vs):VRs B h ι (lslice l lo hi) (lslice vs lo hi):=by
 unfold lslice
 rw [r.length]
 exact (r.drop _).take _
theorem clip_eq {n:Nat}{o:Option Int}{dflt:Nat}(h:partOK o):o.elim dflt (clipAt n)=lclip n o dflt:=by
 cases o with
 | none=>rfl
 | some k =>
  refine x1_1 (Int.eq_ofNat_of_zero_le h) fun j eQ1=>?_
  subst eQ1
  show clipAt n (j:Int)=min _ _
  rw [clipAt_nat];simp
noncomputable def evPart (P:PEnv) (C:Ctx) (d:Nat) (o:Option Expr) (loc:Loc) (H:Hp) (Q:Option Int->Hp->Prop) (X:XP):Prop :=
 match o with
 | none=>Q none H
 | some e=>EvOK P C d e loc H (fun v H'=>∃ k,v=.int k/\Q (some k) H') X
theorem evPart_ok {o:Option Expr}{Q:Option Int->Hp->Prop}(h:evPart P C d o loc H Q X):∀ A E env ι s,W P A d ι H s->EnvR P.B C env ι s.heap loc->Acc P A X ι s E ->
  wpAny (model P.prog P.w) A (evalPart o env) (fun v s₁=>∃ ι₁ H₁ k,Post P.B ι s ι₁ H₁ s₁/\IsPart v k/\Q k H₁) E s:=fun A E env ι s w e a=>by
 cases o with
 | none=>exact wpAny_pure ⟨ι,H,none,Post.id w.hr,.none,h⟩
 | some x =>
  refine gv (h A E env ι s w e a) (fun v s₁ ι₁ H₁ av p₁ r₁ g=>?_)
  refine x1_2 (g) fun k eQ1 q=>?_
  clear g
  subst eQ1
  refine x1_1 (r₁) fun t eQ1=>?_
  clear r₁
  subst eQ1
  exact ⟨ι₁,H₁,some k,p₁,.int k t,q⟩
theorem sub_slice {prog:Program}{w:World}{A:Around}{E:Value->Shared->Prop}{env:Env}{s:Shared}{value:Expr}{lower upper:Option Expr}{p pos:Pos}{T id:String}{Q:Value->Shared->Prop}
  (hl:typeLookup (.type T) "__getitem__" = pure (some (.builtin id)))
  (h:wpAny (model prog w) A (eval value env) (fun o s₁=>wpAny (model prog w) A (eval (.Slice lower upper none p) env) (fun i s₂=>s₂.TypeIs o T/\wpAny (model prog w) A (getItem o i) Q E s₂) E s₁) E s) :
  wpAny (model prog w) A (eval (.Subscript value (.Slice lower upper none p) pos) env) Q E s:=by
 rw [eval_Subscript]
 refine wpAny_bind (wpAny_mono h (fun o s₁ h₁=>wpAny_bind (wpAny_holding (wpAny_mono h₁ (fun i s₂ h₂=>wpAny_bind (wpAny_standAt ?_)) fun _ _ x=>x))) fun _ _ x=>x)
 have fin:wpAny (model prog w) A (operate [i,o] (getItem o i)) (fun r s₃=>wpAny (model prog w) A (letTemporaryGo value o r >>= fun _=>pure r) Q E s₃) E s₂ :=
  wpAny_operating (wpAny_mono h₂.2 (fun r s₃ h₃=>wpAny_bind (wpAny_letTemporaryGo (wpAny_pure h₃))) fun _ _ x=>x)
 first
  | (refine wpAny_bind ?_
     rw [getitemInPython_of_ne h₂.1.not_modules]
     refine wpAny_bind (wpAny_specialOf h₂.1 hl ?_)
     first
       | exact wpAny_pure (wpAny_bind fin)
       | exact wpAny_bind (wpAny_pure (wpAny_bind fin)))
  | (refine wpAny_bind (wpAny_specialOf h₂.1 hl ?_)
     exact wpAny_bind fin)
theorem ev_slice {o:Expr}{lo hi:Option Expr}{p pos:Pos}{Q:AV->Hp->Prop}
  (h:EvOK P C d o loc H (fun x H₁=>evPart P C d lo loc H₁ (fun a H₂=>evPart P C d hi loc H₂ (fun b H₃=>∃ l,seqL H₃ x=some l/\l.length<=sizeLine/\partOK a/\partOK b/\Q (.ref H₃.length) (H₃++[.list (lslice l a b)])) X) X) X) :
  EvOK P C d (.Subscript o (.Slice lo hi none p) pos) loc H Q X:=fun A E env ι s w e a=>by
 refine sub_slice (T := "list") slot_list_getitem.lookup (gv (h A E env ι s w e a) (fun u s₁ ι₁ H₁ x p₁ r₁ g=>?_))
 refine wpAny_Slice (wpAny_mono (evPart_ok g A E env ι₁ s₁ (w.step p₁) (e.step w.hr p₁) (a.step p₁)) (fun v s₂ g=>?_) fun _ _ x=>x)
 refine x3_3 (g) fun ι₂ H₂ ka p₂ ip g=>?_
 have p₁₂:=p₁.trans p₂
 refine wpAny_mono (evPart_ok g A E env ι₂ s₂ (w.step p₁₂) (e.step w.hr p₁₂) (a.step p₁₂)) (fun v' s₃ g=>?_) fun _ _ x=>x
 refine x3_3 (g) fun ι₃ H₃ kb p₃ ip' qQ5=>?_
 clear g
 obtain ⟨l,hl,hsz,oa,ob,q⟩:=qQ5
 refine wpAny_pure ?_
 have p₁₃:=p₁₂.trans p₃
 have rx:=p₃.vr p₂.hr (p₂.vr p₁.hr r₁)
 refine x2_3 (seqL_is p₃.hr rx hl) fun ax vs eQ2 il rl=>?_
 subst eQ2
 have hk:∀ b o,s₃.heap.get? b=some o->(s₃.heap.push { cls:=.type "slice",data:=.fields #[v,v',.none] }).get? b=some o:=fun b o e=>Heap.get?_push_of_some _ e
 have p₄:Post P.B ι₃ s₃ ι₃ H₃ { s₃ with heap:=s₃.heap.push { cls:=.type "slice",data:=.fields #[v,v',.none] } }:=Post.keep (t:=s₃.toks) p₃.hr hk
 refine ⟨(il.push _).typeIs,wpAny_getItem_list_slice (il.push _) (Heap.IsSliceOf.new ..) ip ip' .none (by simp) ?_ (by rw [List.size_toArray,rl.length];exact hsz)⟩
 have e1:slicePick vs.toArray ka kb none=(lslice vs ka kb).toArray:=by
  rw [slicePick_plain,List.size_toArray,clip_eq oa,clip_eq ob];rfl
 rw [e1]
 have:=gives_newList (P:=P) (Q:=Q) p₄.hr (VRs.slice (lo:=ka) (hi:=kb) (rl.kept hk (List.prefix_refl _))) q
 exact (this.before p₄).before p₁₃
theorem sub_listNeg {eo ei:Expr}{o:AV}{l:List AV}{k:Int}{x:AV}{Q:AV->Hp->Prop}(ho:seqL H o=some l) (hn:l.length<2^62) (h0:k<0) (h1:0<=k+l.length) (hx:l[(k+l.length).toNat]?=some x) (h:Q x H):SubOK P d eo ei o (.int k) H Q:=op2 fun A E ι s u v w r1 r2=>by
 refine x2_3 (seqL_is w.hr r1 ho) fun a vs eQ2 il rl=>?_
 subst eQ2
 refine x1_1 (r2) fun t eQ1=>?_
 clear r2
 subst eQ1
 refine x1_2 (rl.get hx) fun z hz rz=>?_
 refine x1_1 (subscripted_ops ei (.ref a) (.int k t)) fun ops hops=>?_
 have e:(List.toArray vs).size=l.length:=by rw [List.size_toArray,rl.length]
 exact PyProof.Rows.tail_any il.typeIs slot_list_getitem.lookup (wpAny_getItem_list_neg il h0 (by rw [e];(first|lia|omega)) (by (first|lia|omega)) (by rw [e];simpa using hz) (Gives.same w.hr rz h)) hops
abbrev SetOK (P:PEnv) (d:Nat) (o k x:AV) (H:Hp) (Q:Hp->Prop):Prop :=
 ∀ A E ι s uo uk ux,W P A d ι H s->VR P.B s.heap ι o uo->VR P.B s.heap ι k uk->VR P.B s.heap ι x ux->wpAny (model P.prog P.w) A (setItem uo uk ux) (fun _ s'=>∃ ι' H',Post P.B ι s ι' H' s'/\Q H') E s
theorem set_list {i:Nat}{l:List AV}{k:Int}{x:AV}{Q:Hp->Prop}(hi:H[i]?=some (.list l)) (hn:l.length<2^62) (h0:0<=k) (h1:k<l.length) (h:Q (H.set i (.list (l.set k.toNat x)))):SetOK P d (.ref i) (.int k) x H Q:=fun A E ι s uo uk ux w r1 r2 r3=>by
 refine x1_2 (r1) fun a eQ1 ea=>?_
 clear r1
 subst eQ1
 refine x1_1 (r2) fun t eQ1=>?_
 clear r2
 subst eQ1
 refine x1_2 (w.hr.list ea hi) fun vs qQ1 rl=>?_
 obtain ⟨n,pl⟩:=qQ1
 have hl:s.heap.IsList a vs.toArray:=⟨_,pl,rfl,n,rfl⟩
 have hlen:=rl.length
 unfold setItem
 try with_reducible refine wpAny_holding ?_
 first|refine wpAny_bind (wpAny_pure ?_)|skip
 refine wpAny_bind (wpAny_sequenceKey hl.typeIs (by decide) ?_)
 refine wpAny_bind (wpAny_callSpecial?_slot (name:=Str.ofString "__setitem__") hl.typeIs slot_list_setitem
  (wpAny_call_entry slot_list_setitem hl.typeIs entry_list_setitem ?_ (args_list_setitem _ _ _)))
 show wpAny _ _ (Builtin.List.listSubscript? (.int k t) >>= _) _ _ s
 refine wpAny_bind (wpAny_listSubscript_int (fitsIndex_of h0 (by (first|lia|omega))) ?_)
 refine x1_1 (Int.eq_ofNat_of_zero_le h0) fun j eQ1=>?_
 subst eQ1
 have hj:j<vs.toArray.size:=by rw [List.size_toArray];(first|lia|omega)
 have hx':vs.toArray[j]?=some vs.toArray[j]:=Array.getElem?_eq_getElem hj
 show wpAny _ _ ((seqItemAt a j >>= fun r=>pure (r.map (j,·))) >>= _) _ _ s
 refine wpAny_bind (wpAny_bind (wpAny_seqItemAt pl rfl (wpAny_pure ?_)))
 rw [hx']
 show wpAny _ _ (setSeqItemAt a j ux >>= _) _ _ s
 refine wpAny_bind (wpAny_setSeqItemAt pl rfl ?_)
 refine x0_2 (upd_plain pl (·.setIfInBounds j ux)) fun p1 p2=>?_
 have ma:a∈ι:=List.mem_of_getElem? ea
 have e1:vs.toArray.setIfInBounds j ux=(vs.set j ux).toArray:=by simp
 rw [e1] at p1
 have fin:∃ ι' H',Post P.B ι s ι' H' { s with heap:=s.heap.update a (Obj.mapSeq (·.setIfInBounds j ux)) }/\Q H' :=
  ⟨ι,_,Post.upd (t:=s.toks) w.hr ea p2 (o:=.list (l.set j x)) ⟨_,p1,w.hr.vrs_upd ma p2 (rl.set r3)⟩,h⟩
 first
  | exact wpAny_bind (wpAny_pure (wpAny_pure ⟨.none,rfl,wpAny_pure fin⟩))
  | exact wpAny_pure ⟨.none,rfl,wpAny_pure fin⟩
theorem stored_dset {B h:Heap}{ι:List Addr}{k:Int}{x:AV}{v:Value}{l:List (Int×AV)}{kvs:List (Int×Value)}(hk:kvs.map (·.1)=l.map (·.1)) (hv:VRs B h ι (l.map (·.2)) (kvs.map (·.2))) (rx:VR B h ι x v) :
  (stored kvs k v).map (·.1)=(dset l k x).map (·.1)/\VRs B h ι ((dset l k x).map (·.2)) ((stored kvs k v).map (·.2)):=by
 have he:(kvs.any fun kv=>decide (kv.1=k))=l.any fun kv=>decide (kv.1=k):=by
  have e1:∀ (m:List Int),m.any (fun z=>decide (z=k))=m.any (fun z=>decide (z=k)):=fun _=>rfl
  have a1:(kvs.any fun kv=>decide (kv.1=k))=(kvs.map (·.1)).any fun z=>decide (z=k):=by rw [List.any_map];rfl
  have a2:(l.any fun kv=>decide (kv.1=k))=(l.map (·.1)).any fun z=>decide (z=k):=by rw [List.any_map];rfl
  rw [a1,a2,hk]
 unfold stored dset
 rw [he]
 split
 ·rename_i ht
  clear he ht
  induction l generalizing kvs with
  | nil =>
   have:kvs=[]:=by simpa using hk
   subst this;exact ⟨rfl,rfl⟩
  | cons y l ih =>
   cases kvs with
   | nil=>simp at hk
   | cons z kvs =>
    obtain ⟨k1,x1⟩:=y
    obtain ⟨k2,v2⟩:=z
    simp only [List.map_cons,List.cons.injEq] at hk
    refine x0_2 (hk) fun eQ0 nQ=>?_
    clear hk
    revert nQ
    intro hk
    subst eQ0
    refine x2_3 (hv) fun v' r' e1 rv rr=>?_
    clear hv
    simp only [List.map_cons,List.cons.injEq] at e1
    refine x0_2 (e1) fun eQ0 eQ1=>?_
    clear e1
    subst eQ0
    subst eQ1
    refine x0_2 (ih hk rr) fun i1 i2=>?_
    by_cases hkk:k2=k
    ·subst hkk
     simp only [List.map_cons,if_true,i1]
     exact ⟨trivial,VRs.cons rx i2⟩
    ·simp only [List.map_cons,hkk,if_false,i1]
     exact ⟨trivial,VRs.cons rv i2⟩
 ·simp only [List.map_append,hk,List.map_cons,List.map_nil]
  exact ⟨trivial,hv.append (VRs.cons rx rfl)⟩
theorem set_dict {i:Nat}{l:List (Int×AV)}{k:Int}{x:AV}{Q:Hp->Prop}(hi:H[i]?=some (.dict l)) (hn:l.length<=sizeLine) (h:Q (H.set i (.dict (dset l k x)))):SetOK P d (.ref i) (.int k) x H Q:=fun A E ι s uo uk ux w r1 r2 r3=>by
 refine x1_2 (r1) fun a eQ1 ea=>?_
 clear r1
 subst eQ1
 refine x1_1 (r2) fun t eQ1=>?_
 clear r2
 subst eQ1
 refine x1_3 (w.hr.dict ea hi) fun kvs hd hk hv=>?_
 have ma:a∈ι:=List.mem_of_getElem? ea
 have hlen:kvs.length=l.length:=by have:=congrArg List.length hk;simpa using this
 refine wpAny_setItem_pairs (knd:=intKind P.prog P.w) (k:=k) (by simp [intKind,Value.isInt]) hd (fun h' hd' sb=>?_) (by (first|lia|omega))
 have p2:∀ b o,b≠a->s.heap.get? b=some o->h'.get? b=some o:=fun b o hb eb=>sb.extBut b o hb eb
 refine x0_2 (stored_dset (k:=k) hk hv r3) fun q1 q2=>?_
 exact ⟨ι,_,Post.upd (t:=s.toks+1) w.hr ea p2 (o:=.dict (dset l k x)) (OR.ofDict (low_not_mods w.hr ea hi) hd' q1 (w.hr.vrs_upd ma p2 q2)),h⟩
theorem ex_store {o i v:Expr}{p' pos:Pos}{Q:MFlow->Loc->Hp->Prop}
  (h:EvOK P C d v loc H (fun x H₁=>EvOK P C d o loc H₁ (fun y H₂=>EvOK P C d i loc H₂ (fun z H₃=>SetOK P d y z x H₃ (fun H₄=>Q .next loc H₄)) XF) XF) XF)
  (hs:∀ env,swapsWith v (some (.Subscript o i p')) pos.line env=pure false):ExOK P C d (.Assign [.Subscript o i p'] v pos) loc H Q:=fun A E env ι s w e=>by
 refine wpAny_Assign_Subscript (gv (h A E env ι s w e Acc.no) (fun u s₁ ι₁ H₁ x p₁ r₁ g=>?_)) (hs env)
 refine gv (g A E env ι₁ s₁ (w.step p₁) (e.step w.hr p₁) Acc.no) (fun u' s₂ ι₂ H₂ y p₂ r₂ g=>?_)
 have p₁₂:=p₁.trans p₂
 refine gv (g A E env ι₂ s₂ (w.step p₁₂) (e.step w.hr p₁₂) Acc.no) (fun u'' s₃ ι₃ H₃ z p₃ r₃ g=>?_)
 have p₁₃:=p₁₂.trans p₃
 refine wpAny_mono (g A E ι₃ s₃ u' u'' u (w.step p₁₃) (p₃.vr p₂.hr r₂) r₃ (p₃.vr p₂.hr (p₂.vr p₁.hr r₁))) (fun _ s₄ g=>x2_2 g fun ι₄ H₄ p₄ q=>?_) fun _ _ x=>x
 exact ⟨ι₄,H₄,loc,.next,(p₁₃.trans p₄).toS,e.step w.hr (p₁₃.trans p₄),rfl,q⟩
end Mine
namespace Mine
open PySem
set_option maxRecDepth 100000
variable {P:PEnv}{C:Ctx}{d:Nat}{loc:Loc}{H:Hp}{X:XP}
theorem getMethod_list {M:Model}{A:Around}{E:Value->Shared->Prop}{s:Shared}{l:Addr}{o:Obj}{nm:Str}{id:String}{pl:Sem Bool}{Q:Value×List Value->Shared->Prop}(ho:s.heap.get? l=some o) (hc:o.cls=.type "list") (hd:o.dict=none)
  (hl:typeLookup (.type "list") nm=pure (some (.builtin id))) (ht:typeOf (.builtin id)=pure (.type "method_descriptor"))
  (h:Q (.builtin id,[.ref l]) s):wpAny M A (getMethod (.ref l) nm pl) Q E s:=by
 have hT:s.TypeIs (.ref l) "list" := ⟨o,ho,hc⟩
 unfold getMethod
 refine wpAny_bind (wpAny_specialOf hT list_getattribute ?_)
 show wpAny M A (if (Manifest.canonical "list.__getattribute__" != "object.__getattribute__")=true then _ else _) Q E s
 rw [canon_list_getattribute,if_neg Bool.false_ne_true]
 refine wpAny_bind (wpAny_specialOf hT list_getattr_none ?_)
 refine wpAny_bind (wpAny_specialOf hT hl ?_)
 refine wpAny_bind (wpAny_of_eq ht ?_)
 refine wpAny_bind (wpAny_load ho ?_)
 rw [hd]
 exact wpAny_bind (wpAny_rule (wpAny_pure h))
theorem meth_list {i:Nat}{l:List AV}{nm:Str}{id:String}(hi:H[i]?=some (.list l)) (hl:typeLookup (.type "list") nm=pure (some (.builtin id))) (ht:typeOf (.builtin id)=pure (.type "method_descriptor")):MethIs P (.ref i) H nm id:=fun A E ι s v pl Q hr r h=>by
 refine x1_2 (r) fun a eQ1 ea=>?_
 clear r
 subst eQ1
 refine x1_2 (hr.list ea hi) fun vs qQ1 _=>?_
 obtain ⟨n,e⟩:=qQ1
 exact getMethod_list e rfl rfl hl ht h
theorem fn_lenD {i:Nat}{l:List (Int×AV)}{Q:AV->Hp->Prop}(ok:P.OK2) (hi:H[i]?=some (.dict l)) (hn:l.length<2^62) (h:Q (.int l.length) H):OpOK P d (fun vs=>call (.builtin "len") vs) [.ref i] H Q:=fn1 fun A E ι s u w r=>by
 refine x1_2 (r) fun a eQ1 ea=>?_
 clear r
 subst eQ1
 refine x1_3 (w.hr.dict ea hi) fun kvs hd hk hv=>?_
 have hlen:kvs.length=l.length:=by have:=congrArg List.length hk;simpa using this
 refine call_len_dict (low_not_mods w.hr ea hi) hd (by (first|lia|omega)) (Gives.now _ w.hr (av:=.int l.length) ?_ h)
 rw [hlen];exact VR.mkInt _ _
theorem ev_dic0 {pos:Pos}{Q:AV->Hp->Prop}(ok:P.OK2) (h:Q (.ref H.length) (H++[.dict []])):EvOK P C d (.Dict [] [] pos) loc H Q X:=fun A E env ι s w e a=>by
 refine wpAny_Dict_empty ?_
 have hk:∀ b o,s.heap.get? b=some o->(s.heap.push { cls:=.type "dict",data:=.dict #[] }).get? b=some o:=fun b o e=>Heap.get?_push_of_some _ e
 refine ⟨_,_,.ref H.length,Post.alloc (t:=s.toks) w.hr hk (get_size _) (o:=.dict []) ⟨?_,List.nodup_nil,[],0,Heap.get?_push_size _ rfl,rfl⟩,?_,h⟩
 ·refine x2_2 (ok.low) fun b o hb hl=>?_
  have:=Heap.lt_size (w.hr.base b o hb)
  rw [beq_eq_false_iff_ne]
  intro e
  rw [e] at this
  exact Nat.lt_irrefl _ (Nat.lt_trans hl this)
 ·unfold VR
  exact ⟨_,rfl,by rw [←w.hr.len];simp⟩
theorem ev_cmp2 {l m r:Expr}{o1 o2:CmpOp}{pos:Pos}{Q:AV->Hp->Prop}
  (h:EvOK P C d l loc H (fun x H₁=>EvOK P C d m loc H₁ (fun y H₂=>CmpOK P d o1 x y H₂ (fun c H₃=>∃ b,c=.bool b/\if b then EvOK P C d r loc H₃ (fun z H₄=>CmpOK P d o2 y z H₄ Q) X else Q (.bool false) H₃)) X) X)
  (hm:lastMarks [o1,o2] [m,r]=false) :
  EvOK P C d (.Compare l [o1,o2] [m,r] pos) loc H Q X:=fun A E env ι s w e a=>by
 refine PyProof.Rows.Compare_chain (gv (h A E env ι s w e a) (fun u s₁ ι₁ H₁ x p₁ r₁ g=>?_)) hm
 refine PyProof.Rows.chain_link (gv (g A E env ι₁ s₁ (w.step p₁) (e.step w.hr p₁) (a.step p₁)) (fun u' s₂ ι₂ H₂ y p₂ r₂ g=>?_))
 refine gv (g A E ι₂ s₂ [u,u'] ((w.step p₁).step p₂) ⟨_,_,rfl,p₂.vr p₁.hr r₁,_,_,rfl,r₂,rfl⟩) (fun c s₃ ι₃ H₃ cv p₃ r₃ g=>?_)
 refine x1_2 (g) fun b eQ1 nQ=>?_
 clear g
 revert nQ
 intro g
 subst eQ1
 have p₁₃:=(p₁.trans p₂).trans p₃
 cases r₃
 refine wpAny_truthy_bool ?_
 cases b with
 | false=>exact ⟨ι₃,H₃,.bool false,p₁₃,VR.mkBool _,g⟩
 | true =>
  refine PyProof.Rows.chain_last (gv (g A E env ι₃ s₃ (w.step p₁₃) (e.step w.hr p₁₃) (a.step p₁₃)) (fun u'' s₄ ι₄ H₄ z p₄ r₄ g=>?_))
  exact wpAny_mono (g A E ι₄ s₄ [u',u''] (w.step (p₁₃.trans p₄)) ⟨_,_,rfl,p₄.vr p₃.hr (p₃.vr p₂.hr r₂),_,_,rfl,r₄,rfl⟩) (fun _ _ g=>(g.before p₄).before p₁₃) fun _ _ x=>x
theorem ts_cmp2 {l m r:Expr}{o1 o2:CmpOp}{pos:Pos}{Q:Bool->Hp->Prop}
  (h:EvOK P C d l loc H (fun x H₁=>EvOK P C d m loc H₁ (fun y H₂=>CmpOK P d o1 x y H₂ (fun c H₃=>∃ b,c=.bool b/\if b then EvOK P C d r loc H₃ (fun z H₄=>CmpOK P d o2 y z H₄ (fun v H'=>∃ b,v=.bool b/\Q b H')) X else Q false H₃)) X) X)
  (hm:lastMarks [o1,o2] [m,r]=false) :
  TsOK P C d (.Compare l [o1,o2] [m,r] pos) loc H Q X:=fun A E env ι s w e a=>by
 refine PyProof.Rows.isTrue_chain (gv (h A E env ι s w e a) (fun u s₁ ι₁ H₁ x p₁ r₁ g=>?_)) hm
 refine PyProof.Rows.test_link (gv (g A E env ι₁ s₁ (w.step p₁) (e.step w.hr p₁) (a.step p₁)) (fun u' s₂ ι₂ H₂ y p₂ r₂ g=>?_))
 refine gv (g A E ι₂ s₂ [u,u'] ((w.step p₁).step p₂) ⟨_,_,rfl,p₂.vr p₁.hr r₁,_,_,rfl,r₂,rfl⟩) (fun c s₃ ι₃ H₃ cv p₃ r₃ g=>?_)
 refine x1_2 (g) fun b eQ1 nQ=>?_
 clear g
 revert nQ
 intro g
 subst eQ1
 have p₁₃:=(p₁.trans p₂).trans p₃
 cases r₃
 refine wpAny_truthy_bool ?_
 cases b with
 | false=>exact ⟨ι₃,H₃,p₁₃,g⟩
 | true =>
  refine PyProof.Rows.test_last (gv (g A E env ι₃ s₃ (w.step p₁₃) (e.step w.hr p₁₃) (a.step p₁₃)) (fun u'' s₄ ι₄ H₄ z p₄ r₄ g=>?_))
  exact wpAny_mono (g A E ι₄ s₄ [u',u''] (w.step (p₁₃.trans p₄)) ⟨_,_,rfl,p₄.vr p₃.hr (p₃.vr p₂.hr r₂),_,_,rfl,r₄,rfl⟩) (fun _ _ g=>givesB_of ((g.before p₄).before p₁₃)) fun _ _ x=>x
theorem ex_assignT {elts:List Expr}{k:Nat}{tpos:Pos}{v:Expr}{pos:Pos}{is:List Nat}{Q:MFlow->Loc->Hp->Prop}(n:Names C elts is)
  (h:EvOK P C d v loc H (fun x H'=>∃ ws,x=.tup ws/\ws.length=is.length/\Q .next (setAll (is.zip ws) loc) H') XF)
  (hs:∀ env,swapsWithSole [.Tuple elts k tpos] v pos.line env=pure false) (hw:∀ env,swappedStores [.Tuple elts k tpos] v env=pure none):ExOK P C d (.Assign [.Tuple elts k tpos] v pos) loc H Q:=fun A E env ι s w e=>by
 refine PyProof.Rows.Assign_Tuple (gv (h A E env ι s w e Acc.no) (fun u s₁ ι₁ H₁ x p₁ r₁ g=>?_)) (hs env) (hw env)
 refine x1_3 (g) fun ws eQ1 hl q=>?_
 clear g
 subst eQ1
 refine wpAny_mono (tg_tup (P:=P) (k:=k) (pos:=tpos) (K:=fun l=>Q .next l H₁) n hl q A E env ι₁ H₁ s₁ u w.qt p₁.hr (e.step w.hr p₁) r₁) (fun _ s₂ g=>?_) fun _ _ x=>x
 obtain ⟨loc',ps,e',q⟩:=g
 exact ⟨ι₁,H₁,loc',.next,PostS.trans p₁.toS ps e'.offOwn,e',rfl,q⟩
mutual
noncomputable def clean:AV->Bool
 | .ref _=>false
 | .tup l=>cleans l
 | .fro l=>cleans l
 | _=>true
noncomputable def cleans:List AV->Bool
 | []=>true
 | x::l=>clean x&&cleans l
end
mutual
theorem VR.clean {B h:Heap}{ι ι':List Addr}:∀ {x:AV}{v:Value},clean x=true->VR B h ι x v->VR B h ι' x v
 | .none,_,_,r=>r
 | .bool _,_,_,r=>r
 | .int _,_,_,r=>r
 | .str _,_,_,r=>r
 | .ref _,_,c,_=>by simp [Mine.clean] at c
 | .tup l,v,c,r=>by
  unfold VR at r ⊢
  refine x2_3 (r) fun a vs e t q=>?_
  clear r
  exact ⟨a,vs,e,t,VRs.clean (by simpa [Mine.clean] using c) q⟩
 | .fro l,v,c,r=>by
  unfold VR at r ⊢
  refine x2_3 (r) fun a vs e t q=>?_
  clear r
  exact ⟨a,vs,e,t,VRs.clean (by simpa [Mine.clean] using c) q⟩
theorem VRs.clean {B h:Heap}{ι ι':List Addr}:∀ {l:List AV}{vs:List Value},cleans l=true->VRs B h ι l vs->VRs B h ι' l vs
 | [],_,_,r=>r
 | x::l,vs,c,r=>by
  unfold VRs at r ⊢
  refine x2_3 (r) fun v t e a b=>?_
  clear r
  simp only [cleans,Bool.and_eq_true] at c
  exact ⟨v,t,e,VR.clean c.1 a,VRs.clean c.2 b⟩
end
mutual
theorem VR.shrink {B h h':Heap}{ι ι':List Addr}(p:ι<+:ι'):∀ {x:AV}{v v':Value},VR B h ι x v->VR B h' ι' x v'->VR B h' ι x v'
 | .none,_,_,_,r=>r
 | .bool _,_,_,_,r=>r
 | .int _,_,_,_,r=>r
 | .str _,_,_,_,r=>r
 | .ref i,_,_,r,r'=>by
  unfold VR at r r' ⊢
  refine x1_2 (r) fun a e g=>?_
  clear r
  refine x1_2 (r') fun a' e' g'=>?_
  clear r'
  have ha:a=a':=by have:=pre_get p g;rw [g'] at this;exact (Option.some.inj this).symm
  subst ha
  exact ⟨a,e',g⟩
 | .tup l,_,_,r,r'=>by
  unfold VR at r r' ⊢
  refine x2_3 (r) fun a vs e t q=>?_
  clear r
  refine x2_3 (r') fun a' vs' e' t' q'=>?_
  clear r'
  exact ⟨a',vs',e',t',VRs.shrink p q q'⟩
 | .fro l,_,_,r,r'=>by
  unfold VR at r r' ⊢
  refine x2_3 (r) fun a vs e t q=>?_
  clear r
  refine x2_3 (r') fun a' vs' e' t' q'=>?_
  clear r'
  exact ⟨a',vs',e',t',VRs.shrink p q q'⟩
theorem VRs.shrink {B h h':Heap}{ι ι':List Addr}(p:ι<+:ι'):∀ {l:List AV}{vs vs':List Value},VRs B h ι l vs->VRs B h' ι' l vs'->VRs B h' ι l vs'
 | [],_,_,_,r=>r
 | x::l,_,_,r,r'=>by
  unfold VRs at r r' ⊢
  refine x2_3 (r) fun v t e a b=>?_
  clear r
  refine x2_3 (r') fun v' t' e' a' b'=>?_
  clear r'
  exact ⟨v',t',e',VR.shrink p a a',VRs.shrink p b b'⟩
end
theorem ERs.shrink {B h h':Heap}{ι ι':List Addr}(p:ι<+:ι'):∀ {l:List (Int×AV)}{es es':List DictEntry},ERs B h ι l es->ERs B h' ι' l es'->ERs B h' ι l es'
 | [],_,_,_,r=>r
 | (k,x)::l,_,_,r,r'=>by
  unfold ERs at r r' ⊢
  refine x3_3 (r) fun t v es e a b=>?_
  clear r
  refine x3_3 (r') fun t' v' es' e' a' b'=>?_
  clear r'
  exact ⟨t',v',es',e',VR.shrink p a a',ERs.shrink p b b'⟩
theorem OR.shrink {B h h':Heap}{ι ι':List Addr}(p:ι<+:ι'){a a':Addr}:∀ {o:AObj},OR B h ι a o->OR B h' ι' a' o->OR B h' ι a' o
 | .list l,r,r'=>by
  refine x1_2 (r) fun vs _ q=>?_
  clear r
  refine x1_2 (r') fun vs' pl q'=>?_
  clear r'
  exact ⟨vs',pl,VRs.shrink p q q'⟩
 | .dict l,r,r'=>by
  refine x0_3 (r) fun _ _ qQ2=>?_
  clear r
  obtain ⟨es,n,_,q⟩:=qQ2
  refine x0_3 (r') fun hm nd qQ2=>?_
  clear r'
  obtain ⟨es',n',e,q'⟩:=qQ2
  exact ⟨hm,nd,es',n',e,ERs.shrink p q q'⟩
theorem Post.shrink {B:Heap}{ι ι':List Addr}{s s':Shared}{H H':Hp}(hr:HR B ι H s.heap) (p:Post B ι s ι' H' s') (pre:H<+:H'):Post B ι s ι H s':=by
 refine ⟨List.prefix_refl _,⟨p.hr.base,hr.fresh,hr.nodup,hr.len,fun i o e=>?_⟩,p.kept,fun a m=>.inl m,p.same⟩
 refine x1_2 (hr.objs i o e) fun a ea r=>?_
 refine x1_1 (pre) fun t eQ1=>?_
 clear pre
 subst eQ1
 have e':(H++t)[i]?=some o:=by
  rw [List.getElem?_append_left (List.getElem?_eq_some_iff.mp e).1];exact e
 refine x1_2 (p.hr.objs i o e') fun a' ea' r'=>?_
 have ha:a=a':=by have:=pre_get p.pre ea;rw [ea'] at this;exact (Option.some.inj this).symm
 subst ha
 exact ⟨a,ea,OR.shrink p.pre r r'⟩
theorem gc_pure {B:Heap}{ι:List Addr}{s s':Shared}{H:Hp}{Q:AV->Hp->Prop}{v:Value}(hr:HR B ι H s.heap) (g:Gives B ι s (fun x H'=>H<+:H'/\Mine.clean x=true/\Q x H) v s'):Gives B ι s Q v s':=by
 obtain ⟨ι',H',av,p,r,pre,c,q⟩:=g
 exact ⟨ι,H,av,p.shrink hr pre,VR.clean c r,q⟩
theorem gc_list {B:Heap}{ι:List Addr}{s s':Shared}{H:Hp}{Q:AV->Hp->Prop}{v:Value}(hr:HR B ι H s.heap) (g:Gives B ι s (fun x H'=>∃ l j,H<+:H'/\x=.ref j/\H.length<=j/\H'[j]?=some (.list l)/\cleans l=true/\Q (.ref H.length) (H++[.list l])) v s'):Gives B ι s Q v s':=by
 obtain ⟨ι',H',av,p,r,l,j,pre,rfl,hj,hl,c,q⟩:=g
 refine x1_2 (r) fun a eQ1 ea=>?_
 clear r
 subst eQ1
 refine x1_2 (p.hr.objs j _ hl) fun a' ea' qQ2=>?_
 obtain ⟨vs,pl,rl⟩:=qQ2
 rw [ea] at ea';cases ea'
 have ps:=p.shrink hr pre
 have hn:a∉ι:=fun m=>by
  refine x1_1 (List.getElem_of_mem m) fun i qQ1=>?_
  obtain ⟨hi,e⟩:=qQ1
  have e1:ι'[i]?=some a:=pre_get p.pre (by rw [List.getElem?_eq_getElem hi,e])
  have hi':i<ι'.length:=(List.getElem?_eq_some_iff.mp e1).1
  have hj':j<ι'.length:=(List.getElem?_eq_some_iff.mp ea).1
  have:i=j:=nodup_inj p.hr.nodup hi' hj' (by rw [(List.getElem?_eq_some_iff.mp e1).2,(List.getElem?_eq_some_iff.mp ea).2])
  rw [hr.len] at hi;(first|lia|omega)
 have hs:s.heap.get? a=none:=(p.new a (List.mem_of_getElem? ea)).resolve_left hn
 refine ⟨ι++[a],H++[.list l],.ref H.length,ps.adopt (o:=.list l) hn hs (p.hr.fresh a (List.mem_of_getElem? ea)) ⟨vs,pl,VRs.clean c rl⟩,⟨a,rfl,?_⟩,q⟩
 rw [←hr.len];simp
theorem call_gc {x:Str}{args:List AV}{Q:AV->Hp->Prop}(h:CallOK P d x args H (fun v H'=>H<+:H'/\Mine.clean v=true/\Q v H) X):CallOK P d x args H Q X :=
 fun A ι s vs fa R e w r hR hX=>h A ι s vs fa R e w r (fun v s' g=>hR v s' (gc_pure w.hr g)) hX
theorem call_gcL {x:Str}{args:List AV}{Q:AV->Hp->Prop}(h:CallOK P d x args H (fun v H'=>∃ l j,H<+:H'/\v=.ref j/\H.length<=j/\H'[j]?=some (.list l)/\cleans l=true/\Q (.ref H.length) (H++[.list l])) X):CallOK P d x args H Q X :=
 fun A ι s vs fa R e w r hR hX=>h A ι s vs fa R e w r (fun v s' g=>hR v s' (gc_list w.hr g)) hX
end Mine
namespace Mine
open PySem PyProof.Rows
variable {P:PEnv}{C:Ctx}{d:Nat}{loc:Loc}{H:Hp}{X:XP}
section
variable {prog:Program}{w:World}{A:Around}{E:Value->Shared->Prop}{s:Shared}
end
end Mine
namespace Mine
open PySem PyProof.Rows PySem.W
variable {P:PEnv}{C:Ctx}{d:Nat}{loc:Loc}{H:Hp}{X:XP}
theorem VRs.toInts {B h:Heap}{ι:List Addr}:∀ {ns:List Int}{vs:List Value},VRs B h ι (ns.map .int) vs->IntsAre vs ns
 | [],_,r=>by cases (show _=[] from r);exact .nil
 | n::ns,_,r=>by
  refine x2_3 (r) fun v r' eQ2 hv ht=>?_
  clear r
  subst eQ2
  refine x1_1 (hv) fun t eQ1=>?_
  clear hv
  subst eQ1
  exact .cons n t (VRs.toInts ht)
theorem VRs.ofInts {B h:Heap}{ι:List Addr}:∀ {vs:List Value}{ns:List Int},IntsAre vs ns->VRs B h ι (ns.map .int) vs
 | _,_,.nil=>rfl
 | _,_,.cons n t r=>⟨_,_,rfl,VR.mkInt _ _,VRs.ofInts r⟩
theorem fn_sortedL {x:AV}{ns:List Int}{Q:AV->Hp->Prop}(hx:seqL H x=some (ns.map .int)) (h64:ns.length<64)
  (q:∀ ms:List Int,ms.Perm ns->ms.Pairwise (·<=·)->Q (.ref H.length) (H++[.list (ms.map .int)])):OpOK P d (fun vs=>call (.builtin "sorted") vs) [x] H Q:=fn1 fun A E ι s u w r=>by
 refine x2_3 (seqL_is w.hr r hx) fun a vs eQ2 il rl=>?_
 subst eQ2
 refine sorted_ints il rl.toInts (by rw [rl.length,List.length_map];exact h64) fun out ms h1 h2 h3=>?_
 have hk:∀ b o,s.heap.get? b=some o->(sortedAll s.heap vs out).get? b=some o:=fun b o e=>sortedAll_old e
 refine x1_1 (sortedAll_at s.heap vs out) fun e he=>?_
 have hn:s.heap.get? (s.heap.objs.size+1)=none:=by
  cases e:s.heap.get? (s.heap.objs.size+1) with
  | none=>rfl
  | some o=>have h1:s.heap.objs.size+1<s.heap.objs.size:=Heap.lt_size e;(first|lia|omega)
 refine ⟨_,_,.ref H.length,Post.alloc (t:=s.toks) w.hr hk hn (o:=.list (ms.map .int)) ⟨out.toList,⟨e,by simpa using he⟩,VRs.ofInts h1⟩,?_,q ms h2 h3⟩
 unfold VR
 exact ⟨_,rfl,by rw [←w.hr.len];simp⟩
theorem keys_are {prog:Program}{w:World}:∀ (as:List Value) (ks:List (Int×Value)),as.length=ks.length->(∀ (j:Nat) (v:Value),as[j]?=some v->∃ k x,ks[j]?=some (k,x)/\(intKind prog w).is k v=true)->IntsAre as (ks.map (·.1)):=by
 intro as
 induction as with
 | nil=>intro ks h1 _;have:ks=[]:=List.length_eq_zero_iff.mp h1.symm;subst this;exact .nil
 | cons v as ih =>
  intro ks h1 h2
  cases ks with
  | nil=>simp at h1
  | cons p ks =>
   refine x2_2 (h2 0 v rfl) fun k x e hk=>?_
   simp only [List.getElem?_cons_zero,Option.some.injEq] at e
   refine x1_1 (Value.isInt_shape hk) fun t eQ1=>?_
   subst eQ1
   subst e
   exact .cons k t (ih ks (by simpa using h1) fun j v hv=>h2 (j+1) v (by simpa using hv))
theorem fn_sortedD {i:Nat}{l:List (Int×AV)}{Q:AV->Hp->Prop}(st:P.hd=none) (hi:H[i]?=some (.dict l)) (h64:l.length<64)
  (q:∀ ms:List Int,ms.Perm (l.map (·.1))->ms.Pairwise (·<=·)->Q (.ref H.length) (H++[.list (ms.map .int)])):OpOK P d (fun vs=>call (.builtin "sorted") vs) [.ref i] H Q:=fn1 fun A E ι s u w r=>by
 unfold VR at r
 refine x1_2 (r) fun a eQ1 ha=>?_
 clear r
 subst eQ1
 refine x1_3 (w.hr.dict ha hi) fun kvs hD hk1 hv1=>?_
 have lo:(a == sysModules)=false:=by
  refine x1_3 (w.hr.objs i _ hi) fun a' e' h1 _=>?_
  rw [ha] at e';cases e';exact h1
 refine x1_1 (hD.dictAt) fun ep hat=>?_
 have hlen:kvs.length=l.length:=by have:=congrArg List.length hk1;simpa using this
 refine Calls.call_function_entry kind_sorted plain_sorted entry_sorted (args_sorted1 _) ?_
 unfold Builtin.«sorted»
 refine wpAny_bind (m:=checkCount "sorted" 1 1 _) (wpAny_pure ?_)
 refine wpAny_bind (kdu_collect (A:=A.in1) (kdl_dict (knd:=intKind P.prog P.w) (kvs:=kvs) (ep:=ep) lo) (w.qt.still st) hat (by unfold sizeLine;(first|lia|omega)) fun h' tk acc hk hacc=>?_)
 have hl:acc.toList.length=l.length:=by rw [Array.length_toList];exact hacc.1.trans hlen
 have hI:IntsAre acc.toList (l.map (·.1)):=by
  rw [←hk1]
  exact keys_are _ _ (by rw [hl,hlen]) fun j v e=>hacc.2 j v (by rw [←Array.getElem?_toList];exact e)
 refine wpAny_bind (wpAny_newList ?_ (by rw [hl];unfold sizeLine;(first|lia|omega)))
 have hoL:(h'.push { cls:=.type "list",data:=.seq acc.toList.toArray }).get? h'.objs.size=some (seqObj "list" acc.toList.toArray 0):=Heap.get?_push_size _ rfl
 refine wpAny_bind (wpAny_holding (wpAny_call_entry slot_list_sort ⟨_,hoL,rfl⟩ entry_list_sort (list_sort_tree hoL hI (by rw [hl];exact h64) fun out ms h1 h2 h3=>⟨_,rfl,?_⟩) (args_list_sort _)))
 refine wpAny_pure ⟨_,rfl,?_⟩
 have hlt:∀ b o,s.heap.get? b=some o->b<h'.objs.size:=fun b o e=>Heap.lt_size (hk b o e)
 have hk2:∀ b o,s.heap.get? b=some o->(sortedHeap (h'.push { cls:=.type "list",data:=.seq acc.toList.toArray }) h'.objs.size acc.toList out).get? b=some o:=fun b o e=>by
  rw [sortedHeap_old (Nat.ne_of_lt (hlt b o e)) (by rw [Heap.size_push];exact Nat.lt_succ_of_lt (hlt b o e))]
  exact Heap.get?_push_of_some _ (hk b o e)
 refine x1_1 (sortedHeap_at (out:=out) hoL) fun e he=>?_
 have hn:s.heap.get? h'.objs.size=none:=by
  cases e:s.heap.get? h'.objs.size with
  | none=>rfl
  | some o=>exact absurd (hlt _ _ e) (Nat.lt_irrefl _)
 refine ⟨_,_,.ref H.length,Post.alloc (t:=tk) w.hr hk2 hn (o:=.list (ms.map .int)) ⟨out.toList,⟨e,by simpa using he⟩,VRs.ofInts h1⟩,?_,q ms h2 h3⟩
 unfold VR
 exact ⟨_,rfl,by rw [←w.hr.len];simp⟩
theorem fn_listD {i:Nat}{l:List (Int×AV)}{Q:AV->Hp->Prop}(st:P.hd=none) (hi:H[i]?=some (.dict l)) (hn:l.length<=sizeLine)
  (q:Q (.ref H.length) (H++[.list ((l.map (·.1)).map .int)])):OpOK P d (fun vs=>call (.type "list") vs) [.ref i] H Q:=fn1 fun A E ι s u w r=>by
 unfold VR at r
 refine x1_2 (r) fun a eQ1 ha=>?_
 clear r
 subst eQ1
 refine x1_3 (w.hr.dict ha hi) fun kvs hD hk1 hv1=>?_
 have lo:(a == sysModules)=false:=by
  refine x1_3 (w.hr.objs i _ hi) fun a' e' h1 _=>?_
  rw [ha] at e';cases e';exact h1
 refine x1_1 (hD.dictAt) fun ep hat=>?_
 have hlen:kvs.length=l.length:=by have:=congrArg List.length hk1;simpa using this
 refine kdl_call (kdl_dict (knd:=intKind P.prog P.w) (kvs:=kvs) (ep:=ep) lo) (w.qt.still st) hat (by rw [hlen];exact hn) fun h' tk acc c hk hS hacc=>?_
 have hI:=keys_are (prog:=P.prog) (w:=P.w) acc.toList kvs (by rw [Array.length_toList];exact hacc.1) fun j v e=>hacc.2 j v (by rw [←Array.getElem?_toList];exact e)
 rw [hk1] at hI
 refine ⟨_,_,.ref H.length,Post.alloc (t:=tk) w.hr hk (get_size _) (o:=.list ((l.map (·.1)).map .int)) ⟨acc.toList,⟨c,by simpa using hS⟩,VRs.ofInts hI⟩,?_,q⟩
 unfold VR
 exact ⟨_,rfl,by rw [←w.hr.len];simp⟩
end Mine
namespace Mine
open PySem
open AutoSeq1 (wpAny_loadPart')
set_option maxRecDepth 100000
section
variable {prog:Program}{w:World}{A:Around}{E:Value->Shared->Prop}{s:Shared}
theorem nextOf_tup {it t:Addr}{i:Nat}{items:Array Value}{x:Value}{Q:Value->Shared->Prop}(hit:s.heap.IsTupleIter it t i) (ht:s.heap.IsTuple t items) (hx:items[i]?=some x)
  (hQ:∀ h',h'.IsTupleIter it t (i+1)->Heap.SameBut it s.heap h'->Q x { s with heap:=h' }):wpAny (model prog w) A (Builtin.SmallTypes.nextOf (.ref it)) Q E s:=by
 refine x1_3 (id hit) fun o ho hc hd=>?_
 refine x1_3 (ht) fun ot hot _ qQ3=>?_
 clear ht
 obtain ⟨n,hdt⟩:=qQ3
 unfold Builtin.SmallTypes.nextOf
 refine wpAny_bind (wpAny_callSpecial?_slot (name:=Str.ofString "__next__") hit.typeIs F.slot_tuple_iterator_next (wpAny_call_entry F.slot_tuple_iterator_next hit.typeIs F.entry_tuple_iterator_next ?_ (F.args_tuple_iterator_next_1 _)))
 show wpAny _ _ (field (.ref it) 0 >>= _) _ _ s
 refine wpAny_bind (wpAny_field ho hd (x:=.ref t) rfl ?_)
 show wpAny _ _ (if (Value.ref t == Value.none)=true then _ else _) _ _ s
 rw [if_neg (show ¬ ((Value.ref t == Value.none)=true) from Bool.false_ne_true)]
 show wpAny _ _ (field (.ref it) 1 >>= _) _ _ s
 refine wpAny_bind (wpAny_field ho hd (x:=.int i 0) rfl ?_)
 show wpAny _ _ (seqItems? (.ref t) >>= _) _ _ s
 refine wpAny_bind (wpAny_seqItems hot hdt ?_)
 simp only [Int.toNat_natCast,hx]
 refine wpAny_bind (wpAny_setField ho hd (by simp) (wpAny_pure ⟨x,rfl,wpAny_pure (hQ _ ?_ (Heap.SameBut.update ..))⟩))
 refine ⟨_,Heap.get?_update_self _ ho (Obj.isFreed_of_fields (Obj.data_mapFields hd _)),(Obj.cls_mapFields ..).trans hc,?_⟩
 rw [Obj.data_mapFields hd];simp [rawInt]
theorem nextOf_tup_end {it t:Addr}{i:Nat}{items:Array Value}{Q:Value->Shared->Prop}(hh:A.handled=none) (hit:s.heap.IsTupleIter it t i) (ht:s.heap.IsTuple t items) (hx:items[i]?=none)
  (hE:∀ h' e,Heap.ExtBut it s.heap h'->(∃ o,h'.get? e=some o/\o.cls=.type "StopIteration")->E (.ref e) { s with heap:=h' }):wpAny (model prog w) A (Builtin.SmallTypes.nextOf (.ref it)) Q E s:=by
 refine x1_3 (id hit) fun o ho hc hd=>?_
 refine x1_3 (ht) fun ot hot _ qQ3=>?_
 clear ht
 obtain ⟨n,hdt⟩:=qQ3
 unfold Builtin.SmallTypes.nextOf
 refine wpAny_bind (wpAny_callSpecial?_slot (name:=Str.ofString "__next__") hit.typeIs F.slot_tuple_iterator_next (wpAny_call_entry F.slot_tuple_iterator_next hit.typeIs F.entry_tuple_iterator_next ?_ (F.args_tuple_iterator_next_1 _)))
 show wpAny _ _ (field (.ref it) 0 >>= _) _ _ s
 refine wpAny_bind (wpAny_field ho hd (x:=.ref t) rfl ?_)
 show wpAny _ _ (if (Value.ref t == Value.none)=true then _ else _) _ _ s
 rw [if_neg (show ¬ ((Value.ref t == Value.none)=true) from Bool.false_ne_true)]
 show wpAny _ _ (field (.ref it) 1 >>= _) _ _ s
 refine wpAny_bind (wpAny_field ho hd (x:=.int i 0) rfl ?_)
 show wpAny _ _ (seqItems? (.ref t) >>= _) _ _ s
 refine wpAny_bind (wpAny_seqItems hot hdt ?_)
 simp only [Int.toNat_natCast,hx]
 refine wpAny_bind (wpAny_rule (wpAny_bind (wpAny_setField ho hd (by simp) ?_)))
 show wpAny _ _ (newExc (.type "StopIteration") [] >>= _) _ _ _
 refine wpAny_bind ?_
 simp only [newExc,newTuple]
 refine wpAny_bind (wpAny_newObj_type ?_ (by size_fits))
 refine wpAny_bind (m:=firstArgMember _ _) (wpAny_of_eq (a:=Value.none) (by first|rfl|(simp only [firstArgMember];rfl)) ?_)
 refine wpAny_newObj_type ?_ (by size_fits)
 simp only [raiseNew]
 refine wpAny_bind (wpAny_handled ?_)
 first|rw [show A.in1.handled=none from hh]|rw [hh]
 refine wpAny_bind (wpAny_pure (wpAny_throw ?_))
 exact hE _ _ (((Heap.SameBut.update ..).extBut.push _).push _) ⟨_,Heap.get?_push_size _ rfl,rfl⟩
theorem enum_next {e it:Addr}{i:Nat}{x old:Value}{R:Heap->Prop}{Q:Option Value->Shared->Prop}(he:IsEnum s.heap e it i old) (hne:e≠it)
  (hR:∀ h h',R h->(∀ o,h.get? it=some o->h'.get? it=some o)->R h')
  (hn:∀ A' E' (Q':Value->Shared->Prop),(∀ h₁,R h₁->Heap.SameBut it s.heap h₁->Q' x { s with heap:=h₁ })->wpAny (model prog w) A' (Builtin.SmallTypes.nextOf (.ref it)) Q' E' s)
  (hQ:∀ h',IsEnumOut h' e it ((i:Int)+1) x s.heap.objs.size->R h'->h'.get? s.heap.objs.size=some { cls:=.type "tuple",data:=.seq #[.int i s.toks,x] } ->
   (∀ b o,b≠e->b≠it->s.heap.get? b=some o->h'.get? b=some o)->Q (some (.ref s.heap.objs.size)) { s with heap:=h',toks:=s.toks+1 }):wpAny (model prog w) A (pyNext (.ref e)) Q E s:=by
 have hT:s.TypeIs (.ref e) "enumerate" := ⟨_,he,rfl⟩
 unfold pyNext
 refine wpAny_bind (wpAny_attempt (wpAny_callSpecial?_slot (name:=Str.ofString "__next__") hT F.slot_enumerate_next (wpAny_call_entry F.slot_enumerate_next hT F.entry_enumerate_next ?_ (F.args_enumerate_next_1 _))))
 obtain ⟨hp,g,d,tk,os⟩:=s
 have hel:e<hp.objs.size:=Heap.lt_size he
 show wpAny _ _ (field (.ref e) 2 >>= _) _ _ _
 refine wpAny_bind (wpAny_field he rfl (x:=.ref it) rfl ?_)
 refine wpAny_bind (hn _ _ _ fun h₁ r₁ b₁=>?_)
 have e₁:IsEnum h₁ e it i old:=(b₁.2 e hne).trans he
 show wpAny _ _ (field (.ref e) 3 >>= _) _ _ ⟨h₁,g,d,tk,os⟩
 refine wpAny_bind (wpAny_field e₁ rfl (x:=rawInt i) rfl ?_)
 show wpAny _ _ (field (.ref e) 4 >>= _) _ _ ⟨h₁,g,d,tk,os⟩
 refine wpAny_bind (wpAny_field e₁ rfl (x:=.none) rfl ?_)
 show wpAny _ _ (mkInt i >>= _) _ _ ⟨h₁,g,d,tk,os⟩
 refine wpAny_bind (wpAny_mkInt ?_)
 show wpAny _ _ (setField (.ref e) 3 (rawInt ((i:Int)+1)) >>= _) _ _ ⟨h₁,g,d,tk+1,os⟩
 refine wpAny_bind (wpAny_setField_rec e₁ (by simp) fun h₂ e₂ b₂=>?_)
 replace b₂:Heap.SameBut e h₁ h₂:=b₂
 replace e₂:IsEnum h₂ e it ((i:Int)+1) old:=e₂
 show wpAny _ _ (setField (.ref e) 4 .none >>= _) _ _ ⟨h₂,g,d,tk+1,os⟩
 refine wpAny_bind (wpAny_setField_rec e₂ (by simp) fun h₃ e₃ b₃=>?_)
 replace b₃:Heap.SameBut e h₂ h₃:=b₃
 replace e₃:IsEnum h₃ e it ((i:Int)+1) old:=e₃
 show wpAny _ _ (newTuple [.int i tk,x] >>= _) _ _ ⟨h₃,g,d,tk+1,os⟩
 refine wpAny_bind (wpAny_newTuple ?_)
 have sz:h₃.objs.size=hp.objs.size:=b₃.1.trans (b₂.1.trans b₁.1)
 generalize hh:h₃.push { cls:=.type "tuple",data:=.seq #[.int i tk,x] }=h₄
 have e₄:IsEnum h₄ e it ((i:Int)+1) old:=hh▸Heap.get?_push_of_some _ e₃
 have t₄:h₄.get? hp.objs.size=some { cls:=.type "tuple",data:=.seq #[.int i tk,x] }:=by rw [←hh,←sz];exact Heap.get?_push_size _ rfl
 have k₄:∀ b o,b≠e->b≠it->hp.get? b=some o->h₄.get? b=some o:=fun b o n1 n2 hb=>by
  rw [←hh];exact Heap.get?_push_of_some _ (b₃.extBut b o n1 (b₂.extBut b o n1 (b₁.extBut b o n2 hb)))
 have i₄:∀ o,h₁.get? it=some o->h₄.get? it=some o:=fun o ho=>by
  rw [←hh];exact Heap.get?_push_of_some _ (b₃.extBut it o (Ne.symm hne) (b₂.extBut it o (Ne.symm hne) ho))
 show wpAny _ _ (Builtin.SmallTypes.ownedTupleIsFree (.ref e) >>= _) _ _ ⟨h₄,g,d,tk+1,os⟩
 rw [sz]
 refine wpAny_bind ?_
 unfold Builtin.SmallTypes.ownedTupleIsFree
 refine wpAny_bind (wpAny_field e₄ rfl (x:=.none) rfl (wpAny_pure ?_))
 simp only [if_true]
 refine wpAny_bind (wpAny_rule ?_)
 refine wpAny_bind (wpAny_field e₄ rfl (x:=old) rfl ?_)
 refine wpAny_bind (wpAny_setField_rec e₄ (by simp) fun h₅ e₅ b₅=>?_)
 replace b₅:Heap.SameBut e h₄ h₅:=b₅
 replace e₅:IsEnum h₅ e it ((i:Int)+1) x:=e₅
 show wpAny _ _ (Builtin.SmallTypes.ownedTupleHandOut (.ref e) (.ref hp.objs.size) >>= _) _ _ ⟨h₅,g,d,tk+1,os⟩
 refine wpAny_bind ?_
 unfold Builtin.SmallTypes.ownedTupleHandOut
 refine wpAny_bind (wpAny_setField_rec e₅ (by simp) fun h₆ e₆ b₆=>?_)
 replace b₆:Heap.SameBut e h₅ h₆:=b₆
 replace e₆:IsEnumOut h₆ e it ((i:Int)+1) x hp.objs.size:=e₆
 refine wpAny_setField_rec e₆ (by simp) fun h₇ e₇ b₇=>?_
 replace b₇:Heap.SameBut e h₆ h₇:=b₇
 replace e₇:IsEnumOut h₇ e it ((i:Int)+1) x hp.objs.size:=e₇
 have up:∀ b o,b≠e->h₄.get? b=some o->h₇.get? b=some o:=fun b o n hb=>b₇.extBut b o n (b₆.extBut b o n (b₅.extBut b o n hb))
 refine wpAny_bind (wpAny_letGo (wpAny_pure ⟨_,rfl,?_⟩))
 refine wpAny_pure (hQ h₇ e₇ ?_ ?_ ?_)
 ·exact hR h₁ h₇ r₁ fun o ho=>up it o (Ne.symm hne) (i₄ o ho)
 ·exact up _ _ (Nat.ne_of_gt hel) t₄
 ·exact fun b o n1 n2 hb=>up b o n1 (k₄ b o n1 n2 hb)
theorem enum_end {e it:Addr}{i:Int}{old:Value}{Q:Option Value->Shared->Prop}(hh:A.handled=none) (he:IsEnum s.heap e it i old)
  (hn:∀ (A':Around) (E':Value->Shared->Prop) (Q':Value->Shared->Prop),A'.handled=none->(∀ h' x,Heap.ExtBut it s.heap h'->(∃ o,h'.get? x=some o/\o.cls=.type "StopIteration")->E' (.ref x) { s with heap:=h' })->wpAny (model prog w) A' (Builtin.SmallTypes.nextOf (.ref it)) Q' E' s)
  (hQ:∀ h',Heap.ExtBut it s.heap h'->Q none { s with heap:=h' }):wpAny (model prog w) A (pyNext (.ref e)) Q E s:=by
 have hT:s.TypeIs (.ref e) "enumerate" := ⟨_,he,rfl⟩
 unfold pyNext
 refine wpAny_bind (wpAny_attempt (wpAny_callSpecial?_slot (name:=Str.ofString "__next__") hT F.slot_enumerate_next (wpAny_call_entry F.slot_enumerate_next hT F.entry_enumerate_next ?_ (F.args_enumerate_next_1 _))))
 show wpAny _ _ (field (.ref e) 2 >>= _) _ _ _
 refine wpAny_bind (wpAny_field he rfl (x:=.ref it) rfl ?_)
 refine wpAny_bind (hn _ _ _ hh fun h' x k ⟨o,ho,hc⟩=>?_)
 refine wpAny_bind (wpAny_isInstance (T := "StopIteration") (b:=true) ⟨o,ho,hc⟩ isSubtype_stop ?_)
 exact wpAny_pure (hQ _ k)
set_option maxHeartbeats 1000000 in
theorem enum_newT (t:Addr) (items:Array Value) (n:Nat) (dct:Option Addr) (sl:Array (Option Value)) :
  Meets (Builtin.«enumerate.__new__» ⟨[.type "enumerate",.ref t],[]⟩) (fun _ R s=>s.heap.get? t=some { cls:=.type "tuple",dict:=dct,data:=.seq items n,slots:=sl } /\
   R (.ok (.ret (.ref (s.heap.push { cls:=.type "tuple_iterator",data:=.fields #[.ref t,.int 0 0] }).objs.size)))
    { s with heap:=(s.heap.push { cls:=.type "tuple_iterator",data:=.fields #[.ref t,.int 0 0] }).push { cls:=.type "enumerate",data:=.fields #[.none,.bool false,.ref s.heap.objs.size,rawInt 0,.none,.none] } }) :=
 .of_wp fun prog w A R s h=>by
  obtain ⟨hp,g,d,tk,os⟩:=s;obtain ⟨hl,h⟩:=h
  have hsub:=sub_enumerate
  have hL:Heap.IsTuple (Shared.heap ⟨hp,g,d,tk,os⟩) t items:=⟨_,hl,rfl,n,rfl⟩
  wp_walk using wpAny_loadPart' hl
  refine wpAny_stack_any fun st=>wpAny_pure ?_
  split
  ·rename_i c _ _ _ _ _
   cases (c == Value.type "enumerate")
   ·wp_walk using wpAny_loadPart' hl,wpAny_pyIter_tuple hL
    exact ⟨_,rfl,h⟩
   ·wp_walk using wpAny_loadPart' hl,wpAny_pyIter_tuple hL
    exact ⟨_,rfl,h⟩
  ·wp_walk using wpAny_loadPart' hl,wpAny_pyIter_tuple hL
   exact ⟨_,rfl,h⟩
end
variable {P:PEnv}{d:Nat}{H:Hp}
theorem tupE_ex {t:Expr}(h:isTupE t=true):∃ es k p,t=.Tuple es k p:=by
 cases t<;>first|exact ⟨_,_,_,rfl⟩|exact absurd h Bool.false_ne_true
noncomputable def enumL (l:List AV):List AV:=l.mapIdx fun i x=>.tup [.int i,x]
theorem enumL_at (l:List AV) (k:Nat):(enumL l)[k]?=(l[k]?).map fun x=>AV.tup [.int k,x]:=by
 unfold enumL;rw [List.getElem?_mapIdx]
theorem enumL_len (l:List AV):(enumL l).length=l.length:=by unfold enumL;rw [List.length_mapIdx]
structure Nxt (P:PEnv) (T:Addr) (items:List AV) (Cnd:Hp->Prop) (At:Nat->Obj->Prop) (Pre:List Addr->Heap->Prop):Prop where
 dat:∀ k o,At k o->(∀ vs n,o.data≠.seq vs n)/\∀ es n,o.data≠.dict es n
 pre:∀ ι ι' S h h',Pre ι h->Kept S h h'->NoTup S h->ι<+:ι'->Pre ι' h'
 next:∀ ι H s k x,HR P.B ι H s.heap->Cnd H->Pre ι s.heap->(∃ o,s.heap.get? T=some o/\At k o)->items[k]?=some x->∃ u,VR P.B s.heap ι x u /\
  ∀ A E (Q:Value->Shared->Prop),(∀ h₁,(∃ o,h₁.get? T=some o/\At (k+1) o)->Heap.SameBut T s.heap h₁->Q u { s with heap:=h₁ })->wpAny (model P.prog P.w) A (Builtin.SmallTypes.nextOf (.ref T)) Q E s
 stop:∀ ι H s,HR P.B ι H s.heap->Cnd H->Pre ι s.heap->(∃ o,s.heap.get? T=some o/\At items.length o)->∀ A (E:Value->Shared->Prop) (Q:Value->Shared->Prop),A.handled=none ->
  (∀ h' x,Heap.ExtBut T s.heap h'->(∃ o,h'.get? x=some o/\o.cls=.type "StopIteration")->E (.ref x) { s with heap:=h' })->wpAny (model P.prog P.w) A (Builtin.SmallTypes.nextOf (.ref T)) Q E s
theorem two_mem {a b:Addr}{Z:Addr->Prop}(z:Z a) (y:Z b):∀ c∈[a,b],Z c:=fun c hc=>(List.mem_cons.mp hc).elim (fun e=>e▸z) fun m=>List.mem_singleton.mp m▸y
theorem enum_itr {I T:Addr}{items:List AV}{Cnd:Hp->Prop}{At:Nat->Obj->Prop}{Pre:List Addr->Heap->Prop}(st:P.hd=none) (n:Nxt P T items Cnd At Pre) (ne:I≠T) :
  Itr P true I [I,T] (enumL items) Cnd (fun k ι h=>Pre ι h/\(∃ old,IsEnum h I T k old)/\∃ o,h.get? T=some o/\At k o) (fun k v ι h=>Pre ι h/\(∃ x A,v=.ref A/\IsEnumOut h I T ((k:Int)+1) x A)/\∃ o,h.get? T=some o/\At (k+1) o):=by
 have th:∀ {h:Heap}{k:Nat}{oI:Obj},h.get? I=some oI->(∀ vs n,oI.data≠.seq vs n)->(∃ o,h.get? T=some o/\At k o)->∀ a∈[I,T],∃ o,h.get? a=some o/\∀ vs n,o.data≠.seq vs n:=fun e d q =>
  two_mem (Z:=fun a=>∃ o,_/\_) ⟨_,e,d⟩ (x1_2 q fun o e z=>⟨o,e,(n.dat _ _ z).1⟩)
 have nos:∀ {vs:Array Value},(∀ us m,Data.fields vs≠.seq us m)/\∀ es m,Data.fields vs≠.dict es m:=⟨(fun _ _ z=>nomatch z),fun _ _ z=>nomatch z⟩
 have ex:∀ {h₁ h₂:Heap},(∀ b o,b≠I->b≠T->h₁.get? b=some o->h₂.get? b=some o)->∀ b o,b∉[I,T]->h₁.get? b=some o->h₂.get? b=some o:=fun x b o hb eb=>x b o (fun z=>hb (z▸List.mem_cons_self ..)) (fun z=>hb (z▸List.mem_cons_of_mem _ (List.mem_singleton.mpr rfl))) eb
 refine ⟨fun k ι ι' S h₁ h₂ q kp ns pr hw=>⟨n.pre _ _ _ _ _ q.1 kp ns pr,q.2.1.elim fun old e=>⟨old,kp.exact e (hw _ (List.mem_cons_self ..)) nos.2⟩,x1_2 q.2.2 fun o e z=>⟨o,kp.exact e (hw _ (List.mem_cons_of_mem _ (List.mem_singleton.mpr rfl))) (n.dat _ _ z).2,z⟩⟩,
  fun k ι h₁ q=>q.2.1.elim fun old e=>th e nos.1 q.2.2,fun k v ι h₁ q=>x2_2 q.2.1 fun x A _ e=>th e nos.1 q.2.2,?_,?_,?_,fun A E ι₁ s₁ k Q q hQ=>q.2.1.elim fun old e=>wpAny_pyIter_enum e hQ⟩
 ·intro A E ι₁ H₁ s₁ k x Q hh hr₁ hc q hx hQ
  refine q.2.1.elim fun old e=>?_
  rw [enumL_at] at hx
  refine x1_2 (Option.map_eq_some_iff.mp hx) fun y hy eQ2=>x1_2 (n.next ι₁ H₁ s₁ k y hr₁ hc q.1 q.2.2 hy) fun u ru nx=>?_
  subst eQ2
  refine enum_next (R:=fun h'=>∃ o,h'.get? T=some o/\At (k+1) o) e ne (fun h h' z kk=>x1_2 z fun o e' a=>⟨o,kk o e',a⟩) nx fun h' eo it' tu kp=>?_
  have kp:=Kept.of_keeps (ex kp)
  have nts:=ntw (th e nos.1 q.2.2)
  refine hQ _ h' (s₁.toks+1) ?_ ⟨n.pre _ _ _ _ _ q.1 kp nts (List.prefix_refl _),⟨u,_,rfl,eo⟩,it'⟩ (ex (by assumption))
  unfold VR
  exact ⟨_,[.int k s₁.toks,u],rfl,⟨0,_,_,tu⟩,VRs.cons (VR.mkInt _ _) (VRs.cons (VR.mono kp nts (List.prefix_refl _) _ _ ru) rfl)⟩
 ·intro tgt A E ι₁ s₁ k v Q ht q hQ
  refine x2_2 q.2.1 fun x A' hv e=>x3_1 (tupE_ex (ht rfl)) fun es tk pos eQ3=>?_
  subst eQ3
  subst hv
  refine wpAny_letOwnedTupleGo_enum e fun h' e' sb=>?_
  have ext:=ex (h₁:=s₁.heap) (h₂:=h') fun b o hb _ eb=>sb.extBut b o hb eb
  refine hQ h' ⟨n.pre _ _ _ _ _ q.1 (Kept.of_keeps ext) (ntw (th e nos.1 q.2.2)) (List.prefix_refl _),⟨x,?_⟩,x1_2 q.2.2 fun o e a=>⟨o,sb.extBut T o (Ne.symm ne) e,a⟩⟩ ext
  rw [Int.natCast_add];exact e'
 ·intro A E ι₁ H₁ s₁ Q hh hr₁ hc q hQ
  rw [enumL_len] at q
  exact q.2.1.elim fun old e=>enum_end (hh.still st) e (n.stop ι₁ H₁ s₁ hr₁ hc q.1 q.2.2) fun h' x=>hQ h' s₁.toks (ex fun b o _ hb eb=>x b o hb eb)
theorem enum_new {items:List AV}{Cnd:Hp->Prop}{s:Shared}{At:Nat->Obj->Prop}{Pre:List Addr->Heap->Prop}{ι:List Addr}{o:Obj}{h₀:Heap}{A:Around}(hh:h₀=(s.heap.push o).push { cls:=.type "enumerate",data:=.fields #[.none,.bool false,.ref s.heap.objs.size,rawInt 0,.none,.none] })
  (st:P.hd=none) (n:Nxt P s.heap.objs.size items Cnd At Pre) (at0:At 0 o) (fr:o.isFreed=false) (pre:Pre ι s.heap) :
  (∃ o,h₀.get? (s.heap.objs.size+1)=some o/\o.cls=.type "enumerate")/\ItTail P true A ι (enumL items) Cnd (.ref (s.heap.objs.size+1)) s { s with heap:=h₀ }:=by
 have hz:(s.heap.push o).objs.size=s.heap.objs.size+1:=Heap.size_push ..
 have he:IsEnum h₀ (s.heap.objs.size+1) s.heap.objs.size 0 .none:=by rw [hh,←hz];exact Heap.get?_push_size _ rfl
 have k₀:∀ b o,s.heap.get? b=some o->h₀.get? b=some o:=fun b o e=>by rw [hh];exact Heap.get?_push_of_some _ (Heap.get?_push_of_some _ e)
 have hi:h₀.get? s.heap.objs.size=some o:=by rw [hh];exact Heap.get?_push_of_some _ (Heap.get?_push_size _ fr)
 refine ⟨⟨_,he,rfl⟩,fun E' Q hq=>wpAny_pyIter_enum he ?_⟩
 refine hq _ _ _ _ _ s.toks (enum_itr st n (Nat.succ_ne_self _)) ⟨n.pre _ _ _ _ _ pre (kept_nil_of k₀) noTup_nil (List.prefix_refl _),⟨_,he⟩,o,hi,at0⟩ (two_mem (Z:=fun b=>s.heap.get? b=none) ?_ (get_size _)) k₀
 cases z:s.heap.get? (s.heap.objs.size+1) with
 | none=>rfl
 | some o=>exact absurd (Heap.lt_size z) (Nat.not_lt.mpr (Nat.le_succ _))
theorem it_enumT {l:List AV}{K:List AV->(Hp->Prop)->Hp->Prop}(st:P.hd=none) (h:K (enumL l) (fun _=>True) H):ItCall P true d (fun vs=>call (.type "enumerate") vs) [.tup l] H K:=fun A E ι s vs w rs=>by
 refine x1_2 (vrs1 rs) fun u eQ1 r=>?_
 subst eQ1
 clear rs
 unfold VR at r
 refine x2_3 r fun a vs eQ2 tl rv=>x3_1 tl fun n dct sl ea=>?_
 clear r
 subst eQ2
 refine callType_new F.called_enumerate (by decide) (F.typeCall_enumerate_1 _) (F.newCall_enumerate_1 _) (fun obj=>F.args_object_init_2 obj _) F.entry_enumerate_new (enum_newT a vs.toArray n dct sl) ⟨ea,?_⟩
 have en:=enum_new (P:=P) (A:=A) (ι:=ι) (s:=s) (o:={ cls:=.type "tuple_iterator",data:=.fields #[.ref a,.int 0 0] }) rfl st (items:=l) (Cnd:=fun _=>True) (At:=fun k o=>o.cls=.type "tuple_iterator" /\ o.data=.fields #[.ref a,.int k 0]) (Pre:=fun ι h=>PTup h a vs.toArray/\VRs P.B h ι l vs)
  ⟨fun k o z=>fields_no z.2,fun ι ι' S h h' q kp nt pr=>⟨istup_kept kp nt q.1,VRs.mono kp nt pr _ _ q.2⟩,fun ι H s k x hr hc q1 q2 hx=>x1_2 (q1.2.get hx) fun u hu ru=>⟨u,ru,fun A E Q hq=>nextOf_tup q2 q1.1.isTup (by simpa using hu) hq⟩,
   fun ι H s hr hc q1 q2 A E Q hh hE=>nextOf_tup_end hh q2 q1.1.isTup (ar_none q1.2.length) hE⟩ ⟨rfl,rfl⟩ rfl ⟨tl,rv⟩
 show _/\_
 rw [Heap.size_push]
 exact ⟨en.1,ι,H,enumL l,fun _=>True,s,Post.id w.hr,en.2,h⟩
theorem it_enumL {i:Nat}{l:List AV}{K:List AV->(Hp->Prop)->Hp->Prop}(st:P.hd=none) (hi:H[i]?=some (.list l)) (h:K (enumL l) (fun H'=>H'[i]?=some (.list l)) H):ItCall P true d (fun vs=>call (.type "enumerate") vs) [.ref i] H K:=fun A E ι s vs w rs=>by
 refine x1_2 (vrs1 rs) fun u eQ1 r=>x1_2 r fun a eQ ea=>?_
 subst eQ1
 subst eQ
 clear rs r
 have at_:∀ {ι H h},HR P.B ι H h->H[i]?=some (.list l)->ι[i]?=some a->∃ vs,h.PlainList a (List.toArray vs)/\VRs P.B h ι l vs:=fun hr hi ea=>x1_2 (hr.objs i _ hi) fun a' ea' o=>Option.some.inj (ea'.symm.trans ea)▸o
 refine x1_2 (at_ w.hr hi ea) fun vs pl rv=>pl.elim fun n el=>?_
 refine callType_new F.called_enumerate (by decide) (F.typeCall_enumerate_1 _) (F.newCall_enumerate_1 _) (fun obj=>F.args_object_init_2 obj _) F.entry_enumerate_new (meets_enumerate_new a vs.toArray n) ⟨el,?_⟩
 have en:=enum_new (P:=P) (A:=A) (ι:=ι) (s:=s) (o:={ cls:=.type "list_iterator",data:=.fields #[.ref a,.int 0 0] }) rfl st (items:=l) (Cnd:=fun H'=>H'[i]?=some (.list l)) (At:=fun k o=>o.cls=.type "list_iterator" /\ o.data=.fields #[.ref a,.int k 0]) (Pre:=fun ι _=>ι[i]?=some a)
  ⟨fun k o z=>fields_no z.2,fun ι ι' S h h' q _ _ pr=>pre_get pr q,fun ι H s k x hr hc q1 q2 hx=>x1_2 (at_ hr hc q1) fun vs₂ pl₂ rv₂=>x1_2 (rv₂.get hx) fun u hu ru=>⟨u,ru,fun A E Q hq=>wpAny_nextOf_list_item q2 pl₂.isList (by simpa using hu) hq⟩,
   fun ι H s hr hc q1 q2 A E Q hh hE=>x1_2 (at_ hr hc q1) fun vs₂ pl₂ rv₂=>wpAny_nextOf_list_end hh q2 pl₂.isList (ar_none rv₂.length) hE⟩ ⟨rfl,rfl⟩ rfl ea
 show _/\_
 rw [Heap.size_push]
 exact ⟨en.1,ι,H,enumL l,_,s,Post.id w.hr,en.2,h⟩
end Mine
namespace Mine
open PySem
set_option maxRecDepth 100000
variable {P:PEnv}{C:Ctx}{d:Nat}{loc:Loc}{H:Hp}{X:XP}
end Mine
namespace Mine
open PySem
inductive Bi where|len|all|any|sorted|list|tuple|int|min|max
inductive Mt where|append|pop|insert|extend|clear
inductive IK where|plain|range|revd|enum
abbrev KI:=List AV->(Hp->Prop)->Hp->Prop
abbrev PF:=MFlow->Loc->Hp->Prop
abbrev PL:=List AV->Hp->Prop
noncomputable def asT (v:AV) (n:Nat) (K:List AV->Prop):Prop:=match v with|.tup l=>l.length=n/\K l|_=>False
noncomputable def as1 (vs:List AV) (K:AV->Prop):Prop:=match vs with|[x]=>K x|_=>False
noncomputable def withL (o:Option (List AV)) (K:List AV->Prop):Prop:=match o with|some l=>K l|none=>False
theorem asT.ex {v:AV}{n:Nat}{K:List AV->Prop}(h:asT v n K):∃ l,v=.tup l/\l.length=n/\K l:=by
 cases v<;>first|exact h.elim|exact ⟨_,rfl,h⟩
theorem as1.ex {vs:List AV}{K:AV->Prop}(h:as1 vs K):∃ x,vs=[x]/\K x:=by
 match vs,h with
 | [x],h=>exact ⟨x,rfl,h⟩
theorem withL.ex {o:Option (List AV)}{K:List AV->Prop}(h:withL o K):∃ l,o=some l/\K l:=by
 match o,h with
 | some l,h=>exact ⟨l,rfl,h⟩
noncomputable def anyL (H:Hp):AV->Option (List AV)
 | .tup l=>some l
 | x=>seqL H x
noncomputable def lstL (H:Hp):AV->Option (List AV)
 | .ref i=>match H[i]? with
  | some (.list l)=>some l
  | some (.dict l)=>some ((l.map (·.1)).map .int)
  | none=>none
 | x=>anyL H x
noncomputable def tupL:AV->Option (List AV)|.tup l=>some l|_=>none
noncomputable def wpLen (x:AV) (H:Hp) (Q:PQ):Prop :=
 match x with
 | .tup l=>l.length<2^62/\Q (.int l.length) H
 | .fro l=>l.length<2^62/\Q (.int l.length) H
 | .ref i=>match H[i]? with
  | some (.list l)=>l.length<2^62/\Q (.int l.length) H
  | some (.dict l)=>l.length<2^62/\Q (.int l.length) H
  | none=>False
 | _=>False
noncomputable def wpSrt (x:AV) (H:Hp) (Q:PQ):Prop:=∃ ns:List Int,(seqL H x=some (ns.map .int)\/∃ i l,x=.ref i/\H[i]?=some (.dict l)/\ns=l.map (·.1))/\ns.length<64/\∀ ms:List Int,ms.Perm ns->ms.Pairwise (·<=·)->Q (.ref H.length) (H++[.list (ms.map .int)])
noncomputable def wpMm (vs:List AV) (K:Int->Int->Prop):Prop:=match vs with|[.int a,.int b]=>K a b|_=>False
noncomputable def wpBi (f:Bi) (vs:List AV) (H:Hp) (Q:PQ):Prop :=
 match f with
 | .len=>as1 vs fun x=>wpLen x H Q
 | .all=>as1 vs fun x=>∃ bs:List Bool,seqL H x=some (bs.map .bool)/\Q (.bool (bs.all fun b=>b)) H
 | .any=>as1 vs fun x=>∃ bs:List Bool,seqL H x=some (bs.map .bool)/\Q (.bool (bs.any fun b=>b)) H
 | .list=>as1 vs fun x=>withL (lstL H x) fun l=>l.length<=sizeLine/\Q (.ref H.length) (H++[.list l])
 | .tuple=>as1 vs fun x=>withL (seqL H x) fun l=>l.length<=sizeLine/\Q (.tup l) H
 | .int=>as1 vs fun x=>asB x fun b=>Q (.int (if b then 1 else 0)) H
 | .min=>wpMm vs fun a b=>Q (.int (if b<a then b else a)) H
 | .max=>wpMm vs fun a b=>Q (.int (if b>a then b else a)) H
 | .sorted=>as1 vs fun x=>wpSrt x H Q
noncomputable def isL (H:Hp) (x:AV):Prop:=∃ i l,x=.ref i/\H[i]?=some (.list l)
noncomputable def lstAt (H:Hp) (i:Nat):Option (List AV):=match H[i]? with|some (.list l)=>some l|_=>none
theorem lstAt_some {H:Hp}{i:Nat}{l:List AV}(h:lstAt H i=some l):H[i]?=some (.list l):=by
 unfold lstAt at h;split at h
 ·cases h;assumption
 ·cases h
theorem lstAt_of {H:Hp}{i:Nat}{l:List AV}(h:H[i]?=some (.list l)):lstAt H i=some l:=by
 unfold lstAt;rw [h]
noncomputable def onL (o:AV) (H:Hp) (K:Nat->List AV->Prop):Prop:=match o with|.ref i=>withL (lstAt H i) (K i)|_=>False
theorem onL.ex {o:AV}{H:Hp}{K:Nat->List AV->Prop}(h:onL o H K):∃ i l,o=.ref i/\H[i]?=some (.list l)/\K i l:=by
 cases o with
 | ref i=>obtain ⟨l,h1,h2⟩:=withL.ex h;exact ⟨i,l,rfl,lstAt_some h1,h2⟩
 | _=>exact h.elim
theorem onL_ref {i:Nat}{l:List AV}{H:Hp}{K:Nat->List AV->Prop}(h:H[i]?=some (.list l)):onL (.ref i) H K=K i l:=by
 show withL (lstAt H i) _=_
 rw [lstAt_of h];rfl
noncomputable def wpIns (vs:List AV) (K:Int->AV->Prop):Prop:=match vs with|[.int k,x]=>K k x|_=>False
noncomputable def wpPop (vs:List AV) (K0:Prop) (K1:Int->Prop):Prop:=match vs with|[]=>K0|[.int k]=>K1 k|_=>False
noncomputable def wpMt (m:Mt) (o:AV) (vs:List AV) (H:Hp) (Q:PQ):Prop:=onL o H fun i l =>
 match m with
 | .append=>as1 vs fun x=>l.length<=sizeLine/\Q .none (H.set i (.list (l++[x])))
 | .pop=>wpPop vs (l.length<=sizeLine/\∃ l' x,l=l'++[x]/\Q x (H.set i (.list l'))) fun k=>l.length<=sizeLine/\0<=k/\k<2^62/\∃ x,l[k.toNat]?=some x/\Q x (H.set i (.list (l.eraseIdx k.toNat)))
 | .insert=>wpIns vs fun k x=>l.length<=sizeLine/\0<=k/\k<=l.length/\Q .none (H.set i (.list (l.take k.toNat++x::l.drop k.toNat)))
 | .extend=>as1 vs fun y=>onL y H fun _ m=>l.length+m.length<=1000000/\Q .none (H.set i (.list (l++m)))
 | .clear=>vs=[]/\l.length<=sizeLine/\Q .none (H.set i (.list []))
noncomputable def wpPlain (x:AV) (H:Hp) (K:KI):Prop :=
 match x with
 | .ref i=>withL (lstAt H i) fun l=>K l (fun H'=>H'[i]?=some (.list l)) H
 | .fro l=>K l (fun _=>True) H
 | .tup l=>K l (fun _=>True) H
 | .str x=>x.cps.all (·<128)=true/\K (chrs x) (fun _=>True) H
 | _=>False
noncomputable def wpRange (vs:List AV) (H:Hp) (K:KI):Prop :=
 match vs with
 | [.int n] => -(2^62)<=n/\n<2^62/\K ((List.range n.toNat).map fun (k:Nat)=>AV.int k) (fun _=>True) H
 | [.int a,.int b] => -(2^62)<=a/\a<2^62 /\ -(2^62)<=b/\b<2^62/\K ((List.range (b-a).toNat).map fun (k:Nat)=>AV.int (a+k)) (fun _=>True) H
 | _=>False
noncomputable def wpEnum (x:AV) (H:Hp) (K:KI):Prop :=
 match x with
 | .ref i=>withL (lstAt H i) fun l=>K (enumL l) (fun H'=>H'[i]?=some (.list l)) H
 | .tup l=>K (enumL l) (fun _=>True) H
 | _=>False
noncomputable def wpIt (k:IK) (vs:List AV) (H:Hp) (K:KI):Prop :=
 match k with
 | .plain=>as1 vs fun x=>wpPlain x H K
 | .range=>wpRange vs H K
 | .revd=>as1 vs fun x=>onL x H fun i l=>K l.reverse (fun H'=>H'[i]?=some (.list l)) H
 | .enum=>as1 vs fun x=>wpEnum x H K
noncomputable def unpack (t:Bool) (n:Nat) (y:AV):Option (List AV) :=
 match t with
 | true=>match y with|.tup l=>if l.length=n then some l else none|_=>none
 | false=>if n=1 then some [y] else none
noncomputable def wpSet (o k x:AV) (H:Hp) (K:Hp->Prop):Prop :=
 match o with
 | .ref i=>asI k fun k=>match H[i]? with
  | some (.list l)=>l.length<2^62/\0<=k/\k<l.length/\K (H.set i (.list (l.set k.toNat x)))
  | some (.dict l)=>l.length<=sizeLine/\K (H.set i (.dict (dset l k x)))
  | none=>False
 | _=>False
noncomputable def idxL (l:List AV) (k:Int) (H:Hp) (Q:PQ):Prop:=l.length<2^62/\∃ j z,place k l.length=some j/\l[j]?=some z/\Q z H
noncomputable def wpIdx (x y:AV) (H:Hp) (Q:PQ):Prop :=
 match x with
 | .ref i=>asI y fun k=>match H[i]? with
  | some (.list l)=>idxL l k H Q
  | some (.dict l)=>∃ z,dget l k=some z/\Q z H
  | none=>False
 | .tup l=>asI y fun k=>idxL l k H Q
 | .fro l=>asI y fun k=>idxL l k H Q
 | _=>False
noncomputable def partOf:List AV->Option (Option Int)
 | []=>some none
 | [.int k]=>some (some k)
 | _=>none
noncomputable def withP (vs:List AV) (K:Option Int->Prop):Prop:=match vs with|[]=>K none|[.int k]=>0<=k/\K (some k)|_=>False
theorem withP.ex {vs:List AV}{K:Option Int->Prop}(h:withP vs K):∃ k,partOf vs=some k/\partOK k/\K k:=by
 match vs,h with
 | [],h=>exact ⟨_,rfl,by simp [partOK],h⟩
 | [.int k],h=>exact ⟨_,rfl,by simpa [partOK] using h.1,h.2⟩
noncomputable def ME:Type:=Fun->Loc->Hp->PQ->Prop
noncomputable def wpE (Φ:Fun) (m:ME) (loc:Loc) (H:Hp) (Q:PQ):Prop:=m Φ loc H Q
noncomputable def wpEs (Φ:Fun):List ME->Loc->Hp->PL->Prop
 | [],_,H,Q=>Q [] H
 | e::es,loc,H,Q=>wpE Φ e loc H fun v H'=>wpEs Φ es loc H' fun vs H''=>Q (v::vs) H''
noncomputable def wpCs (Φ:Fun):List ME->Loc->Hp->(Bool->Hp->Prop)->Prop
 | [],_,H,K=>K true H
 | e::es,loc,H,K=>wpE Φ e loc H fun v H'=>asB v fun b=>if b then wpCs Φ es loc H' K else K false H'
noncomputable def kBin2 (op:BOp) (x:AV) (Q:PQ):PQ:=fun y H=>wpBin op x y H Q
noncomputable def kBin1 (Φ:Fun) (op:BOp) (b:ME) (loc:Loc) (Q:PQ):PQ:=fun x H=>wpE Φ b loc H (kBin2 op x Q)
noncomputable def kCmp2 (op:COp) (x:AV) (Q:PQ):PQ:=fun y H=>wpCmp op x y H Q
noncomputable def kCmp1 (Φ:Fun) (op:COp) (b:ME) (loc:Loc) (Q:PQ):PQ:=fun x H=>wpE Φ b loc H (kCmp2 op x Q)
noncomputable def kC4 (Φ:Fun) (o2:COp) (c:ME) (loc:Loc) (y:AV) (Q:PQ) (H:Hp):Bool->Prop:=fun t=>if t then wpE Φ c loc H (kCmp2 o2 y Q) else Q (.bool false) H
noncomputable def kC3 (Φ:Fun) (o2:COp) (c:ME) (loc:Loc) (y:AV) (Q:PQ):PQ:=fun v H=>asB v (kC4 Φ o2 c loc y Q H)
noncomputable def kC2 (Φ:Fun) (o1 o2:COp) (c:ME) (loc:Loc) (x:AV) (Q:PQ):PQ:=fun y H=>wpCmp o1 x y H (kC3 Φ o2 c loc y Q)
noncomputable def kC1 (Φ:Fun) (o1 o2:COp) (b c:ME) (loc:Loc) (Q:PQ):PQ:=fun x H=>wpE Φ b loc H (kC2 Φ o1 o2 c loc x Q)
noncomputable def kNotB (Q:PQ) (H:Hp):Bool->Prop:=fun b=>Q (.bool !b) H
noncomputable def kNot (Q:PQ):PQ:=fun v H=>asB v (kNotB Q H)
noncomputable def kNegI (Q:PQ) (H:Hp):Int->Prop:=fun b=>Q (.int (-b)) H
noncomputable def kNeg (Q:PQ):PQ:=fun v H=>asI v (kNegI Q H)
noncomputable def kAndB (Φ:Fun) (b:ME) (loc:Loc) (Q:PQ) (H:Hp):Bool->Prop:=fun t=>if t then wpE Φ b loc H Q else Q (.bool false) H
noncomputable def kAnd (Φ:Fun) (b:ME) (loc:Loc) (Q:PQ):PQ:=fun v H=>asB v (kAndB Φ b loc Q H)
noncomputable def kOrB (Φ:Fun) (b:ME) (loc:Loc) (Q:PQ) (H:Hp):Bool->Prop:=fun t=>if t then Q (.bool true) H else wpE Φ b loc H Q
noncomputable def kOr (Φ:Fun) (b:ME) (loc:Loc) (Q:PQ):PQ:=fun v H=>asB v (kOrB Φ b loc Q H)
noncomputable def kCall (Φ:Fun) (f:Str) (Q:PQ):PL:=fun vs H=>Φ f vs H Q
noncomputable def kBi (f:Bi) (Q:PQ):PL:=fun vs H=>wpBi f vs H Q
noncomputable def kIsi (t:Ty) (Q:PQ):PQ:=fun v H=>Q (.bool (isi H v t)) H
noncomputable def kIdx2 (x:AV) (Q:PQ):PQ:=fun y H=>wpIdx x y H Q
noncomputable def kIdx1 (Φ:Fun) (b:ME) (loc:Loc) (Q:PQ):PQ:=fun x H=>wpE Φ b loc H (kIdx2 x Q)
noncomputable def kS6 (ka kb:Option Int) (Q:PQ) (H:Hp):List AV->Prop:=fun l=>l.length<=sizeLine/\Q (.ref H.length) (H++[.list (lslice l ka kb)])
noncomputable def kS5 (x:AV) (ka:Option Int) (Q:PQ) (H:Hp):Option Int->Prop:=fun kb=>withL (seqL H x) (kS6 ka kb Q H)
noncomputable def kS4 (x:AV) (ka:Option Int) (Q:PQ):PL:=fun vs H=>withP vs (kS5 x ka Q H)
noncomputable def kS3 (Φ:Fun) (hi:List ME) (loc:Loc) (x:AV) (Q:PQ) (H:Hp):Option Int->Prop:=fun ka=>wpEs Φ hi loc H (kS4 x ka Q)
noncomputable def kS2 (Φ:Fun) (hi:List ME) (loc:Loc) (x:AV) (Q:PQ):PL:=fun us H=>withP us (kS3 Φ hi loc x Q H)
noncomputable def kS1 (Φ:Fun) (lo hi:List ME) (loc:Loc) (Q:PQ):PQ:=fun x H=>wpEs Φ lo loc H (kS2 Φ hi loc x Q)
noncomputable def kT6 (ka kb:Option Int) (Q:PQ) (H:Hp):List AV->Prop:=fun l=>l.length<=sizeLine/\Q (.tup (lslice l ka kb)) H
noncomputable def kT5 (x:AV) (ka:Option Int) (Q:PQ) (H:Hp):Option Int->Prop:=fun kb=>withL (tupL x) (kT6 ka kb Q H)
noncomputable def kT4 (x:AV) (ka:Option Int) (Q:PQ):PL:=fun vs H=>withP vs (kT5 x ka Q H)
noncomputable def kT3 (Φ:Fun) (hi:List ME) (loc:Loc) (x:AV) (Q:PQ) (H:Hp):Option Int->Prop:=fun ka=>wpEs Φ hi loc H (kT4 x ka Q)
noncomputable def kT2 (Φ:Fun) (hi:List ME) (loc:Loc) (x:AV) (Q:PQ):PL:=fun us H=>withP us (kT3 Φ hi loc x Q H)
noncomputable def kT1 (Φ:Fun) (lo hi:List ME) (loc:Loc) (Q:PQ):PQ:=fun x H=>wpEs Φ lo loc H (kT2 Φ hi loc x Q)
noncomputable def kRevL (Q:PQ) (H:Hp):List AV->Prop:=fun l=>l.length<=sizeLine/\Q (.ref H.length) (H++[.list l.reverse])
noncomputable def kRev (Q:PQ):PQ:=fun x H=>withL (seqL H x) (kRevL Q H)
noncomputable def kTup (Q:PQ):PL:=fun vs H=>vs.length<=sizeLine/\Q (.tup vs) H
noncomputable def kLst (Q:PQ):PL:=fun vs H=>vs.length<=sizeLine/\Q (.ref H.length) (H++[.list vs])
noncomputable def kD3 (n:Nat) (i:Int) (Q:PQ):PQ:=fun y H=>H[n]?=some (.dict [])/\Q (.ref n) (H.set n (.dict [(i,y)]))
noncomputable def kD2 (Φ:Fun) (v:ME) (loc:Loc) (n:Nat) (Q:PQ) (H:Hp):Int->Prop:=fun i=>wpE Φ v loc H (kD3 n i Q)
noncomputable def kD1 (Φ:Fun) (v:ME) (loc:Loc) (n:Nat) (Q:PQ):PQ:=fun x H=>asI x (kD2 Φ v loc n Q H)
noncomputable def kM2 (m:Mt) (x:AV) (Q:PQ):PL:=fun vs H=>wpMt m x vs H Q
noncomputable def kM1 (Φ:Fun) (m:Mt) (as:List ME) (loc:Loc) (Q:PQ):PQ:=fun x H=>isL H x/\wpEs Φ as loc H (kM2 m x Q)
noncomputable def kE2 (v:AV) (Q:PL):PL:=fun vs H=>Q (v::vs) H
noncomputable def kE1 (Φ:Fun) (es:List ME) (loc:Loc) (Q:PL):PQ:=fun v H=>wpEs Φ es loc H (kE2 v Q)
noncomputable def kCsB (Φ:Fun) (es:List ME) (loc:Loc) (K:Bool->Hp->Prop) (H:Hp):Bool->Prop:=fun b=>if b then wpCs Φ es loc H K else K false H
noncomputable def kCs (Φ:Fun) (es:List ME) (loc:Loc) (K:Bool->Hp->Prop):PQ:=fun v H=>asB v (kCsB Φ es loc K H)
noncomputable def kIt (k:IK) (K:KI):PL:=fun vs H=>wpIt k vs H K
noncomputable def atL (o:Option (Option AV)) (Q:PQ) (H:Hp):Prop:=match o with|some (some v)=>Q v H|_=>False
theorem atL.ex {o:Option (Option AV)}{Q:PQ}{H:Hp}(h:atL o Q H):∃ v,o=some (some v)/\Q v H:=by
 match o,h with
 | some (some v),h=>exact ⟨v,rfl,h⟩
noncomputable def compI (Φ:Fun) (t:Bool) (n:Nat) (elt:ME) (cond:List ME) (loc:Loc) (Q:PQ):KI:=fun items Cnd H₁=>items.length<=sizeLine/\∃ J:Nat->List AV->Hp->Prop,J 0 [] H₁/\∀ i l H',J i l H'->Cnd H' /\
   (∀ y,items[i]?=some y->∃ ws,unpack t n y=some ws/\wpCs Φ cond (loc++ws.map some) H' fun b H''=>if b then wpE Φ elt (loc++ws.map some) H'' fun v H3=>J (i+1) (l++[v]) H3 else J (i+1) l H'') /\
   (i=items.length->Q (.ref H'.length) (H'++[.list l]))
namespace ME
noncomputable def cst (v:AV):ME:=fun _ _ H Q=>Q v H
noncomputable def loc (i:Nat):ME:=fun _ loc H Q=>atL loc[i]? Q H
noncomputable def bin (op:BOp) (a b:ME):ME:=fun Φ loc H Q=>wpE Φ a loc H (kBin1 Φ op b loc Q)
noncomputable def cmp (op:COp) (a b:ME):ME:=fun Φ loc H Q=>wpE Φ a loc H (kCmp1 Φ op b loc Q)
noncomputable def cmp2 (o1 o2:COp) (a b c:ME):ME:=fun Φ loc H Q=>wpE Φ a loc H (kC1 Φ o1 o2 b c loc Q)
noncomputable def not (a:ME):ME:=fun Φ loc H Q=>wpE Φ a loc H (kNot Q)
noncomputable def neg (a:ME):ME:=fun Φ loc H Q=>wpE Φ a loc H (kNeg Q)
noncomputable def and2 (a b:ME):ME:=fun Φ loc H Q=>wpE Φ a loc H (kAnd Φ b loc Q)
noncomputable def or2 (a b:ME):ME:=fun Φ loc H Q=>wpE Φ a loc H (kOr Φ b loc Q)
noncomputable def call (f:Str) (as:List ME):ME:=fun Φ loc H Q=>wpEs Φ as loc H (kCall Φ f Q)
noncomputable def bi (f:Bi) (as:List ME):ME:=fun Φ loc H Q=>wpEs Φ as loc H (kBi f Q)
noncomputable def isi (a:ME) (t:Ty):ME:=fun Φ loc H Q=>wpE Φ a loc H (kIsi t Q)
noncomputable def idx (a b:ME):ME:=fun Φ loc H Q=>wpE Φ a loc H (kIdx1 Φ b loc Q)
noncomputable def slc (a:ME) (lo hi:List ME):ME:=fun Φ loc H Q=>wpE Φ a loc H (kS1 Φ lo hi loc Q)
noncomputable def slcT (a:ME) (lo hi:List ME):ME:=fun Φ loc H Q=>wpE Φ a loc H (kT1 Φ lo hi loc Q)
noncomputable def rev (a:ME):ME:=fun Φ loc H Q=>wpE Φ a loc H (kRev Q)
noncomputable def tup (es:List ME):ME:=fun Φ loc H Q=>wpEs Φ es loc H (kTup Q)
noncomputable def lst (es:List ME):ME:=fun Φ loc H Q=>wpEs Φ es loc H (kLst Q)
noncomputable def dic1 (k v:ME):ME:=fun Φ loc H Q=>wpE Φ k loc (H++[.dict []]) (kD1 Φ v loc H.length Q)
noncomputable def dic0:ME:=fun Φ loc H Q=>Q (.ref H.length) (H++[.dict []])
noncomputable def comp (t:Bool) (n:Nat) (elt:ME) (k:IK) (its cond:List ME):ME:=fun Φ loc H Q=>wpEs Φ its loc H (kIt k (compI Φ t n elt cond loc Q))
noncomputable def meth (m:Mt) (o:ME) (as:List ME):ME:=fun Φ loc H Q=>wpE Φ o loc H (kM1 Φ m as loc Q)
end ME
noncomputable def MS:Type:=Fun->Loc->Hp->PF->Prop
noncomputable def wpS (Φ:Fun) (m:MS) (loc:Loc) (H:Hp) (Q:PF):Prop:=m Φ loc H Q
noncomputable def seqF (Q:PF) (K:Loc->Hp->Prop):PF:=fun fl loc H=>match fl with|.next=>K loc H|.cont=>Q .cont loc H|.brk=>Q .brk loc H|.ret v=>Q (.ret v) loc H|.exc c=>Q (.exc c) loc H
noncomputable def wpSs (Φ:Fun):List MS->Loc->Hp->PF->Prop
 | [],loc,H,Q=>Q .next loc H
 | s::ss,loc,H,Q=>wpS Φ s loc H (seqF Q fun loc' H'=>wpSs Φ ss loc' H' Q)
noncomputable def thenS (Φ:Fun) (ss:List MS) (Q:PF):PF:=seqF Q fun loc' H'=>wpSs Φ ss loc' H' Q
noncomputable def kAsg (i:Nat) (loc:Loc) (Q:PF):PQ:=fun v H=>Q .next (loc.set i (some v)) H
noncomputable def kAsgTL (is:List Nat) (loc:Loc) (Q:PF) (H:Hp):List AV->Prop:=fun ws=>Q .next (setAll (is.zip ws) loc) H
noncomputable def kAsgT (is:List Nat) (loc:Loc) (Q:PF):PQ:=fun v H=>asT v is.length (kAsgTL is loc Q H)
noncomputable def kSto4 (loc:Loc) (Q:PF):Hp->Prop:=fun H=>Q .next loc H
noncomputable def kSto3 (x y:AV) (loc:Loc) (Q:PF):PQ:=fun z H=>wpSet y z x H (kSto4 loc Q)
noncomputable def kSto2 (Φ:Fun) (k:ME) (x:AV) (loc:Loc) (Q:PF):PQ:=fun y H=>wpE Φ k loc H (kSto3 x y loc Q)
noncomputable def kSto1 (Φ:Fun) (o k:ME) (loc:Loc) (Q:PF):PQ:=fun x H=>wpE Φ o loc H (kSto2 Φ k x loc Q)
noncomputable def kIteB (Φ:Fun) (a b:List MS) (loc:Loc) (Q:PF) (H:Hp):Bool->Prop:=fun c=>if c then wpSs Φ a loc H Q else wpSs Φ b loc H Q
noncomputable def kIte (Φ:Fun) (a b:List MS) (loc:Loc) (Q:PF):PQ:=fun v H=>asB v (kIteB Φ a b loc Q H)
noncomputable def kRet (loc:Loc) (Q:PF):PQ:=fun v H=>Q (.ret v) loc H
noncomputable def kExp (loc:Loc) (Q:PF):PQ:=fun _ H=>Q .next loc H
noncomputable def whlK (J:Nat->Loc->Hp->Prop) (n:Nat) (Q:PF):PF:=fun fl l H=>match fl with
 | .next=>∃ m,m<n/\J m l H
 | .cont=>∃ m,m<n/\J m l H
 | .brk=>Q .next l H
 | .ret v=>Q (.ret v) l H
 | .exc _=>False
noncomputable def kWhlB (Φ:Fun) (b:List MS) (J:Nat->Loc->Hp->Prop) (n:Nat) (loc:Loc) (Q:PF) (H:Hp):Bool->Prop:=fun c=>if c then wpSs Φ b loc H (whlK J n Q) else Q .next loc H
noncomputable def kWhl (Φ:Fun) (b:List MS) (J:Nat->Loc->Hp->Prop) (n:Nat) (loc:Loc) (Q:PF):PQ:=fun v H=>asB v (kWhlB Φ b J n loc Q H)
noncomputable def forK (J:Nat->Loc->Hp->Prop) (i:Nat) (Q:PF):PF:=fun fl l H=>match fl with
 | .next=>J (i+1) l H
 | .cont=>J (i+1) l H
 | .brk=>Q .next l H
 | .ret v=>Q (.ret v) l H
 | .exc _=>False
noncomputable def forI (Φ:Fun) (t:Bool) (is:List Nat) (b:List MS) (loc:Loc) (Q:PF):KI:=fun items Cnd H₁=>∃ J:Nat->Loc->Hp->Prop,J 0 loc H₁/\∀ i loc H,J i loc H->Cnd H /\
   (∀ y,items[i]?=some y->∃ ws,unpack t is.length y=some ws/\wpSs Φ b (setAll (is.zip ws) loc) H (forK J i Q)) /\
   (i=items.length->Q .next loc H)
namespace MS
noncomputable def asg (i:Nat) (e:ME):MS:=fun Φ loc H Q=>wpE Φ e loc H (kAsg i loc Q)
noncomputable def asgT (is:List Nat) (e:ME):MS:=fun Φ loc H Q=>wpE Φ e loc H (kAsgT is loc Q)
noncomputable def sto (o k e:ME):MS:=fun Φ loc H Q=>wpE Φ e loc H (kSto1 Φ o k loc Q)
noncomputable def ite (t:ME) (a b:List MS):MS:=fun Φ loc H Q=>wpE Φ t loc H (kIte Φ a b loc Q)
noncomputable def whl (t:ME) (b:List MS):MS:=fun Φ loc H Q=>∃ (J:Nat->Loc->Hp->Prop) (n:Nat),J n loc H/\∀ n loc H,J n loc H->wpE Φ t loc H (kWhl Φ b J n loc Q)
noncomputable def forr (t:Bool) (is:List Nat) (k:IK) (its:List ME) (b:List MS):MS:=fun Φ loc H Q=>wpEs Φ its loc H (kIt k (forI Φ t is b loc Q))
noncomputable def ret (e:ME):MS:=fun Φ loc H Q=>wpE Φ e loc H (kRet loc Q)
noncomputable def ret0:MS:=fun _ loc H Q=>Q (.ret .none) loc H
noncomputable def expr (e:ME):MS:=fun Φ loc H Q=>wpE Φ e loc H (kExp loc Q)
end MS
structure MF where
 params:Nat
 vars:Nat
 body:List MS
noncomputable def wpF (Φ:Fun) (f:MF) (args:List AV) (H:Hp) (Q:PQ):Prop :=
 args.length=f.params/\wpSs Φ f.body (args.map some++List.replicate (f.vars-f.params) none) H (endOf Q)
end Mine
namespace Mine
open PySem
noncomputable def slotB (C:Ctx) (i:Nat) (x:Str):Bool :=
 decide (C.ro<=i)&&(C.vars[i]? == some (some x))&&(C.vars.zipIdx.all fun p=>p.1 != some x||p.2 == i)&&(C.names.lookup x == some .local||C.names.lookup x == some .cell)
theorem Slot.of {C:Ctx}{i:Nat}{x:Str}(h:slotB C i x=true):Slot C i x:=by
 simp only [slotB,Bool.and_eq_true,decide_eq_true_eq,beq_iff_eq,List.all_eq_true,Bool.or_eq_true,bne_iff_ne,ne_eq] at h
 refine x0_2 (h) fun qQ0 h4=>?_
 clear h
 obtain ⟨⟨h1,h2⟩,h3⟩:=qQ0
 refine ⟨h1,h2,fun j hj=>?_,h4⟩
 have:=h3 (some x,j) (by rw [List.mk_mem_zipIdx_iff_getElem?];exact hj)
 simpa using this
structure GT where
 fns:List Str
 csts:List (Str×AV)
 /-- nothing is being handled where these defs run -/
 still:Bool
noncomputable def Bi.calm:Bi->Bool|.len=>true|.all=>true|.any=>true|.tuple=>true|.int=>true|_=>false
noncomputable def Bi.nm:Bi->Str|.len => "len" | .all => "all" | .any => "any" | .sorted => "sorted" | .list => "list" | .tuple => "tuple" | .int => "int" | .min => "min" | .max => "max"
noncomputable def Bi.val:Bi->Value|.len=>.builtin "len" | .all=>.builtin "all" | .any=>.builtin "any" | .sorted=>.builtin "sorted" | .list=>.type "list" | .tuple=>.type "tuple" | .int=>.type "int" | .min=>.builtin "min" | .max=>.builtin "max"
noncomputable def Ty.ps:Ty->Str|.int => "int" | .bool => "bool" | .str => "str" | .tuple => "tuple" | .list => "list"
noncomputable def Mt.nm:Mt->Str|.append => "append" | .pop => "pop" | .insert => "insert" | .extend => "extend" | .clear => "clear"
noncomputable def Mt.id:Mt->String|.append => "list.append" | .pop => "list.pop" | .insert => "list.insert" | .extend => "list.extend" | .clear => "list.clear"
inductive ITy where|range|revd|enum
noncomputable def ITy.ik:ITy->IK|.range=>.range|.revd=>.revd|.enum=>.enum
noncomputable def ITy.str:ITy->Str|.range => "range" | .revd => "reversed" | .enum => "enumerate"
noncomputable def ITy.nm:ITy->String|.range => "range" | .revd => "reversed" | .enum => "enumerate"
structure GOK (P:PEnv) (G:GT):Prop extends P.OK2 where
 quiet:G.still=true->P.hd=none
 fns:∀ x,G.fns.contains x=true->∃ fa o fd,P.mg x=some (.ref fa)/\P.B.get? fa=some o/\o.data=.func fd
 csts:∀ x v,G.csts.lookup x=some v->∃ u,P.mg x=some u/\∀ h ι,P.B.StaysIn h->VR P.B h ι v u
 blt:∀ b:Bi,P.mg b.nm=none/\P.mb b.nm=some b.val
 ty:∀ t:Ty,P.mg t.ps=none/\P.mb t.ps=some (.type t.nm)
 isi:P.mg "isinstance" = none/\P.mb "isinstance" = some (.builtin "isinstance")
 its:∀ t:ITy,P.mg t.str=none/\P.mb t.str=some (.type t.nm)
structure GN (C:Ctx) (x:Str):Prop where
 look:C.names.lookup x=some .globalImplicit
 dbg:(x == ("__debug__" : Str))=false
structure MethForm (o:Expr) (name:Str) (apos pos:Pos) (es:List Expr):Prop where
 he:∀ env,eval (.Call (.Attribute o name apos) es [] pos) env=(do
   let ov ←eval o env
   standAt apos.atName
   let (f,first) ←holding [ov] (getMethod ov name (do return (←importBound o env).getD true))
   callWith pos f first (backTo pos (starEach es env)) [])
noncomputable def FunOK (P:PEnv) (d:Nat) (Φ:Fun):Prop:=∀ f args H Q,Φ f args H Q->CallOK P d f args H Q XF
noncomputable def SndP (P:PEnv) (C:Ctx) (d:Nat) (e:Expr) (loc:Loc) (H:Hp) (Q:PQ):Prop :=
 EvOK P C d e loc H Q XF/\∀ K:Bool->Hp->Prop,(∀ v H',Q v H'->asB v fun b=>K b H')->TsOK P C d e loc H K XF
theorem SndP.plain {P:PEnv}{C:Ctx}{d:Nat}{e:Expr}{loc:Loc}{H:Hp}{Q:PQ}(ev:EvOK P C d e loc H Q XF) (ht:∀ env whole,isTrue e env whole=(do let v ←whole;standAt e.pos;holding [v] (truthy v))):SndP P C d e loc H Q :=
 ⟨ev,fun K hk=>ts_plain (ev.mono fun v H' q=>(hk v H' q).ex) ht⟩
structure CE (G:GT) (C:Ctx) (m:ME) (e:Expr):Prop where
 star:∀ rest env,starEach (e::rest) env=(false,eval e env)::starEach rest env
 marks:∀ op,behindInMarks op e=false
 folded:∀ env x,foldedSetIterable e env x=pure x
 snd:∀ {P d Φ},GOK P G->FunOK P d Φ->∀ {loc H Q},wpE Φ m loc H Q->SndP P C d e loc H Q
structure CEs (G:GT) (C:Ctx) (ms:List ME) (es:List Expr):Prop where
 plain:plainArgs es
 snd:∀ {P d Φ},GOK P G->FunOK P d Φ->∀ {loc H}{Q:PL},wpEs Φ ms loc H Q->EvsOK P C d es loc H Q XF
structure CO (G:GT) (C:Ctx) (ms:List ME) (o:Option Expr):Prop where
 snd:∀ {P d Φ},GOK P G->FunOK P d Φ->∀ {loc H}{Q:PL}{K:Option Int->Hp->Prop},wpEs Φ ms loc H Q->(∀ vs H',Q vs H'->∃ k,partOf vs=some k/\K k H')->evPart P C d o loc H K XF
noncomputable def IK.tt:IK->Bool
 | .enum=>true
 | _=>false
structure CI (G:GT) (C:Ctx) (k:IK) (ms:List ME) (e:Expr):Prop where
 folded:∀ env x,foldedSetIterable e env x=pure x
 snd:∀ {P d Φ},GOK P G->FunOK P d Φ->∀ {loc H}{K:KI},wpEs Φ ms loc H (kIt k K)->ItEv P k.tt C d e loc H K XF
structure CC (G:GT) (C:Ctx) (ms:List ME) (es:List Expr):Prop where
 snd:∀ {P d Φ},GOK P G->FunOK P d Φ->∀ {loc H}{K K':Bool->Hp->Prop},(∀ b H,K b H->K' b H)->wpCs Φ ms loc H K->CondOK P C d es loc H K'
structure CS (G:GT) (C:Ctx) (m:MS) (st:Stmt):Prop where
 snd:∀ {P d Φ},GOK P G->FunOK P d Φ->∀ {loc H}{Q:PF},wpS Φ m loc H Q->ExOK P C d st loc H Q
structure CSs (G:GT) (C:Ctx) (ms:List MS) (sts:List Stmt):Prop where
 snd:∀ {P d Φ},GOK P G->FunOK P d Φ->∀ {loc H}{Q:PF},wpSs Φ ms loc H Q->ExsOK P C d sts loc H Q
end Mine
namespace Mine
open PySem
variable {P:PEnv}{C:Ctx}{d:Nat}{loc:Loc}{H:Hp}{X:XP}
theorem EvOK.len {e:Expr}{Q:PQ}(h:loc.length=C.vars.length->EvOK P C d e loc H Q X):EvOK P C d e loc H Q X:=fun A E env ι s w r a=>h r.len A E env ι s w r a
theorem ExOK.len {e:Stmt}{Q:PF}(h:loc.length=C.vars.length->ExOK P C d e loc H Q):ExOK P C d e loc H Q:=fun A E env ι s w r=>h r.len A E env ι s w r
theorem idxL_ok {eo ei:Expr}{o:AV}{l:List AV}{k:Int}{Q:PQ}(ho:seqL H o=some l) (hh:idxL l k H Q):SubOK P d eo ei o (.int k) H Q:=by
 refine x0_2 (hh) fun h1 qQ1=>?_
 clear hh
 obtain ⟨j,z,hp,hz,q⟩:=qQ1
 unfold place at hp
 split at hp
 ·split at hp
  ·cases hp
   exact sub_list ho h1 (by assumption) hz q
  ·cases hp
 ·split at hp
  ·cases hp
   exact sub_listNeg ho h1 (by (first|lia|omega)) (by assumption) hz q
  ·cases hp
theorem wpIdx_ok {eo ei:Expr}{x y:AV}{Q:PQ}(h:wpIdx x y H Q):SubOK P d eo ei x y H Q:=by
 cases x with
 | ref i =>
  refine x1_2 (asI.ex h) fun k eQ1 g=>?_
  subst eQ1
  split at g
  ·rename_i hl;exact idxL_ok (by simp [seqL,hl]) g
  ·rename_i hl;obtain ⟨z,h1,h2⟩:=g;exact sub_dict hl h1 h2
  ·exact g.elim
 | tup l =>
  refine x1_3 (asI.ex h) fun k eQ1 h1 qQ3=>?_
  subst eQ1
  obtain ⟨j,z,hp,hz,q⟩:=qQ3
  exact sub_tup h1 hp hz q
 | fro l =>
  refine x1_2 (asI.ex h) fun k eQ1 nQ2=>?_
  subst eQ1
  revert nQ2
  intro h
  exact idxL_ok rfl h
 | _=>exact h.elim
theorem OpOK.mono {t:List Value->Sem Value}{args:List AV}{Q Q':PQ}(h:OpOK P d t args H Q) (q:∀ a H',Q a H'->Q' a H'):OpOK P d t args H Q' :=
 fun A E ι s vs w r=>wpAny_mono (h A E ι s vs w r) (fun _ _ g=>g.mono q) fun _ _ x=>x
noncomputable def Bi.call (f:Bi) (vs:List Value):Sem Value:=PySem.call f.val vs
theorem wpLen_ok (ok:P.OK2){x:AV}{Q:PQ}(h:wpLen x H Q):OpOK P d (fun us=>Bi.len.call us) [x] H Q:=by
 cases x with
 | ref i =>
  simp only [wpLen] at h
  split at h
  ·rename_i hl;exact fn_lenL (by simp [seqL,hl]) h.1 h.2
  ·rename_i hl;exact fn_lenD ok hl h.1 h.2
  ·exact h.elim
 | tup l=>exact fn_lenT h.1 h.2
 | fro l=>exact fn_lenL rfl h.1 h.2
 | _=>exact h.elim
theorem wpMm.ex {vs:List AV}{K:Int->Int->Prop}(h:wpMm vs K):∃ a b,vs=[.int a,.int b]/\K a b:=by
 match vs,h with
 | [.int a,.int b],h=>exact ⟨a,b,rfl,h⟩
theorem wpBi_ok (ok:P.OK2){f:Bi}(st:f.calm=true\/P.hd=none){vs:List AV}{Q:PQ}(h:wpBi f vs H Q):OpOK P d (fun us=>f.call us) vs H Q:=by
 cases f with
 | len=>obtain ⟨x,rfl,h⟩:=as1.ex h;exact wpLen_ok ok h
 | all=>obtain ⟨x,rfl,bs,h1,h2⟩:=as1.ex h;exact fn_all h1 h2
 | any=>obtain ⟨x,rfl,bs,h1,h2⟩:=as1.ex h;exact fn_any h1 h2
 | list =>
  refine x1_2 (as1.ex h) fun x eQ1 nQ2=>?_
  subst eQ1
  revert nQ2
  intro h
  refine x1_3 (withL.ex h) fun l h1 h2 h3=>?_
  cases x with
  | ref i =>
   cases hi:H[i]? with
   | none=>simp [lstL,hi] at h1
   | some o =>
    cases o with
    | list m=>exact fn_listOf (.inl (by simp [lstL,hi] at h1;simp [seqL,hi,h1])) h2 h3
    | dict m =>
     have:(m.map (·.1)).map AV.int=l:=by simpa [lstL,hi] using h1
     subst this
     exact fn_listD (st.resolve_left (fun z=>nomatch z)) hi (by simpa using h2) h3
  | tup m=>exact fn_listOf (.inr (by rw [Option.some.inj (show some m=some l from h1)])) h2 h3
  | fro m=>exact fn_listOf (.inl h1) h2 h3
  | _=>exact fn_listOf (.inl h1) h2 h3
 | tuple =>
  refine x1_2 (as1.ex h) fun x eQ1 nQ2=>?_
  subst eQ1
  revert nQ2
  intro h
  refine x1_3 (withL.ex h) fun l h1 h2 h3=>?_
  exact fn_tupleOf h1 h2 h3
 | int =>
  refine x1_2 (as1.ex h) fun x eQ1 nQ2=>?_
  subst eQ1
  revert nQ2
  intro h
  refine x1_2 (asB.ex h) fun b eQ1 nQ2=>?_
  subst eQ1
  revert nQ2
  intro h
  exact fn_intB h
 | min=>obtain ⟨a,b,rfl,h⟩:=wpMm.ex h;exact fn_min (st.resolve_left (fun z=>nomatch z)) h
 | max=>obtain ⟨a,b,rfl,h⟩:=wpMm.ex h;exact fn_max (st.resolve_left (fun z=>nomatch z)) h
 | sorted =>
  refine x1_2 (as1.ex h) fun x eQ1 qQ2=>?_
  subst eQ1
  obtain ⟨ns,h1,h2,h3⟩:=qQ2
  rcases h1 with h1|⟨i,l,rfl,h1,rfl⟩
  ·exact fn_sortedL h1 h2 h3
  ·exact fn_sortedD (st.resolve_left (fun z=>nomatch z)) h1 (by simpa using h2) h3
theorem wpPop.ex {vs:List AV}{K0:Prop}{K1:Int->Prop}(h:wpPop vs K0 K1):(vs=[]/\K0)\/∃ k,vs=[.int k]/\K1 k:=by
 cases vs with
 | nil=>exact .inl ⟨rfl,h⟩
 | cons x r =>
  cases r with
  | nil=>cases x<;>first|exact (show False from h).elim|exact .inr ⟨_,rfl,h⟩
  | cons y r=>cases x<;>exact (show False from h).elim
theorem wpIns.ex {vs:List AV}{K:Int->AV->Prop}(h:wpIns vs K):∃ k x,vs=[.int k,x]/\K k x:=by
 cases vs with
 | nil=>exact (show False from h).elim
 | cons x r =>
  cases r with
  | nil=>cases x<;>exact (show False from h).elim
  | cons y r =>
   cases r with
   | nil=>cases x<;>first|exact (show False from h).elim|exact ⟨_,_,rfl,h⟩
   | cons z r=>cases x<;>exact (show False from h).elim
theorem wpMt_ok {m:Mt}{x:AV}{vs:List AV}{Q:PQ}(h:wpMt m x vs H Q):OpOK P d (fun us=>PySem.call (.builtin m.id) us) (x::vs) H Q:=by
 refine x2_3 (onL.ex h) fun i l eQ2 hl nQ4=>?_
 subst eQ2
 revert nQ4
 intro h
 cases m with
 | append=>obtain ⟨x,rfl,h⟩:=as1.ex h;exact fn_append hl h.1 h.2
 | pop =>
  rcases wpPop.ex h with ⟨rfl,h1,l',x,rfl,q⟩|⟨k,rfl,h1,h2,h3,x,h4,q⟩
  ·exact fn_pop hl (by simpa using h1) q
  ·exact fn_popAt hl h1 h2 h3 h4 q
 | insert =>
  refine x2_5 (wpIns.ex h) fun k x eQ2 h1 h2 h3 q=>?_
  subst eQ2
  exact fn_insert hl h1 h2 h3 q
 | extend =>
  refine x1_2 (as1.ex h) fun y eQ1 nQ2=>?_
  subst eQ1
  revert nQ2
  intro h
  refine x2_4 (onL.ex h) fun j m eQ2 h1 h2 q=>?_
  subst eQ2
  exact fn_extend hl h1 h2 q
 | clear=>obtain ⟨rfl,h1,q⟩:=h;exact fn_clear hl h1 q
theorem meth_mt {i:Nat}{l:List AV}(m:Mt) (hi:H[i]?=some (.list l)):MethIs P (.ref i) H m.nm m.id:=by
 cases m
 ·exact meth_list hi PySem.F.slot_list_append.lookup PySem.F.type_list_append
 ·exact meth_list hi PySem.F.slot_list_pop.lookup PySem.F.type_list_pop
 ·exact meth_list hi PySem.F.slot_list_insert.lookup PySem.F.type_list_insert
 ·exact meth_list hi PySem.F.slot_list_extend.lookup PySem.F.type_list_extend
 ·exact meth_list hi PySem.F.slot_list_clear.lookup PySem.F.type_list_clear
theorem wpSet_ok {o k x:AV}{K:Hp->Prop}(h:wpSet o k x H K):SetOK P d o k x H K:=by
 cases o with
 | ref i =>
  refine x1_2 (asI.ex h) fun k eQ1 g=>?_
  subst eQ1
  split at g
  ·rename_i hl;exact set_list hl g.1 g.2.1 g.2.2.1 g.2.2.2
  ·rename_i hl;exact set_dict hl g.1 g.2
  ·exact g.elim
 | _=>exact h.elim
theorem setAll_at {L:Loc}:∀ {ws:List AV}{cv:Loc},cv.length=ws.length->setAll (((List.range ws.length).map (L.length+·)).zip ws) (L++cv)=L++ws.map some:=by
 have key:∀ (ws:List AV) (pre:Loc) (cv:Loc),cv.length=ws.length->setAll (((List.range ws.length).map (pre.length+·)).zip ws) (pre++cv)=pre++ws.map some:=by
  intro ws
  induction ws with
  | nil=>intro pre cv h;have:cv=[]:=List.length_eq_zero_iff.mp h;subst this;rfl
  | cons w ws ih =>
   intro pre cv h
   cases cv with
   | nil=>simp at h
   | cons c cv =>
    have e1:(List.range (w::ws).length).map (pre.length+·)=pre.length::(List.range ws.length).map ((pre++[some w]).length+·):=by
     rw [List.length_cons,List.range_succ_eq_map]
     simp only [List.map_cons,Nat.add_zero,List.map_map,List.cons.injEq,true_and]
     apply List.map_congr_left
     intro a _
     simp only [Function.comp,List.length_append,List.length_cons,List.length_nil]
     (first|lia|omega)
    rw [e1]
    show setAll (((List.range ws.length).map ((pre++[some w]).length+·)).zip ws) ((pre++c::cv).set pre.length (some w))=_
    have e2:(pre++c::cv).set pre.length (some w)=(pre++[some w])++cv:=by
     rw [List.set_append_right _ _ (Nat.le_refl _)];simp
    rw [e2,ih (pre++[some w]) cv (by simpa using h)]
    simp
 intro ws cv h
 exact key ws L cv h
end Mine
namespace Mine
open PySem
set_option maxHeartbeats 4000000
variable {P:PEnv}{d:Nat}{G:GT}{Φ:Fun}{C:Ctx}
theorem ts_and1 {e:Expr}{pos:Pos}{loc:Loc}{H:Hp}{K:Bool->Hp->Prop}(h:TsOK P C d e loc H K XF):TsOK P C d (.BoolOp .And [e] pos) loc H K XF :=
 ts_and (h.mono fun b H' k=>by cases b with|false=>exact k|true=>exact ts_and_nil k)
theorem ts_or1 {e:Expr}{pos:Pos}{loc:Loc}{H:Hp}{K:Bool->Hp->Prop}(h:TsOK P C d e loc H K XF):TsOK P C d (.BoolOp .Or [e] pos) loc H K XF :=
 ts_or (h.mono fun b H' k=>by cases b with|true=>exact k|false=>exact ts_or_nil k)
theorem it_plain {x:AV}{H:Hp}{K:KI}(h:wpPlain x H K):∃ items Cnd,ItOK P x H items Cnd/\K items Cnd H:=by
 cases x with
 | ref i=>obtain ⟨l,h1,h2⟩:=withL.ex h;exact ⟨_,_,it_list (lstAt_some h1),h2⟩
 | fro l=>exact ⟨_,_,it_fro,h⟩
 | tup l=>exact ⟨_,_,it_tup,h⟩
 | str x=>exact ⟨_,_,it_str h.1,h.2⟩
 | _=>exact h.elim
theorem it_ty (st:P.hd=none){t:ITy}{vs:List AV}{H:Hp}{K:KI}(h:wpIt t.ik vs H K):ItCall P t.ik.tt d (fun us=>PySem.call (.type t.nm) us) vs H K:=by
 cases t with
 | range =>
  match vs,h with
  | [.int n],h=>exact it_range1 st h.1 h.2.1 h.2.2
  | [.int a,.int b],h=>exact it_range2 st h.1 h.2.1 h.2.2.1 h.2.2.2.1 h.2.2.2.2
 | revd =>
  refine x1_2 (as1.ex h) fun x eQ1 nQ2=>?_
  subst eQ1
  revert nQ2
  intro h
  refine x2_3 (onL.ex h) fun i l eQ2 h1 h2=>?_
  subst eQ2
  exact it_rev st h1 h2
 | enum =>
  refine x1_2 (as1.ex h) fun x eQ1 nQ2=>?_
  subst eQ1
  revert nQ2
  intro h
  cases x with
  | ref i=>exact (withL.ex h).elim fun l z=>it_enumL st (lstAt_some z.1) z.2
  | tup l=>exact it_enumT st h
  | _=>exact h.elim
theorem CEs.nil:CEs G C [] []:=⟨fun _ _=>rfl,fun ok hΦ _ _ _ w=>evs_nil w⟩
theorem CEs.cons {a:ME}{as:List ME}{x:Expr}{xs:List Expr}(hx:CE G C a x) (hs:CEs G C as xs):CEs G C (a::as) (x::xs) :=
 ⟨fun env pos=>by rw [hx.star];have:=hs.plain env pos;simpa [backTo] using this,
  fun ok hΦ _ _ _ w=>evs_cons ((hx.snd ok hΦ (Q:=fun v H'=>wpEs _ as _ H' fun vs H''=>_) w).1.mono fun v H' w=>hs.snd ok hΦ w) fun env=>hx.star _ env⟩
theorem CO.none:CO G C [] none:=⟨fun ok hΦ _ _ _ _ w hk=>by
 refine x1_2 (hk [] _ w) fun k h1 h2=>?_
 cases h1
 exact h2⟩
theorem CO.some {a:ME}{x:Expr}(hx:CE G C a x):CO G C [a] (some x):=⟨fun ok hΦ _ _ _ _ w hk=>by
 refine (hx.snd ok hΦ w).1.mono fun v H' q=>?_
 refine x1_2 (hk _ _ q) fun k h1 h2=>?_
 cases v with
 | int i=>cases h1;exact ⟨i,rfl,h2⟩
 | _=>cases h1⟩
theorem CI.plain {a:ME}{x:Expr}(hx:CE G C a x):CI G C .plain [a] x :=
 ⟨hx.folded,fun ok hΦ _ _ _ w=>itEv_of ((hx.snd ok hΦ w).1.mono fun x H₁ w=>it_plain w)⟩
theorem CI.ty {a:ME}{as:List ME}{x:Expr}{xs:List Expr}{pn pos:Pos}{t:ITy}(st:G.still=true) (gn:GN C t.str) (hx:CE G C a x) (hs:CEs G C as xs):CI G C t.ik (a::as) (.Call (.Name t.str pn) (x::xs) [] pos) :=
 ⟨fun _ _=>rfl,fun ok hΦ _ _ _ w=>itEv_ty ok.toOK gn.look gn.dbg (ok.its t).1 (ok.its t).2 (((CEs.cons hx hs).snd ok hΦ w).mono fun vs H'' w=>it_ty (ok.quiet st) w) (fun env=>hx.star _ env) hs.plain⟩
theorem CC.nil:CC G C [] []:=⟨fun ok hΦ _ _ _ _ hk w=>hk _ _ w⟩
theorem CC.one {a:ME}{x:Expr}(hx:CE G C a x):CC G C [a] [x]:=⟨fun ok hΦ _ _ _ _ hk w=>by
 refine (hx.snd ok hΦ w).2 _ fun v H' q=>?_
 refine x1_2 (asB.ex q) fun b eQ1 nQ2=>?_
 subst eQ1
 revert nQ2
 intro q
 cases b with
 | false=>exact hk _ _ q
 | true=>exact hk _ _ q⟩
namespace CE
theorem int {i:Int}{k:Nat}{pos:Pos}:CE G C (.cst (.int i)) (.Constant (.int i) k pos):=⟨fun _ _=>rfl,fun _=>rfl,fun _ _=>rfl,fun ok hΦ _ _ _ w=>.plain (ev_int w) fun _ _=>rfl⟩
theorem str {x:Str}{k:Nat}{pos:Pos}(hx:PyData.strOk x=true):CE G C (.cst (.str x)) (.Constant (.str x) k pos):=⟨fun _ _=>rfl,fun _=>rfl,fun _ _=>rfl,fun ok hΦ _ _ _ w=>.plain (ev_str hx w) fun _ _=>rfl⟩
theorem bool {x:Bool}{k:Nat}{pos:Pos}:CE G C (.cst (.bool x)) (.Constant (.bool x) k pos):=⟨fun _ _=>rfl,fun _=>rfl,fun _ _=>rfl,fun ok hΦ _ _ _ w=>.plain (ev_bool w) fun _ _=>rfl⟩
theorem glob {x:Str}{v:AV}{pos:Pos}(hg:G.csts.lookup x=some v) (gn:GN C x):CE G C (.cst v) (.Name x pos):=⟨fun _ _=>rfl,fun _=>rfl,fun _ _=>rfl,fun ok hΦ _ _ _ w=>by
 refine x1_2 (ok.csts _ _ hg) fun u h1 h2=>?_
 exact .plain (ev_glob ok.toOK gn.dbg h1 h2 w gn.look) fun _ _=>rfl⟩
theorem loc {i:Nat}{x:Str}{pos:Pos}(h1:C.vars[i]?=some (some x)) (h2:(x == ("__debug__" : Str))=false) (h3:(x == ("__classdict__" : Str))=false):CE G C (.loc i) (.Name x pos):=⟨fun _ _=>rfl,fun _=>rfl,fun _ _=>rfl,fun ok hΦ _ _ _ w=>by
 refine x1_2 (atL.ex w) fun v hv q=>?_
 exact .plain (ev_loc h1 h2 h3 hv q) fun _ _=>rfl⟩
section
variable {a b c:ME}{x y z:Expr}{pos:Pos}
theorem bin {op:BOp}(ha:CE G C a x) (hb:CE G C b y):CE G C (.bin op a b) (.BinOp x op.op y pos):=⟨fun _ _=>rfl,fun _=>rfl,fun _ _=>rfl,fun ok hΦ _ _ _ w =>
 .plain (ev_bin ((ha.snd ok hΦ w).1.mono fun x H₁ w=>(hb.snd ok hΦ w).1.mono fun y H₂ w=>wpBin_ok w)) fun _ _=>rfl⟩
theorem cmp {op:COp}(ha:CE G C a x) (hb:CE G C b y):CE G C (.cmp op a b) (.Compare x [op.op] [y] pos):=⟨fun _ _=>rfl,fun _=>rfl,fun _ _=>rfl,fun ok hΦ _ _ _ w =>
 ⟨ev_cmp ((ha.snd ok hΦ w).1.mono fun x H₁ w=>(hb.snd ok hΦ w).1.mono fun y H₂ w=>wpCmp_ok ok.toOK2 w) (hb.marks _),
  fun K hk=>ts_cmp ((ha.snd ok hΦ w).1.mono fun x H₁ w=>(hb.snd ok hΦ w).1.mono fun y H₂ w=>OpOK.mono (wpCmp_ok ok.toOK2 w) fun v H' q=>(hk v H' q).ex) (hb.marks _)⟩⟩
theorem cmp2 {o1 o2:COp}(ha:CE G C a x) (hb:CE G C b y) (hc:CE G C c z):CE G C (.cmp2 o1 o2 a b c) (.Compare x [o1.op,o2.op] [y,z] pos):=⟨fun _ _=>rfl,fun _=>rfl,fun _ _=>rfl,fun ok hΦ _ _ _ w=>by
 refine ⟨?_,fun K hk=>?_⟩
 ·refine ev_cmp2 ((ha.snd ok hΦ w).1.mono fun x H₁ w=>(hb.snd ok hΦ w).1.mono fun y H₂ w=>OpOK.mono (wpCmp_ok ok.toOK2 w) fun v H' q=>?_) (hc.marks _)
  refine x1_2 (asB.ex q) fun t eQ1 nQ2=>?_
  subst eQ1
  revert nQ2
  intro q
  refine ⟨t,rfl,?_⟩
  cases t with
  | false=>exact q
  | true=>exact (hc.snd ok hΦ q).1.mono fun z H₄ w=>wpCmp_ok ok.toOK2 w
 ·refine ts_cmp2 ((ha.snd ok hΦ w).1.mono fun x H₁ w=>(hb.snd ok hΦ w).1.mono fun y H₂ w=>OpOK.mono (wpCmp_ok ok.toOK2 w) fun v H' q=>?_) (hc.marks _)
  refine x1_2 (asB.ex q) fun t eQ1 nQ2=>?_
  subst eQ1
  revert nQ2
  intro q
  refine ⟨t,rfl,?_⟩
  cases t with
  | false=>exact hk _ _ q
  | true=>exact (hc.snd ok hΦ q).1.mono fun z H₄ w=>OpOK.mono (wpCmp_ok ok.toOK2 w) fun v H' q=>(hk v H' q).ex⟩
theorem not (ha:CE G C a x):CE G C (.not a) (.UnaryOp .Not x pos):=⟨fun _ _=>rfl,fun _=>rfl,fun _ _=>rfl,fun ok hΦ _ _ _ w =>
 ⟨ev_not ((ha.snd ok hΦ w).1.mono fun v H' q=>asB.ex q),fun K hk=>ts_not ((ha.snd ok hΦ w).2 _ fun v H' q=>by
  refine x1_2 (asB.ex q) fun b eQ1 nQ2=>?_
  subst eQ1
  revert nQ2
  intro q
  exact hk _ _ q)⟩⟩
theorem and2 (ha:CE G C a x) (hb:CE G C b y):CE G C (.and2 a b) (.BoolOp .And [x,y] pos):=⟨fun _ _=>rfl,fun _=>rfl,fun _ _=>rfl,fun ok hΦ _ _ _ w=>by
 refine ⟨ev_and ((ha.snd ok hΦ w).1.mono fun v H' w=>?_),fun K hk=>ts_and ((ha.snd ok hΦ w).2 _ fun v H' w=>?_)⟩
 ·refine x1_2 (asB.ex w) fun t eQ1 nQ2=>?_
  subst eQ1
  revert nQ2
  intro w
  refine ⟨t,rfl,?_⟩
  cases t with
  | false=>exact w
  | true=>exact ev_bool1 (hb.snd ok hΦ w).1
 ·refine x1_2 (asB.ex w) fun t eQ1 nQ2=>?_
  subst eQ1
  revert nQ2
  intro w
  show (if t then _ else _)
  cases t with
  | false=>exact hk _ _ w
  | true=>exact ts_and1 ((hb.snd ok hΦ w).2 K hk)⟩
theorem or2 (ha:CE G C a x) (hb:CE G C b y):CE G C (.or2 a b) (.BoolOp .Or [x,y] pos):=⟨fun _ _=>rfl,fun _=>rfl,fun _ _=>rfl,fun ok hΦ _ _ _ w=>by
 refine ⟨ev_or ((ha.snd ok hΦ w).1.mono fun v H' w=>?_),fun K hk=>ts_or ((ha.snd ok hΦ w).2 _ fun v H' w=>?_)⟩
 ·refine x1_2 (asB.ex w) fun t eQ1 nQ2=>?_
  subst eQ1
  revert nQ2
  intro w
  refine ⟨t,rfl,?_⟩
  cases t with
  | true=>exact w
  | false=>exact ev_bool1 (hb.snd ok hΦ w).1
 ·refine x1_2 (asB.ex w) fun t eQ1 nQ2=>?_
  subst eQ1
  revert nQ2
  intro w
  show (if t then _ else _)
  cases t with
  | true=>exact hk _ _ w
  | false=>exact ts_or1 ((hb.snd ok hΦ w).2 K hk)⟩
theorem and3 {r:List Expr}(ha:CE G C a x) (hb:CE G C b (.BoolOp .And (y::z::r) pos)):CE G C (.and2 a b) (.BoolOp .And (x::y::z::r) pos):=⟨fun _ _=>rfl,fun _=>rfl,fun _ _=>rfl,fun ok hΦ _ _ _ w=>by
 refine ⟨ev_and ((ha.snd ok hΦ w).1.mono fun v H' w=>?_),fun K hk=>ts_and ((ha.snd ok hΦ w).2 _ fun v H' w=>?_)⟩
 ·refine x1_2 (asB.ex w) fun t eQ1 nQ2=>?_
  subst eQ1
  revert nQ2
  intro w
  refine ⟨t,rfl,?_⟩
  cases t with
  | false=>exact w
  | true=>exact (hb.snd ok hΦ w).1
 ·refine x1_2 (asB.ex w) fun t eQ1 nQ2=>?_
  subst eQ1
  revert nQ2
  intro w
  show (if t then _ else _)
  cases t with
  | false=>exact hk _ _ w
  | true=>exact (hb.snd ok hΦ w).2 K hk⟩
theorem or3 {r:List Expr}(ha:CE G C a x) (hb:CE G C b (.BoolOp .Or (y::z::r) pos)):CE G C (.or2 a b) (.BoolOp .Or (x::y::z::r) pos):=⟨fun _ _=>rfl,fun _=>rfl,fun _ _=>rfl,fun ok hΦ _ _ _ w=>by
 refine ⟨ev_or ((ha.snd ok hΦ w).1.mono fun v H' w=>?_),fun K hk=>ts_or ((ha.snd ok hΦ w).2 _ fun v H' w=>?_)⟩
 ·refine x1_2 (asB.ex w) fun t eQ1 nQ2=>?_
  subst eQ1
  revert nQ2
  intro w
  refine ⟨t,rfl,?_⟩
  cases t with
  | true=>exact w
  | false=>exact (hb.snd ok hΦ w).1
 ·refine x1_2 (asB.ex w) fun t eQ1 nQ2=>?_
  subst eQ1
  revert nQ2
  intro w
  show (if t then _ else _)
  cases t with
  | true=>exact hk _ _ w
  | false=>exact (hb.snd ok hΦ w).2 K hk⟩
theorem call {f:Str}{as:List ME}{xs:List Expr}{pn:Pos}(hf:G.fns.contains f=true) (gn:GN C f) (hx:CE G C a x) (hs:CEs G C as xs):CE G C (.call f (a::as)) (.Call (.Name f pn) (x::xs) [] pos):=⟨fun _ _=>rfl,fun _=>rfl,fun _ _=>rfl,fun ok hΦ _ _ _ w=>by
 refine x3_3 (ok.fns _ hf) fun fa o fd h1 h2 h3=>?_
 exact .plain (ev_call ok.toOK gn.look gn.dbg h1 h2 h3 (((CEs.cons hx hs).snd ok hΦ w).mono fun vs H' w=>hΦ _ _ _ _ w) fun env=>hx.star _ env) fun _ _=>rfl⟩
theorem bi {as:List ME}{xs:List Expr}{pn:Pos}{f:Bi}(st:f.calm=true\/G.still=true) (gn:GN C f.nm) (hx:CE G C a x) (hs:CEs G C as xs):CE G C (.bi f (a::as)) (.Call (.Name f.nm pn) (x::xs) [] pos):=⟨fun _ _=>rfl,fun _=>rfl,fun _ _=>rfl,fun {P d Φ} ok hΦ _ _ _ w=>by
 refine x0_2 (ok.blt f) fun h1 h2=>?_
 have hev:=((CEs.cons hx hs).snd ok hΦ w).mono fun vs H' w=>wpBi_ok (P:=P) (d:=d) ok.toOK2 (st.imp id ok.quiet) w
 refine .plain ?_ fun _ _=>rfl
 cases f
 ·exact ev_bi ok.toOK gn.look gn.dbg h1 h2 hev (fun env=>hx.star _ env) hs.plain
 ·exact ev_bi ok.toOK gn.look gn.dbg h1 h2 hev (fun env=>hx.star _ env) hs.plain
 ·exact ev_bi ok.toOK gn.look gn.dbg h1 h2 hev (fun env=>hx.star _ env) hs.plain
 ·exact ev_bi ok.toOK gn.look gn.dbg h1 h2 hev (fun env=>hx.star _ env) hs.plain
 ·exact ev_ty ok.toOK gn.look gn.dbg h1 h2 hev (fun env=>hx.star _ env) hs.plain
 ·exact ev_ty ok.toOK gn.look gn.dbg h1 h2 hev (fun env=>hx.star _ env) hs.plain
 ·exact ev_ty ok.toOK gn.look gn.dbg h1 h2 hev (fun env=>hx.star _ env) hs.plain
 ·exact ev_bi ok.toOK gn.look gn.dbg h1 h2 hev (fun env=>hx.star _ env) hs.plain
 ·exact ev_bi ok.toOK gn.look gn.dbg h1 h2 hev (fun env=>hx.star _ env) hs.plain⟩
theorem isi {pn pt:Pos}{t:Ty}(gn:GN C "isinstance") (gt:GN C t.ps) (hx:CE G C a x):CE G C (.isi a t) (.Call (.Name "isinstance" pn) [x,.Name t.ps pt] [] pos):=⟨fun _ _=>rfl,fun _=>rfl,fun _ _=>rfl,fun ok hΦ _ _ _ w =>
 .plain (ev_isi ok.toOK gn.look gn.dbg ok.isi.1 ok.isi.2 gt.look gt.dbg (.inr (ok.ty t)) ((hx.snd ok hΦ w).1.mono fun v H' w=>isi_ok w) fun env=>hx.star _ env) fun _ _=>rfl⟩
theorem idx (ha:CE G C a x) (hb:CE G C b y):CE G C (.idx a b) (.Subscript x y pos):=⟨fun _ _=>rfl,fun _=>rfl,fun _ _=>rfl,fun ok hΦ _ _ _ w =>
 .plain (ev_sub ((ha.snd ok hΦ w).1.mono fun x H₁ w=>(hb.snd ok hΦ w).1.mono fun y H₂ w=>wpIdx_ok w)) fun _ _=>rfl⟩
theorem slc {p:Pos}{lo hi:List ME}{l h:Option Expr}(ha:CE G C a x) (hl:CO G C lo l) (hh:CO G C hi h):CE G C (.slc a lo hi) (.Subscript x (.Slice l h .none p) pos):=⟨fun _ _=>rfl,fun _=>rfl,fun _ _=>rfl,fun ok hΦ _ _ _ w=>by
 refine .plain (ev_slice ((ha.snd ok hΦ w).1.mono fun x H₁ w=>?_)) fun _ _=>rfl
 refine hl.snd ok hΦ w fun us H₂ w=>?_
 refine x1_3 (withP.ex w) fun ka h1 h2 w=>?_
 refine ⟨ka,h1,hh.snd ok hΦ w fun vs H₃ w=>?_⟩
 refine x1_3 (withP.ex w) fun kb h3 h4 w=>?_
 refine x1_3 (withL.ex w) fun l h5 h6 q=>?_
 exact ⟨kb,h3,l,h5,h6,h2,h4,q⟩⟩
theorem tup {as:List ME}{xs:List Expr}{k:Nat}(hs:CEs G C as xs):CE G C (.tup as) (.Tuple xs k pos):=⟨fun _ _=>rfl,fun _=>rfl,fun _ _=>rfl,fun ok hΦ _ _ _ w=>.plain (ev_tup (hs.snd ok hΦ w)) fun _ _=>rfl⟩
theorem lst {as:List ME}{xs:List Expr}(hs:CEs G C as xs):CE G C (.lst as) (.List xs pos):=⟨fun _ _=>rfl,fun _=>rfl,fun _ _=>rfl,fun ok hΦ _ _ _ w=>.plain (ev_lst (hs.snd ok hΦ w)) fun _ _=>rfl⟩
theorem dic0:CE G C .dic0 (.Dict [] [] pos):=⟨fun _ _=>rfl,fun _=>rfl,fun _ _=>rfl,fun ok hΦ _ _ _ w=>.plain (ev_dic0 ok.toOK2 w) fun _ _=>rfl⟩
theorem meth0 {m:Mt}{apos:Pos}(ho:CE G C a x) (hf:MethForm x m.nm apos pos []):CE G C (.meth m a []) (.Call (.Attribute x m.nm apos) [] [] pos):=⟨fun _ _=>rfl,fun _=>rfl,fun _ _=>rfl,fun ok hΦ _ _ _ w=>by
 refine .plain (ev_meth0 (pl:=fun env=>do return (←importBound _ env).getD true) ((ho.snd ok hΦ w).1.mono fun x H₁ w=>?_) hf.he) fun _ _=>rfl
 refine x0_2 (w) fun qQ0 nQ1=>?_
 clear w
 obtain ⟨i,l,rfl,hl⟩:=qQ0
 revert nQ1
 intro w
 exact ⟨m.id,meth_mt m hl,wpMt_ok w⟩⟩
theorem meth {m:Mt}{apos:Pos}{as:List ME}{xs:List Expr}(ho:CE G C a x) (hx:CE G C b y) (hs:CEs G C as xs) (hf:MethForm x m.nm apos pos (y::xs)):CE G C (.meth m a (b::as)) (.Call (.Attribute x m.nm apos) (y::xs) [] pos):=⟨fun _ _=>rfl,fun _=>rfl,fun _ _=>rfl,fun ok hΦ _ _ _ w=>by
 refine .plain (ev_meth (pl:=fun env=>do return (←importBound _ env).getD true) ((ho.snd ok hΦ w).1.mono fun x H₁ w=>?_) hf.he (fun env=>hx.star _ env) hs.plain) fun _ _=>rfl
 refine x0_2 (w) fun qQ0 nQ1=>?_
 clear w
 obtain ⟨i,l,rfl,hl⟩:=qQ0
 revert nQ1
 intro w
 exact ⟨m.id,meth_mt m hl,((CEs.cons hx hs).snd ok hΦ w).mono fun vs H₂ w=>wpMt_ok w⟩⟩
end
end CE
noncomputable def TgtOK (C:Ctx) (t:Bool) (n:Nat) (scope:Scope) (locals:List Str) (xt:Expr):Prop :=
 locals.length=n/\∀ {P:PEnv}{y:AV}{ws:List AV}{loc cv:Loc}{K:Loc->Prop},unpack t n y=some ws->loc.length=C.vars.length->cv.length=locals.length->K (loc++ws.map some)->ws.length=locals.length/\TgOK P (compCtx C scope locals) xt y (loc++cv) K
theorem unpack_false {n:Nat}{y:AV}{ws:List AV}(h:unpack false n y=some ws):n=1/\ws=[y]:=by
 unfold unpack at h
 simp only at h
 split at h
 ·cases h;exact ⟨by assumption,rfl⟩
 ·cases h
theorem unpack_true {n:Nat}{y:AV}{ws:List AV}(h:unpack true n y=some ws):y=.tup ws/\ws.length=n:=by
 unfold unpack at h
 simp only at h
 split at h
 ·split at h
  ·cases h;exact ⟨rfl,by assumption⟩
  ·cases h
 ·cases h
theorem TgtOK.one {scope:Scope}{x:Str}{px:Pos}(sl:Slot (compCtx C scope [x]) C.vars.length x):TgtOK C false 1 scope [x] (.Name x px):=⟨rfl,fun {P y ws loc cv K} hu hlen hcv hk=>by
 refine x0_2 (unpack_false hu) fun _ eQ1=>?_
 subst eQ1
 refine ⟨rfl,tg_name sl ?_⟩
 obtain ⟨c,rfl⟩:∃ c,cv=[c]:=by
  match cv,hcv with
  | [c],_=>exact ⟨c,rfl⟩
 rw [←hlen,List.set_append_right _ _ (Nat.le_refl _)]
 simpa using hk⟩
theorem TgtOK.tup {scope:Scope}{n:Nat}{locals:List Str}{ts:List Expr}{tk:Nat}{tp:Pos}(hl:locals.length=n) (nm:Names (compCtx C scope locals) ts ((List.range n).map (C.vars.length+·))):TgtOK C true n scope locals (.Tuple ts tk tp):=⟨hl,fun {P y ws loc cv K} hu hlen hcv hk=>by
 refine x0_2 (unpack_true hu) fun eQ0 hw=>?_
 subst eQ0
 refine ⟨by rw [hw,hl],tg_tup nm (by simp [hw]) ?_⟩
 have:=setAll_at (L:=loc) (ws:=ws) (cv:=cv) (by rw [hcv,hl,hw])
 rw [hw,hlen] at this
 rw [this];exact hk⟩
theorem comp_wp {t:Bool}{n:Nat}{elt:ME}{k:IK}{its cond:List ME}{xe xt xi:Expr}{ifs:List Expr}{scope:Scope}{locals:List Str}{loc:Loc}{H:Hp}{Q:PQ}
  (ok:GOK P G) (hΦ:FunOK P d Φ) (hi:CI G C k its xi) (he:CE G (compCtx C scope locals) elt xe) (hc:CC G (compCtx C scope locals) cond ifs) (tg:TgtOK C t n scope locals xt) (hlen:loc.length=C.vars.length)
  (w:wpE Φ (.comp t n elt k its cond) loc H Q):CompWp P k.tt C d xe xt xi ifs scope locals loc H (fun l H'=>Q (.ref H'.length) (H'++[.list l])) XF:=by
 refine (hi.snd ok hΦ w).mono fun items Cnd H₁ hw=>?_
 refine x0_2 (hw) fun hs qQ1=>?_
 clear hw
 obtain ⟨J,j0,turn⟩:=qQ1
 refine ⟨hs,J,j0,fun i l H' hj=>?_⟩
 refine x0_3 (turn i l H' hj) fun h1 h2 h3=>?_
 refine ⟨h1,fun y hy cv hcv=>?_,h3⟩
 refine x1_2 (h2 y hy) fun ws hu hw=>?_
 have hwl:=(tg.2 (P:=P) (K:=fun _=>True) hu hlen hcv trivial).1
 refine (tg.2 hu hlen hcv ⟨⟨_,by rw [List.length_map];exact hwl,rfl⟩,hc.snd ok hΦ (fun b H'' hb=>?_) hw⟩).2
 cases b with
 | false=>exact hb
 | true=>exact (he.snd ok hΦ hb).1
structure CL (G:GT) (C:Ctx) (t:Bool) (n:Nat) (elt:ME) (k:IK) (its cond:List ME) (xe xt xi:Expr) (ifs:List Expr) (scope:Scope) (locals:List Str):Prop where
 cg:CompOK C scope locals
 hi:CI G C k its xi
 he:CE G (compCtx C scope locals) elt xe
 hc:CC G (compCtx C scope locals) cond ifs
 tg:TgtOK C t n scope locals xt
theorem CE.comp {t:Bool}{n:Nat}{elt:ME}{k:IK}{its cond:List ME}{xe xt xi:Expr}{ifs:List Expr}{scope:Scope}{locals:List Str}{pos:Pos}(h:CL G C t n elt k its cond xe xt xi ifs scope locals) (hk:k.tt=true->isTupE xt=true) :
  CE G C (.comp t n elt k its cond) (.ListComp xe [⟨xt,xi,ifs,0⟩] scope pos):=⟨fun _ _=>rfl,fun _=>rfl,fun _ _=>rfl,fun ok hΦ _ _ _ w =>
 .plain (EvOK.len fun hlen=>ev_comp h.cg hk (comp_wp ok hΦ h.hi h.he h.hc h.tg hlen w) h.hi.folded) fun _ _=>rfl⟩
end Mine
namespace Mine
open PySem
set_option maxHeartbeats 4000000
variable {P:PEnv}{d:Nat}{G:GT}{Φ:Fun}{C:Ctx}
theorem ExOK.mono {st:Stmt}{loc:Loc}{H:Hp}{Q Q':PF}(h:ExOK P C d st loc H Q) (q:∀ f l H,Q f l H->Q' f l H):ExOK P C d st loc H Q' :=
 fun A E env ι s w e=>wpAny_mono (h A E env ι s w e) (fun f s' g=>by
  obtain ⟨ι',H',loc',fl,p,e',r,z⟩:=g
  exact ⟨ι',H',loc',fl,p,e',r,q _ _ _ z⟩) fun _ _ x=>x
namespace CS
section
variable {a b c:ME}{x y z:Expr}{pos p:Pos}{n:Str}{i:Nat}
theorem asg (sl:Slot C i n) (ha:CE G C a x) (hs:∀ env,swapsWith x (some (.Name n p)) pos.line env=pure false):CS G C (.asg i a) (.Assign [.Name n p] x pos):=⟨fun ok hΦ _ _ _ w=>ex_assign sl (ha.snd ok hΦ w).1 hs⟩
theorem asgC {t:Bool}{m:Nat}{elt:ME}{k:IK}{its cond:List ME}{xe xt xi:Expr}{ifs:List Expr}{scope:Scope}{locals:List Str}{cpos:Pos}(sl:Slot C i n) (h:CL G C t m elt k its cond xe xt xi ifs scope locals) (hk:k.tt=true->isTupE xt=true) :
  CS G C (.asg i (.comp t m elt k its cond)) (.Assign [.Name n p] (.ListComp xe [⟨xt,xi,ifs,0⟩] scope cpos) pos):=⟨fun ok hΦ loc _ Q w =>
 ExOK.len fun hlen=>ex_assign_comp sl h.cg hk (comp_wp (Q:=fun v H'=>Q .next (loc.set i (some v)) H') ok hΦ h.hi h.he h.hc h.tg hlen w) h.hi.folded⟩
theorem asgT {is:List Nat}{ts:List Expr}{k:Nat}{tp:Pos}(nm:Names C ts is) (ha:CE G C a x) (hs:∀ env,swapsWithSole [.Tuple ts k tp] x pos.line env=pure false) (hw:∀ env,swappedStores [.Tuple ts k tp] x env=pure none):CS G C (.asgT is a) (.Assign [.Tuple ts k tp] x pos) :=
 ⟨fun ok hΦ _ _ _ w=>ex_assignT nm ((ha.snd ok hΦ w).1.mono fun v H' q=>asT.ex q) hs hw⟩
theorem sto (hc:CE G C c z) (ha:CE G C a x) (hb:CE G C b y) (hs:∀ env,swapsWith z (some (.Subscript x y p)) pos.line env=pure false):CS G C (.sto a b c) (.Assign [.Subscript x y p] z pos):=⟨fun ok hΦ _ _ _ w =>
 ex_store ((hc.snd ok hΦ w).1.mono fun x H₁ w=>(ha.snd ok hΦ w).1.mono fun y H₂ w=>(hb.snd ok hΦ w).1.mono fun z H₃ w=>wpSet_ok w) hs⟩
theorem ite {ma mb:List MS}{xa xb:List Stmt}(ht:CE G C a x) (ha:CSs G C ma xa) (hb:CSs G C mb xb):CS G C (.ite a ma mb) (.If x xa xb pos):=⟨fun ok hΦ _ _ _ w =>
 ex_if ((ht.snd ok hΦ w).2 _ fun v H' q=>by
  refine x1_2 (asB.ex q) fun c eQ1 nQ2=>?_
  subst eQ1
  revert nQ2
  intro q
  show (if c then _ else _)
  cases c with
  | false=>exact hb.snd ok hΦ q
  | true=>exact ha.snd ok hΦ q)⟩
theorem whl {mb:List MS}{xb:List Stmt}(ht:CE G C a x) (hb:CSs G C mb xb):CS G C (.whl a mb) (.While x xb [] pos):=⟨fun ok hΦ _ _ _ w=>by
 refine x2_2 (w) fun J n j0 turn=>?_
 clear w
 refine ex_while J n j0 fun n loc H hj=>(ht.snd ok hΦ (turn n loc H hj)).2 _ fun v H' q=>?_
 refine x1_2 (asB.ex q) fun c eQ1 nQ2=>?_
 subst eQ1
 revert nQ2
 intro q
 show (if c then _ else _)
 cases c with
 | false=>exact q
 | true=>exact hb.snd ok hΦ q⟩
theorem for1 {k:IK}{its:List ME}{mb:List MS}{xb:List Stmt}(sl:Slot C i n) (hi:CI G C k its x) (hb:CSs G C mb xb) (hk:k.tt=false):CS G C (.forr false [i] k its mb) (.For (.Name n p) x xb [] pos):=⟨fun ok hΦ _ _ _ w=>by
 refine ex_for_gen (fun z=>by rw [hk] at z;cases z) ((hi.snd ok hΦ w).mono fun items Cnd H₁ q=>?_) hi.folded
 refine x1_2 (q) fun J j0 turn=>?_
 clear q
 refine ⟨J,j0,fun i loc H hj=>?_⟩
 refine x0_3 (turn i loc H hj) fun h1 h2 h3=>?_
 refine ⟨h1,fun y hy=>?_,h3⟩
 refine x1_2 (h2 y hy) fun ws hu hw=>?_
 refine x0_2 (unpack_false hu) fun _ eQ1=>?_
 subst eQ1
 exact tg_name sl (hb.snd ok hΦ hw)⟩
theorem forT {is:List Nat}{k:IK}{its:List ME}{mb:List MS}{xb:List Stmt}{ts:List Expr}{tk:Nat}{tp:Pos}(nm:Names C ts is) (hi:CI G C k its x) (hb:CSs G C mb xb):CS G C (.forr true is k its mb) (.For (.Tuple ts tk tp) x xb [] pos):=⟨fun ok hΦ _ _ _ w=>by
 refine ex_for_gen (fun _=>rfl) ((hi.snd ok hΦ w).mono fun items Cnd H₁ q=>?_) hi.folded
 refine x1_2 (q) fun J j0 turn=>?_
 clear q
 refine ⟨J,j0,fun i loc H hj=>?_⟩
 refine x0_3 (turn i loc H hj) fun h1 h2 h3=>?_
 refine ⟨h1,fun y hy=>?_,h3⟩
 refine x1_2 (h2 y hy) fun ws hu hw=>?_
 refine x0_2 (unpack_true hu) fun eQ0 hl=>?_
 subst eQ0
 exact tg_tup nm hl (hb.snd ok hΦ hw)⟩
theorem ret (ha:CE G C a x):CS G C (.ret a) (.Return (some x) pos):=⟨fun ok hΦ _ _ _ w=>ex_ret (ha.snd ok hΦ w).1⟩
theorem expr (ha:CE G C a x) (hs:∀ env,swapsWith x none pos.line env=pure false):CS G C (.expr a) (.Expr x pos):=⟨fun ok hΦ _ _ _ w=>ex_expr (ha.snd ok hΦ w).1 hs⟩
end
end CS
theorem CSs.nil:CSs G C [] []:=⟨fun ok hΦ _ _ _ w=>exs_nil w⟩
theorem CSs.cons {m:MS}{ms:List MS}{x:Stmt}{xs:List Stmt}(hx:CS G C m x) (hs:CSs G C ms xs):CSs G C (m::ms) (x::xs):=⟨fun ok hΦ _ _ _ w =>
 exs_cons ((hx.snd ok hΦ w).mono fun fl l H' q=>by
  cases fl with
  | next=>exact hs.snd ok hΦ q
  | _=>exact q)⟩
theorem soundF (ok:GOK P G) (hΦ:FunOK P d Φ){x:Str}{params:List Str}{body:List Stmt}{f:MF}{args:List AV}{H:Hp}{Q:PQ}(fn:FnAt P x C params body) (good:C.good params=true) (cs:CSs G C f.body body) (hp:params.length=f.params) (hv:C.vars.length=f.vars)
  (w:wpF Φ f args H Q):CallOK P (d+1) x args H Q XF:=by
 refine x0_2 (w) fun hl w=>?_
 refine callOK_of ok.toOK fn good (by rw [hl,hp]) (cs.snd ok hΦ ?_)
 unfold start
 rw [hv,hl];exact w
end Mine
namespace Mine
open PySem
variable {Φ:Fun}{loc:Loc}{H:Hp}{Q:PQ}
theorem sp_b {K:Bool->Prop}{b:Bool}(h1:b=true->K true) (h2:b=false->K false):K b:=by
 cases b with
 | true=>exact h1 rfl
 | false=>exact h2 rfl
theorem sp_d {K:Bool->Prop}{p:Prop}{i:Decidable p}(h1:p->K true) (h2:¬ p->K false):K (@decide p i) :=
 sp_b (fun h=>h1 (of_decide_eq_true h)) fun h=>h2 (of_decide_eq_false h)
theorem sp_n {K:Bool->Prop}{p:Prop}{i:Decidable p}(h1:¬ p->K true) (h2:p->K false):K (!(@decide p i)) :=
 sp_b (fun h=>h1 (by simpa using h)) fun h=>h2 (by simpa using h)
theorem withL_some {l:List AV}{K:List AV->Prop}:withL (some l) K=K l:=rfl
theorem e_cst {v:AV}:wpE Φ (.cst v) loc H Q=Q v H:=rfl
theorem e_loc0 {v:AV}:wpE Φ (.loc 0) (some v::loc) H Q=Q v H:=rfl
theorem e_locS {i:Nat}{o:Option AV}:wpE Φ (.loc (i+1)) (o::loc) H Q=wpE Φ (.loc i) loc H Q:=rfl
theorem e_bin {op:BOp}{a b:ME}:wpE Φ (.bin op a b) loc H Q=wpE Φ a loc H (kBin1 Φ op b loc Q):=rfl
theorem k_bin1 {op:BOp}{b:ME}{x:AV}:kBin1 Φ op b loc Q x H=wpE Φ b loc H (kBin2 op x Q):=rfl
theorem k_bin2 {op:BOp}{x y:AV}:kBin2 op x Q y H=wpBin op x y H Q:=rfl
theorem e_cmp {op:COp}{a b:ME}:wpE Φ (.cmp op a b) loc H Q=wpE Φ a loc H (kCmp1 Φ op b loc Q):=rfl
theorem k_cmp1 {op:COp}{b:ME}{x:AV}:kCmp1 Φ op b loc Q x H=wpE Φ b loc H (kCmp2 op x Q):=rfl
theorem k_cmp2 {op:COp}{x y:AV}:kCmp2 op x Q y H=wpCmp op x y H Q:=rfl
theorem e_cmp2 {o1 o2:COp}{a b c:ME}:wpE Φ (.cmp2 o1 o2 a b c) loc H Q=wpE Φ a loc H (kC1 Φ o1 o2 b c loc Q):=rfl
theorem k_c1 {o1 o2:COp}{b c:ME}{x:AV}:kC1 Φ o1 o2 b c loc Q x H=wpE Φ b loc H (kC2 Φ o1 o2 c loc x Q):=rfl
theorem k_c2 {o1 o2:COp}{c:ME}{x y:AV}:kC2 Φ o1 o2 c loc x Q y H=wpCmp o1 x y H (kC3 Φ o2 c loc y Q):=rfl
theorem k_c3 {o2:COp}{c:ME}{y:AV}{b:Bool}:kC3 Φ o2 c loc y Q (.bool b) H=kC4 Φ o2 c loc y Q H b:=rfl
theorem k_c4t {o2:COp}{c:ME}{y:AV}:kC4 Φ o2 c loc y Q H true=wpE Φ c loc H (kCmp2 o2 y Q):=rfl
theorem k_c4f {o2:COp}{c:ME}{y:AV}:kC4 Φ o2 c loc y Q H false=Q (.bool false) H:=rfl
theorem e_not {a:ME}:wpE Φ (.not a) loc H Q=wpE Φ a loc H (kNot Q):=rfl
theorem k_not {b:Bool}:kNot Q (.bool b) H=Q (.bool !b) H:=rfl
theorem e_neg {a:ME}:wpE Φ (.neg a) loc H Q=wpE Φ a loc H (kNeg Q):=rfl
theorem k_neg {b:Int}:kNeg Q (.int b) H=Q (.int (-b)) H:=rfl
theorem e_and2 {a b:ME}:wpE Φ (.and2 a b) loc H Q=wpE Φ a loc H (kAnd Φ b loc Q):=rfl
theorem k_and {b:ME}{t:Bool}:kAnd Φ b loc Q (.bool t) H=kAndB Φ b loc Q H t:=rfl
theorem k_andt {b:ME}:kAndB Φ b loc Q H true=wpE Φ b loc H Q:=rfl
theorem k_andf {b:ME}:kAndB Φ b loc Q H false=Q (.bool false) H:=rfl
theorem e_or2 {a b:ME}:wpE Φ (.or2 a b) loc H Q=wpE Φ a loc H (kOr Φ b loc Q):=rfl
theorem k_or {b:ME}{t:Bool}:kOr Φ b loc Q (.bool t) H=kOrB Φ b loc Q H t:=rfl
theorem k_ort {b:ME}:kOrB Φ b loc Q H true=Q (.bool true) H:=rfl
theorem k_orf {b:ME}:kOrB Φ b loc Q H false=wpE Φ b loc H Q:=rfl
theorem e_call {f:Str}{as:List ME}:wpE Φ (.call f as) loc H Q=wpEs Φ as loc H (kCall Φ f Q):=rfl
theorem k_call {f:Str}{vs:List AV}:kCall Φ f Q vs H=Φ f vs H Q:=rfl
theorem e_bi {f:Bi}{as:List ME}:wpE Φ (.bi f as) loc H Q=wpEs Φ as loc H (kBi f Q):=rfl
theorem k_bi {f:Bi}{vs:List AV}:kBi f Q vs H=wpBi f vs H Q:=rfl
theorem e_isi {a:ME}{t:Ty}:wpE Φ (.isi a t) loc H Q=wpE Φ a loc H (kIsi t Q):=rfl
theorem k_isi {v:AV}{t:Ty}:kIsi t Q v H=Q (.bool (isi H v t)) H:=rfl
theorem e_idx {a b:ME}:wpE Φ (.idx a b) loc H Q=wpE Φ a loc H (kIdx1 Φ b loc Q):=rfl
theorem k_idx1 {b:ME}{x:AV}:kIdx1 Φ b loc Q x H=wpE Φ b loc H (kIdx2 x Q):=rfl
theorem k_idx2 {x y:AV}:kIdx2 x Q y H=wpIdx x y H Q:=rfl
theorem e_slc {a:ME}{lo hi:List ME}:wpE Φ (.slc a lo hi) loc H Q=wpE Φ a loc H (kS1 Φ lo hi loc Q):=rfl
theorem k_s1 {lo hi:List ME}{x:AV}:kS1 Φ lo hi loc Q x H=wpEs Φ lo loc H (kS2 Φ hi loc x Q):=rfl
theorem k_s2n {hi:List ME}{x:AV}:kS2 Φ hi loc x Q [] H=wpEs Φ hi loc H (kS4 x none Q):=rfl
theorem k_s2o {hi:List ME}{x:AV}{k:Int}:kS2 Φ hi loc x Q [.int k] H=(0<=k/\wpEs Φ hi loc H (kS4 x (some k) Q)):=rfl
theorem k_s4n {x:AV}{ka:Option Int}:kS4 x ka Q [] H=withL (seqL H x) (kS6 ka none Q H):=rfl
theorem k_s4o {x:AV}{ka:Option Int}{k:Int}:kS4 x ka Q [.int k] H=(0<=k/\withL (seqL H x) (kS6 ka (some k) Q H)):=rfl
theorem k_s6 {ka kb:Option Int}{l:List AV}:kS6 ka kb Q H l=(l.length<=sizeLine/\Q (.ref H.length) (H++[.list (lslice l ka kb)])):=rfl
theorem e_slcT {a:ME}{lo hi:List ME}:wpE Φ (.slcT a lo hi) loc H Q=wpE Φ a loc H (kT1 Φ lo hi loc Q):=rfl
theorem k_t1 {lo hi:List ME}{x:AV}:kT1 Φ lo hi loc Q x H=wpEs Φ lo loc H (kT2 Φ hi loc x Q):=rfl
theorem k_t2n {hi:List ME}{x:AV}:kT2 Φ hi loc x Q [] H=wpEs Φ hi loc H (kT4 x none Q):=rfl
theorem k_t2o {hi:List ME}{x:AV}{k:Int}:kT2 Φ hi loc x Q [.int k] H=(0<=k/\wpEs Φ hi loc H (kT4 x (some k) Q)):=rfl
theorem k_t4n {l:List AV}{ka:Option Int}:kT4 (.tup l) ka Q [] H=(l.length<=sizeLine/\Q (.tup (lslice l ka none)) H):=rfl
theorem k_t4o {l:List AV}{ka:Option Int}{k:Int}:kT4 (.tup l) ka Q [.int k] H=(0<=k/\l.length<=sizeLine/\Q (.tup (lslice l ka (some k))) H):=rfl
theorem e_rev {a:ME}:wpE Φ (.rev a) loc H Q=wpE Φ a loc H (kRev Q):=rfl
theorem e_tup {es:List ME}:wpE Φ (.tup es) loc H Q=wpEs Φ es loc H (kTup Q):=rfl
theorem k_tup {vs:List AV}:kTup Q vs H=(vs.length<=sizeLine/\Q (.tup vs) H):=rfl
theorem e_lst {es:List ME}:wpE Φ (.lst es) loc H Q=wpEs Φ es loc H (kLst Q):=rfl
theorem k_lst {vs:List AV}:kLst Q vs H=(vs.length<=sizeLine/\Q (.ref H.length) (H++[.list vs])):=rfl
theorem e_dic0:wpE Φ .dic0 loc H Q=Q (.ref H.length) (H++[.dict []]):=rfl
theorem e_dic1 {k v:ME}:wpE Φ (.dic1 k v) loc H Q=wpE Φ k loc (H++[.dict []]) (kD1 Φ v loc H.length Q):=rfl
theorem k_d1 {v:ME}{n:Nat}{i:Int}:kD1 Φ v loc n Q (.int i) H=wpE Φ v loc H (kD3 n i Q):=rfl
theorem k_d3 {n:Nat}{i:Int}{y:AV}:kD3 n i Q y H=(H[n]?=some (.dict [])/\Q (.ref n) (H.set n (.dict [(i,y)]))):=rfl
theorem e_meth {m:Mt}{o:ME}{as:List ME}:wpE Φ (.meth m o as) loc H Q=wpE Φ o loc H (kM1 Φ m as loc Q):=rfl
theorem k_m1 {m:Mt}{as:List ME}{x:AV}:kM1 Φ m as loc Q x H=(isL H x/\wpEs Φ as loc H (kM2 m x Q)):=rfl
theorem k_m2 {m:Mt}{x:AV}{vs:List AV}:kM2 m x Q vs H=wpMt m x vs H Q:=rfl
theorem es_nil {Q:List AV->Hp->Prop}:wpEs Φ [] loc H Q=Q [] H:=rfl
theorem es_cons {e:ME}{es:List ME}{Q:List AV->Hp->Prop}:wpEs Φ (e::es) loc H Q=wpE Φ e loc H (kE1 Φ es loc Q):=rfl
theorem k_e1 {es:List ME}{Q:List AV->Hp->Prop}{v:AV}:kE1 Φ es loc Q v H=wpEs Φ es loc H (kE2 v Q):=rfl
theorem k_e2 {Q:List AV->Hp->Prop}{v:AV}{vs:List AV}:kE2 v Q vs H=Q (v::vs) H:=rfl
theorem cs_nil {K:Bool->Hp->Prop}:wpCs Φ [] loc H K=K true H:=rfl
theorem cs_cons {e:ME}{es:List ME}{K:Bool->Hp->Prop}:wpCs Φ (e::es) loc H K=wpE Φ e loc H (kCs Φ es loc K):=rfl
theorem k_cs {es:List ME}{K:Bool->Hp->Prop}{b:Bool}:kCs Φ es loc K (.bool b) H=kCsB Φ es loc K H b:=rfl
theorem k_cst {es:List ME}{K:Bool->Hp->Prop}:kCsB Φ es loc K H true=wpCs Φ es loc H K:=rfl
theorem k_csf {es:List ME}{K:Bool->Hp->Prop}:kCsB Φ es loc K H false=K false H:=rfl
theorem k_it {k:IK}{K:KI}{vs:List AV}:kIt k K vs H=wpIt k vs H K:=rfl
theorem b_add {a b:Int}:wpBin .add (.int a) (.int b) H Q=Q (.int (a+b)) H:=rfl
theorem b_sub {a b:Int}:wpBin .sub (.int a) (.int b) H Q=Q (.int (a-b)) H:=rfl
theorem b_mul {a b:Int}:wpBin .mul (.int a) (.int b) H Q=(IntMulOk a b/\Q (.int (a*b)) H):=rfl
theorem b_mod {a b:Int}:wpBin .mod (.int a) (.int b) H Q=(b≠0/\Q (.int (a.fmod b)) H):=rfl
theorem b_fdiv {a b:Int}:wpBin .fdiv (.int a) (.int b) H Q=(b≠0/\NoPy a b/\Q (.int (a.fdiv b)) H):=rfl
theorem b_pow {a b:Int}:wpBin .pow (.int a) (.int b) H Q=(0<=b/\b<=1000000/\a.natAbs<2^64/\Q (.int (a^b.toNat)) H):=rfl
theorem b_addT {l m:List AV}:wpBin .add (.tup l) (.tup m) H Q=(l.length+m.length<=sizeLine/\Q (.tup (l++m)) H):=rfl
theorem b_addL {i j:Nat}{l m:List AV}(h1:H[i]?=some (.list l)) (h2:H[j]?=some (.list m)):wpBin .add (.ref i) (.ref j) H Q=(l.length+m.length<=sizeLine/\Q (.ref H.length) (H++[.list (l++m)])):=by
 simp [wpBin,wpAdd,asR,h1,h2]
theorem c_lt {a b:Int}:wpCmp .lt (.int a) (.int b) H Q=Q (.bool (decide (a<b))) H:=rfl
theorem c_le {a b:Int}:wpCmp .le (.int a) (.int b) H Q=Q (.bool (decide (a<=b))) H:=rfl
theorem c_gt {a b:Int}:wpCmp .gt (.int a) (.int b) H Q=Q (.bool (decide (b<a))) H:=rfl
theorem c_ge {a b:Int}:wpCmp .ge (.int a) (.int b) H Q=Q (.bool (decide (b<=a))) H:=rfl
theorem c_eqI {a b:Int}:wpCmp .eq (.int a) (.int b) H Q=Q (.bool (decide (a=b))) H:=by
 show Q (.bool (a == b)) H=_
 rw [show (a == b)=decide (a=b) from rfl]
theorem c_neI {a b:Int}:wpCmp .ne (.int a) (.int b) H Q=Q (.bool (!decide (a=b))) H:=by
 show Q (.bool !(a == b)) H=_
 rw [show (a == b)=decide (a=b) from rfl]
theorem c_eqS {a b:Str}:wpCmp .eq (.str a) (.str b) H Q=Q (.bool (a == b)) H:=rfl
theorem c_neS {a b:Str}:wpCmp .ne (.str a) (.str b) H Q=Q (.bool (!(a == b))) H:=rfl
theorem c_eqB {a b:Bool}:wpCmp .eq (.bool a) (.bool b) H Q=Q (.bool (a == b)) H:=rfl
theorem c_neB {a b:Bool}:wpCmp .ne (.bool a) (.bool b) H Q=Q (.bool (!(a == b))) H:=rfl
theorem i_list {i:Nat}{l:List AV}{k:Int}(h:H[i]?=some (.list l)):wpIdx (.ref i) (.int k) H Q=idxL l k H Q:=by simp [wpIdx,asI,h]
theorem i_dict {i:Nat}{l:List (Int×AV)}{k:Int}(h:H[i]?=some (.dict l)):wpIdx (.ref i) (.int k) H Q=(∃ z,dget l k=some z/\Q z H):=by simp [wpIdx,asI,h]
theorem i_tup {l:List AV}{k:Int}:wpIdx (.tup l) (.int k) H Q=(l.length<2^62/\∃ j z,place k l.length=some j/\l[j]?=some z/\Q z H):=rfl
theorem i_tup0 {v:AV}{l:List AV}:wpIdx (.tup (v::l)) (.int 0) H Q=((v::l).length<2^62/\Q v H):=by
 rw [i_tup];simp [place]
theorem i_tup1 {v u:AV}{l:List AV}:wpIdx (.tup (u::v::l)) (.int 1) H Q=((u::v::l).length<2^62/\Q v H):=by
 rw [i_tup]
 have:place 1 (u::v::l).length=some 1:=by unfold place;simp;(first|lia|omega)
 rw [this];simp
theorem i_tup2 {v u t:AV}{l:List AV}:wpIdx (.tup (t::u::v::l)) (.int 2) H Q=((t::u::v::l).length<2^62/\Q v H):=by
 rw [i_tup]
 have:place 2 (t::u::v::l).length=some 2:=by unfold place;simp;(first|lia|omega)
 rw [this];simp
theorem idx_at {x:AV}{l:List AV}{k:Int}{z:AV}(hx:anyL H x=some l) (hn:l.length<2^62) (h0:0<=k) (hz:l[k.toNat]?=some z) (q:Q z H):wpIdx x (.int k) H Q:=by
 have hlt:k.toNat<l.length:=(List.getElem?_eq_some_iff.mp hz).1
 have hp:place k l.length=some k.toNat:=by unfold place;rw [if_pos h0,if_pos (by (first|lia|omega))]
 cases x with
 | tup m=>cases hx;exact ⟨hn,_,_,hp,hz,q⟩
 | fro m=>cases hx;exact ⟨hn,_,_,hp,hz,q⟩
 | ref i =>
  simp only [anyL,seqL] at hx
  split at hx
  ·rename_i h;cases hx;rw [i_list h];exact ⟨hn,_,_,hp,hz,q⟩
  ·cases hx
 | _=>simp [anyL,seqL] at hx
theorem l_tup {l:List AV}:wpBi .len [.tup l] H Q=(l.length<2^62/\Q (.int l.length) H):=rfl
theorem l_fro {l:List AV}:wpBi .len [.fro l] H Q=(l.length<2^62/\Q (.int l.length) H):=rfl
theorem l_list {i:Nat}{l:List AV}(h:H[i]?=some (.list l)):wpBi .len [.ref i] H Q=(l.length<2^62/\Q (.int l.length) H):=by simp [wpBi,as1,wpLen,h]
theorem l_dict {i:Nat}{l:List (Int×AV)}(h:H[i]?=some (.dict l)):wpBi .len [.ref i] H Q=(l.length<2^62/\Q (.int l.length) H):=by simp [wpBi,as1,wpLen,h]
theorem t_list {i:Nat}{l:List AV}(h:H[i]?=some (.list l)):wpBi .tuple [.ref i] H Q=(l.length<=sizeLine/\Q (.tup l) H):=by simp [wpBi,as1,withL,seqL,h]
theorem g_tup {l:List AV}:wpBi .list [.tup l] H Q=(l.length<=sizeLine/\Q (.ref H.length) (H++[.list l])):=rfl
theorem n_bool {b:Bool}:wpBi .int [.bool b] H Q=Q (.int (if b then 1 else 0)) H:=rfl
theorem n_min {a b:Int}:wpBi .min [.int a,.int b] H Q=Q (.int (if b<a then b else a)) H:=rfl
theorem n_max {a b:Int}:wpBi .max [.int a,.int b] H Q=Q (.int (if b>a then b else a)) H:=rfl
theorem a_all {i:Nat}{bs:List Bool}(h:H[i]?=some (.list (bs.map .bool))):wpBi .all [.ref i] H Q↔Q (.bool (bs.all fun b=>b)) H:=by
 have inj:∀ {a b:List Bool},a.map AV.bool=b.map AV.bool->a=b:=fun {a b} e=>List.map_inj_right (fun _ _ h=>AV.bool.inj h) |>.mp e
 simp only [wpBi,as1,seqL,h,Option.some.injEq]
 constructor
 ·rintro ⟨cs,e,q⟩;rw [inj e];exact q
 ·exact fun q=>⟨bs,rfl,q⟩
theorem m_append {i:Nat}{l:List AV}{x:AV}(h:H[i]?=some (.list l)):wpMt .append (.ref i) [x] H Q=(l.length<=sizeLine/\Q .none (H.set i (.list (l++[x])))):=onL_ref h
theorem isL_ref {i:Nat}{l:List AV}(h:H[i]?=some (.list l)):isL H (.ref i):=⟨i,l,rfl,h⟩
section
variable {Q:PF}
theorem ss_nil:wpSs Φ [] loc H Q=Q .next loc H:=rfl
theorem thenS_next {ss:List MS}:thenS Φ ss Q .next loc H=wpSs Φ ss loc H Q:=rfl
theorem thenS_ret {ss:List MS}{v:AV}:thenS Φ ss Q (.ret v) loc H=Q (.ret v) loc H:=rfl
theorem ss_cons {s:MS}{ss:List MS}:wpSs Φ (s::ss) loc H Q=wpS Φ s loc H (thenS Φ ss Q):=rfl
theorem s_asg {i:Nat}{e:ME}:wpS Φ (.asg i e) loc H Q=wpE Φ e loc H (kAsg i loc Q):=rfl
theorem k_asg {i:Nat}{v:AV}:kAsg i loc Q v H=Q .next (loc.set i (some v)) H:=rfl
theorem s_asgT {is:List Nat}{e:ME}:wpS Φ (.asgT is e) loc H Q=wpE Φ e loc H (kAsgT is loc Q):=rfl
theorem k_asgT {is:List Nat}{l:List AV}:kAsgT is loc Q (.tup l) H=(l.length=is.length/\Q .next (setAll (is.zip l) loc) H):=rfl
theorem s_sto {o k e:ME}:wpS Φ (.sto o k e) loc H Q=wpE Φ e loc H (kSto1 Φ o k loc Q):=rfl
theorem k_sto1 {o k:ME}{x:AV}:kSto1 Φ o k loc Q x H=wpE Φ o loc H (kSto2 Φ k x loc Q):=rfl
theorem k_sto2 {k:ME}{x y:AV}:kSto2 Φ k x loc Q y H=wpE Φ k loc H (kSto3 x y loc Q):=rfl
theorem k_sto3 {x y z:AV}:kSto3 x y loc Q z H=wpSet y z x H (kSto4 loc Q):=rfl
theorem k_sto4:kSto4 loc Q H=Q .next loc H:=rfl
theorem s_ite {t:ME}{a b:List MS}:wpS Φ (.ite t a b) loc H Q=wpE Φ t loc H (kIte Φ a b loc Q):=rfl
theorem k_ite {a b:List MS}{c:Bool}:kIte Φ a b loc Q (.bool c) H=kIteB Φ a b loc Q H c:=rfl
theorem k_itet {a b:List MS}:kIteB Φ a b loc Q H true=wpSs Φ a loc H Q:=rfl
theorem k_itef {a b:List MS}:kIteB Φ a b loc Q H false=wpSs Φ b loc H Q:=rfl
theorem s_ret {e:ME}:wpS Φ (.ret e) loc H Q=wpE Φ e loc H (kRet loc Q):=rfl
theorem k_ret {v:AV}:kRet loc Q v H=Q (.ret v) loc H:=rfl
theorem s_ret0:wpS Φ .ret0 loc H Q=Q (.ret .none) loc H:=rfl
theorem s_expr {e:ME}:wpS Φ (.expr e) loc H Q=wpE Φ e loc H (kExp loc Q):=rfl
theorem k_exp {v:AV}:kExp loc Q v H=Q .next loc H:=rfl
theorem end_ret {R:PQ}{v:AV}:endOf R (.ret v) loc H=R v H:=rfl
theorem end_next {R:PQ}:endOf R .next loc H=R .none H:=rfl
theorem whl_next {J:Nat->Loc->Hp->Prop}{n:Nat}(m:Nat) (hm:m<n) (h:J m loc H):whlK J n Q .next loc H:=⟨m,hm,h⟩
theorem whlK_ret {J:Nat->Loc->Hp->Prop}{n:Nat}{v:AV}:whlK J n Q (.ret v) loc H=Q (.ret v) loc H:=rfl
theorem k_whl {b:List MS}{J:Nat->Loc->Hp->Prop}{n:Nat}{c:Bool}:kWhl Φ b J n loc Q (.bool c) H=kWhlB Φ b J n loc Q H c:=rfl
theorem k_whlt {b:List MS}{J:Nat->Loc->Hp->Prop}{n:Nat}:kWhlB Φ b J n loc Q H true=wpSs Φ b loc H (whlK J n Q):=rfl
theorem k_whlf {b:List MS}{J:Nat->Loc->Hp->Prop}{n:Nat}:kWhlB Φ b J n loc Q H false=Q .next loc H:=rfl
theorem s_whl {t:ME}{b:List MS}(J:Nat->Loc->Hp->Prop) (n:Nat) (h0:J n loc H)
  (turn:∀ n loc H,J n loc H->wpE Φ t loc H (kWhl Φ b J n loc Q)):wpS Φ (.whl t b) loc H Q:=⟨J,n,h0,turn⟩
theorem for_next {J:Nat->Loc->Hp->Prop}{n:Nat}(h:J (n+1) loc H):forK J n Q .next loc H:=h
theorem forK_ret {J:Nat->Loc->Hp->Prop}{n:Nat}{v:AV}:forK J n Q (.ret v) loc H=Q (.ret v) loc H:=rfl
theorem s_for {t:Bool}{is:List Nat}{k:IK}{its:List ME}{b:List MS}:wpS Φ (.forr t is k its b) loc H Q=wpEs Φ its loc H (kIt k (forI Φ t is b loc Q)):=rfl
theorem for_intro {t:Bool}{is:List Nat}{b:List MS}{items:List AV}{Cnd:Hp->Prop}(J:Nat->Loc->Hp->Prop) (h0:J 0 loc H) (turn:∀ i loc H,J i loc H->Cnd H /\
   (∀ y,items[i]?=some y->∃ ws,unpack t is.length y=some ws/\wpSs Φ b (setAll (is.zip ws) loc) H (forK J i Q)) /\
   (i=items.length->Q .next loc H)):forI Φ t is b loc Q items Cnd H:=⟨J,h0,turn⟩
end
theorem r_one {n:Int}{K:KI}:wpIt .range [.int n] H K=(-(2^62)<=n/\n<2^62/\K ((List.range n.toNat).map fun (k:Nat)=>AV.int k) (fun _=>True) H):=rfl
theorem r_two {a b:Int}{K:KI}:wpIt .range [.int a,.int b] H K=(-(2^62)<=a/\a<2^62 /\ -(2^62)<=b/\b<2^62/\K ((List.range (b-a).toNat).map fun (k:Nat)=>AV.int (a+k)) (fun _=>True) H):=rfl
theorem r_tup {l:List AV}{K:KI}:wpIt .plain [.tup l] H K=K l (fun _=>True) H:=rfl
theorem r_enum {l:List AV}{K:KI}:wpIt .enum [.tup l] H K=K (enumL l) (fun _=>True) H:=rfl
theorem r_list {i:Nat}{l:List AV}{K:KI}(h:H[i]?=some (.list l)):wpIt .plain [.ref i] H K=K l (fun H'=>H'[i]?=some (.list l)) H:=by
 show withL (lstAt H i) _=_
 rw [lstAt_of h];rfl
theorem r_rev {i:Nat}{l:List AV}{K:KI}(h:H[i]?=some (.list l)):wpIt .revd [.ref i] H K=K l.reverse (fun H'=>H'[i]?=some (.list l)) H:=by
 show onL (.ref i) H (fun i l=>K l.reverse (fun H'=>H'[i]?=some (.list l)) H)=_
 rw [onL_ref h]
theorem e_comp {t:Bool}{n:Nat}{elt:ME}{k:IK}{its cond:List ME}:wpE Φ (.comp t n elt k its cond) loc H Q=wpEs Φ its loc H (kIt k (compI Φ t n elt cond loc Q)):=rfl
theorem comp_pure {t:Bool}{n:Nat}{elt:ME}{cond:List ME}{items:List AV}{Cnd:Hp->Prop}(p:AV->Option AV) (hs:items.length<=sizeLine) (hc:Cnd H)
  (turn:∀ y∈items,∃ ws,unpack t n y=some ws/\(∀ K:Bool->Hp->Prop,K (p y).isSome H->wpCs Φ cond (loc++ws.map some) H K)/\∀ v,p y=some v->∀ Q:PQ,Q v H->wpE Φ elt (loc++ws.map some) H Q)
  (q:Q (.ref H.length) (H++[.list (items.filterMap p)])):compI Φ t n elt cond loc Q items Cnd H:=by
 refine ⟨hs,fun i l H'=>H'=H/\l=(items.take i).filterMap p,⟨rfl,by simp⟩,?_⟩
 rintro i l H' ⟨rfl,rfl⟩
 refine ⟨hc,fun y hy=>?_,fun e=>by rw [e,List.take_length];exact q⟩
 refine x1_3 (turn y (List.mem_of_getElem? hy)) fun ws hu h1 h2=>?_
 refine ⟨ws,hu,h1 _ ?_⟩
 have et:items.take (i+1)=items.take i++[y]:=by
  rw [List.take_add_one,hy];rfl
 cases hp:p y with
 | none =>
  show H'=H'/\_
  refine ⟨rfl,?_⟩
  rw [et,List.filterMap_append];simp [hp]
 | some v =>
  refine h2 v hp _ ⟨rfl,?_⟩
  rw [et,List.filterMap_append];simp [hp]
theorem comp_map {t:Bool}{n:Nat}{elt:ME}{items:List AV}{Cnd:Hp->Prop}(p:AV->AV) (hs:items.length<=sizeLine) (hc:Cnd H)
  (turn:∀ y∈items,∃ ws,unpack t n y=some ws/\∀ Q:PQ,Q (p y) H->wpE Φ elt (loc++ws.map some) H Q)
  (q:Q (.ref H.length) (H++[.list (items.map p)])):compI Φ t n elt [] loc Q items Cnd H:=by
 refine comp_pure (fun y=>some (p y)) hs hc (fun y hy=>?_) (by simpa using q)
 refine x1_2 (turn y hy) fun ws hu h=>?_
 exact ⟨ws,hu,fun K k=>by rw [cs_nil];exact k,fun v hv=>by cases hv;exact h⟩
end Mine
namespace Mine
open PySem PySem.W PyProof.Rows
set_option maxRecDepth 100000
noncomputable def freeB (p:Program) (loose:List Str) (x:Str):Bool :=
 !(startupNames.contains x)&&!((looseW p loose).contains x)&&!(((recsOf p).map (·.name)).contains x)&&!(((litsOf p).map (·.1)).contains x)&&!(((clssOf p (looseW p loose)).map (·.name)).contains x)
section
variable {p:Program}{loose:List Str}{R:WRecords}{XP:(Str->Option Value)->Heap->Prop}{w:World}{s₀:Shared}{mg mb:Str->Option Value}{h:Heap}{prog:Program}
theorem free_of (G:Ground p loose R XP w s₀ mg mb h){x:Str}(hx:freeB p loose x=true):mg x=none:=by
 simp only [freeB,Bool.and_eq_true,Bool.not_eq_true',List.contains_eq_mem,decide_eq_false_iff_not] at hx
 refine x0_2 (hx) fun qQ0 h5=>?_
 clear hx
 obtain ⟨⟨⟨h1,h2⟩,h3⟩,h4⟩:=qQ0
 exact G.T.free x h1 h2 h3 h4 h5
theorem ok2_of {B:Heap}{hd:Option Addr}(G:Ground p loose R XP w s₀ mg mb h) (st:h.StaysIn B):(PEnv.mk prog w B mg mb hd).OK2 where
 g:=G.T.g.keeps st
 b:=G.T.b.keeps st
 nolimit:=G.T.nolimit.keeps st
 low:=by
  refine x1_2 (G.T.nodigits) fun _ qQ1 _=>?_
  obtain ⟨o,_,_,ho,_⟩:=qQ1
  exact ⟨_,o,st _ _ ho,by decide⟩
noncomputable def bnames:List Str:=["len", "all", "any", "sorted", "list", "tuple", "int", "min", "max", "bool", "str", "isinstance", "range", "reversed", "enumerate"]
theorem boot_bi (b:Bi):bootBuiltins b.nm=some b.val:=by cases b<;>decide +kernel
theorem boot_ty (b:Ty):bootBuiltins b.ps=some (.type b.nm):=by cases b<;>decide +kernel
theorem boot_its (b:ITy):bootBuiltins b.str=some (.type b.nm):=by cases b<;>decide +kernel
theorem boot_isi:bootBuiltins "isinstance" = some (.builtin "isinstance"):=by decide +kernel
theorem nm_bi (b:Bi):b.nm∈bnames/\b.nm ≠ "__name__" := by cases b<;>decide +kernel
theorem nm_ty (b:Ty):b.ps∈bnames/\b.ps ≠ "__name__" := by cases b<;>decide +kernel
theorem nm_its (b:ITy):b.str∈bnames/\b.str ≠ "__name__" := by cases b<;>decide +kernel
theorem nm_isi:("isinstance" : Str)∈bnames/\("isinstance" : Str) ≠ "__name__" := by decide +kernel
theorem gok_of {Γ:GT}{B:Heap}{hd:Option Addr}(G:Ground p loose R XP w s₀ mg mb h) (st:h.StaysIn B) (hq:Γ.still=true->hd=none) (hb:bnames.all (fun x=>freeB p loose x)=true) (hf:Γ.fns.all (fun x=>((recsOf p).map (·.name)).contains x)=true)
  (hc:∀ x v,Γ.csts.lookup x=some v->∃ u,mg x=some u/\∀ h' ι,B.StaysIn h'->VR B h' ι v u):GOK (PEnv.mk prog w B mg mb hd) Γ:=by
 have fr:∀ x,x∈bnames/\x ≠ "__name__" -> mg x=none/\mb x=bootBuiltins x:=fun x hx=>⟨free_of G (List.all_eq_true.mp hb x hx.1),G.T.builtins x hx.2⟩
 refine { toOK2:=ok2_of G st,quiet:=hq,fns:=fun x hx=>?_,csts:=hc,blt:=fun b=>?_,ty:=fun b=>?_,isi:=?_,its:=fun b=>?_ }
 ·have:=List.all_eq_true.mp hf x (by simpa using hx)
  simp only [List.contains_eq_mem,decide_eq_true_eq,List.mem_map] at this
  refine x1_2 (this) fun d hd eQ2=>?_
  clear this
  subst eQ2
  refine x5_3 (G.T.fn d hd) fun a o pm code doc h1 h2 qQ7=>?_
  obtain ⟨h3,_⟩:=qQ7
  exact ⟨a,o,_,h1,st _ _ h2,h3⟩
 ·obtain ⟨h1,h2⟩:=fr _ (nm_bi b);exact ⟨h1,h2.trans (boot_bi b)⟩
 ·obtain ⟨h1,h2⟩:=fr _ (nm_ty b);exact ⟨h1,h2.trans (boot_ty b)⟩
 ·obtain ⟨h1,h2⟩:=fr _ nm_isi;exact ⟨h1,h2.trans boot_isi⟩
 ·obtain ⟨h1,h2⟩:=fr _ (nm_its b);exact ⟨h1,h2.trans (boot_its b)⟩
structure FnOK (p:Program) (Γ:GT) (x:Str) (vars params:List Str) (f:MF):Prop where
 ex:∃ d,d∈recsOf p/\d.name=x/\d.scope.kind=.function/\d.scope.isCoroutine=false/\d.scope.isGenerator=false/\(Ctx.mk (vars.map some) d.scope.names 0).good params=true /\
  CSs Γ ⟨vars.map some,d.scope.names,0⟩ f.body d.body/\params.length=f.params/\vars.length=f.vars /\
  ∀ pm cd doc vals,vals.length=params.length->bindArgs (Calls.docDef d.name d.params d.body d.scope pm cd doc) ⟨vals,[]⟩=pure (params.zip vals)
theorem FnOK.call {B:Heap}{hd:Option Addr}{Γ:GT}{x:Str}{vars params:List Str}{f:MF}{n:Nat}{Φ:Fun}{args:List AV}{H:Hp}{Q:PQ}(fn:FnOK p Γ x vars params f) (G:Ground p loose R XP w s₀ mg mb h) (st:h.StaysIn B) (ok:GOK (PEnv.mk prog w B mg mb hd) Γ)
  (hΦ:∀ f args H Q,Φ f args H Q->CallOK (PEnv.mk prog w B mg mb hd) n f args H Q XF) (wp:wpF Φ f args H Q):CallOK (PEnv.mk prog w B mg mb hd) (n+1) x args H Q XF:=by
 refine x1_6 (fn.ex) fun d hd eQ2 k1 k2 k3 qQ6=>?_
 subst eQ2
 obtain ⟨good,cs,hp,hv,hb⟩:=qQ6
 refine x5_3 (G.T.fn d hd) fun a o pm code doc h1 h2 qQ7=>?_
 obtain ⟨h3,h4⟩:=qQ7
 refine soundF ok hΦ (C:=⟨vars.map some,d.scope.names,0⟩) (params:=params) ⟨⟨a,o,_,h1,st _ _ h2,h3,rfl,rfl,k1,k2,k3,rfl,rfl,rfl,h4.keeps st,fun vals hl=>hb pm code doc vals hl⟩⟩ good cs hp (by rw [List.length_map];exact hv) wp
theorem finish {c:ClaimW}{cl:Str->Option Addr}{mean:ExcName->Option Value}{wargs:List WData}{s₁:Shared}{fa l:Addr}{vs:List Value}{ns:List Int}{n:Nat}(hmg:mg "law" = some (.ref fa)) (hg:s₁.gens=#[]) (hn:n<200)
  (hL:s₁.heap.IsList l vs.toArray) (hI:IntsAre vs ns) (hr:∀ cls,c.raises wargs cls=false) (hp:c.post wargs (.bool true) wargs=true)
  (hc:CallOK (PEnv.mk prog w s₁.heap mg mb none) n "law" [.fro (ns.map .int)] [] (fun v _=>v=.bool true) XF) :
  codeAny (model prog w) callerA (.call (.ref fa) ⟨[.ref l],[]⟩) (GoodWG c cl mean wargs s₁) s₁:=by
 have rs:∀ {vs:List Value}{ns:List Int},IntsAre vs ns->VRs s₁.heap s₁.heap [] (ns.map .int) vs:=fun {vs ns} q=>by
  induction q with
  | nil=>rfl
  | cons _ _ _ ih=>exact VRs.cons (VR.mkInt _ _) ih
 refine hc callerA [] s₁ [.ref l] fa _ hmg ⟨⟨?_,?_⟩,⟨rfl,fun _ z=>nomatch z⟩,⟨[],rfl,(fun e he=>nomatch he)⟩,(⟨fun b o e=>e,(fun a ha=>nomatch ha),List.nodup_nil,rfl,(fun i o e=>by simp at e)⟩:HR s₁.heap [] [] s₁.heap)⟩ ⟨_,[],rfl,?_,rfl⟩ (fun v s' g=>?_) Acc.no
 ·show 1+claimMargin+n<recursionLimit
  unfold claimMargin recursionLimit;(first|lia|omega)
 ·show 4+8*n+200<cLine
  unfold cLine;(first|lia|omega)
 ·unfold VR;exact ⟨l,vs,rfl,hL,rs hI⟩
 ·obtain ⟨ι',H',av,p,r,rfl⟩:=g
  cases r
  refine GoodW.toG ⟨.inl ⟨_,.bool true,[],rfl,hr,.bool true,hp,fun _=>⟨List.nodup_nil,fun a ha=>nomatch ha⟩⟩,fun b o e=>p.hr.base b o e,p.same.2,p.same.1.trans hg⟩
end
theorem post_true (l:OpenLaw) (args:List WData):l.row.claim.post args (.bool true) args=true :=
 postW_of (r:=l.row.toRowW) (X:=true) rfl (w_eq_bool (k:=true) (l:=true) (w_res rfl) w_lit) rfl
end Mine
namespace Mine
open PySem
theorem place_nn {k:Int}{n:Nat}(h0:0<=k) (h1:k<n):place k n=some k.toNat:=by
 unfold place;rw [if_pos h0,if_pos h1]
theorem log2_lt {n k:Nat}(h:n<2^k) (hk:0<k):n.log2<k:=by
 by_cases h0:n=0
 ·subst h0;simpa using hk
 ·exact (Nat.log2_lt h0).mpr h
theorem intBits_le {a:Int}{k:Nat}(h:a.natAbs<2^k):Builtin.Int.intBits a<=k:=by
 unfold Builtin.Int.intBits
 split
 ·exact Nat.zero_le _
 ·rename_i h0
  have hk:0<k:=by
   rcases Nat.eq_zero_or_pos k with rfl|hk
   ·simp at h;simp [h] at h0
   ·exact hk
  exact log2_lt h hk
theorem mulOk_left {a b:Int}(h:a.natAbs<2^64):IntMulOk a b:=IntMulOk.of_left (intBits_le h)
theorem noPy {a b:Int}(h:b.natAbs<2^9000):NoPy a b:=by
 unfold NoPy Builtin.divisionGoesByPylong
 simp only [gt_iff_lt,Bool.and_eq_false_imp,decide_eq_true_eq]
 intro h1
 exfalso
 split at h1
 ·(first|lia|omega)
 ·have:=log2_lt h (by (first|lia|omega))
  (first|lia|omega)
theorem noPyS {a b:Int}(h:b.natAbs<2^64):NoPy a b:=noPy (Nat.lt_of_lt_of_le h (Nat.pow_le_pow_right (by decide) (by decide)))
theorem fmod_nn {a b:Int}(h:0<=b):a.fmod b=a%b:=Int.fmod_eq_emod_of_nonneg a h
theorem fdiv_nn {a b:Int}(h:0<=b):a.fdiv b=a/b:=Int.fdiv_eq_ediv_of_nonneg a h
theorem st0:([]:List AV).length<=1000:=by simp
theorem sz1 {a0:AV}:[a0].length<=sizeLine:=by simp [sizeLine]
theorem sz2 {a0 a1:AV}:[a0,a1].length<=sizeLine:=by simp [sizeLine]
theorem su2 {a0 a1:AV}:[a0,a1].length<2^62:=by simp
theorem sz3 {a0 a1 a2:AV}:[a0,a1,a2].length<=sizeLine:=by simp [sizeLine]
theorem su3 {a0 a1 a2:AV}:[a0,a1,a2].length<2^62:=by simp
theorem sz4 {a0 a1 a2 a3:AV}:[a0,a1,a2,a3].length<=sizeLine:=by simp [sizeLine]
theorem sz8 {a0 a1 a2 a3 a4 a5 a6 a7:AV}:[a0,a1,a2,a3,a4,a5,a6,a7].length<=sizeLine:=by simp [sizeLine]
end Mine
namespace Mine
open PySem
noncomputable def wps:=And.intro @ss_nil <| And.intro @ss_cons <| And.intro @thenS_next <| And.intro @thenS_ret <| And.intro @s_asg <| And.intro @s_asgT <| And.intro @s_sto <| And.intro @s_ite <| And.intro @s_ret <| And.intro @s_ret0 <| And.intro @s_expr <| And.intro @s_for <| And.intro @whlK_ret <| And.intro @forK_ret <| And.intro @end_ret <| And.intro @end_next <| And.intro @k_bin1 <| And.intro @k_bin2 <| And.intro @k_cmp1 <| And.intro @k_cmp2 <| And.intro @k_c1 <| And.intro @k_c2 <| And.intro @k_c3 <| And.intro @k_c4t <| And.intro @k_c4f <| And.intro @k_not <| And.intro @k_neg <| And.intro @k_and <| And.intro @k_andt <| And.intro @k_andf <| And.intro @k_or <| And.intro @k_ort <| And.intro @k_orf <| And.intro @k_call <| And.intro @k_bi <| And.intro @k_isi <| And.intro @k_idx1 <| And.intro @k_idx2 <| And.intro @k_s1 <| And.intro @k_s2n <| And.intro @k_s2o <| And.intro @k_s4n <| And.intro @k_s4o <| And.intro @k_s6 <| And.intro @k_t1 <| And.intro @k_t2n <| And.intro @k_t2o <| And.intro @k_t4n <| And.intro @k_t4o <| And.intro @k_tup <| And.intro @k_lst <| And.intro @k_m1 <| And.intro @k_m2 <| And.intro @k_e1 <| And.intro @k_e2 <| And.intro @k_cs <| And.intro @k_cst <| And.intro @k_csf <| And.intro @k_it <| And.intro @k_asg <| And.intro @k_asgT <| And.intro @k_sto1 <| And.intro @k_sto2 <| And.intro @k_sto3 <| And.intro @k_sto4 <| And.intro @k_ite <| And.intro @k_itet <| And.intro @k_itef <| And.intro @k_ret <| And.intro @k_exp <| And.intro @k_whl <| And.intro @k_whlt <| And.intro @k_whlf <| And.intro @e_cst <| And.intro @e_loc0 <| And.intro @e_locS <| And.intro @e_bin <| And.intro @e_cmp <| And.intro @e_cmp2 <| And.intro @e_not <| And.intro @e_neg <| And.intro @e_and2 <| And.intro @e_or2 <| And.intro @e_call <| And.intro @e_bi <| And.intro @e_isi <| And.intro @e_idx <| And.intro @e_slc <| And.intro @e_slcT <| And.intro @e_rev <| And.intro @e_tup <| And.intro @e_lst <| And.intro @e_dic0 <| And.intro @e_dic1 <| And.intro @k_d1 <| And.intro @k_d3 <| And.intro @r_enum <| And.intro @e_meth <| And.intro @e_comp <| And.intro @es_nil <| And.intro @es_cons <| And.intro @cs_nil <| And.intro @cs_cons <| And.intro @withL_some <| And.intro @b_add <| And.intro @b_sub <| And.intro @b_mul <| And.intro @b_mod <| And.intro @b_fdiv <| And.intro @b_pow <| And.intro @b_addT <| And.intro @c_lt <| And.intro @c_le <| And.intro @c_gt <| And.intro @c_ge <| And.intro @c_eqI <| And.intro @c_neI <| And.intro @c_eqS <| And.intro @c_neS <| And.intro @c_eqB <| And.intro @c_neB <| And.intro @i_tup0 <| And.intro @i_tup1 <| And.intro @i_tup2 <| And.intro @l_tup <| And.intro @l_fro <| And.intro @g_tup <| And.intro @n_bool <| And.intro @n_min <| And.intro @n_max <| And.intro @r_one <| And.intro @r_two @r_tup
theorem set0 {α:Type}{a b:α}{l:List α}:(a::l).set 0 b=b::l:=rfl
theorem setS {α:Type}{a b:α}{l:List α}{n:Nat}:(a::l).set (n+1) b=a::l.set n b:=rfl
theorem mapC {α β:Type}{f:α->β}{a:α}{l:List α}:(a::l).map f=f a::l.map f:=rfl
theorem mapN {α β:Type}{f:α->β}:([]:List α).map f=[]:=rfl
theorem appC {α:Type}{a:α}{l m:List α}:(a::l)++m=a::(l++m):=rfl
theorem appN {α:Type}{l:List α}:[]++l=l:=rfl
theorem repS {α:Type}{a:α}{n:Nat}:List.replicate (n+1) a=a::List.replicate n a:=rfl
theorem repZ {α:Type}{a:α}:List.replicate 0 a=[]:=rfl
theorem sAc {i:Nat}{v:AV}{r:List (Nat×AV)}{loc:Loc}:setAll ((i,v)::r) loc=setAll r (loc.set i (some v)):=rfl
theorem sAn {loc:Loc}:setAll [] loc=loc:=rfl
theorem zipC {α β:Type}{a:α}{b:β}{l:List α}{m:List β}:(a::l).zip (b::m)=(a,b)::l.zip m:=rfl
theorem zipN {α β:Type}{l:List β}:([]:List α).zip l=[]:=rfl
theorem zipM {α β:Type}{l:List α}:l.zip ([]:List β)=[]:=by cases l<;>rfl
noncomputable def lst:=And.intro @set0 <| And.intro @setS <| And.intro @mapC <| And.intro @mapN <| And.intro @appC <| And.intro @appN <| And.intro @repS <| And.intro @repZ <| And.intro @sAc <| And.intro @sAn <| And.intro @zipC <| And.intro @zipN <| And.intro @zipM <| And.intro Bool.not_true Bool.not_false
theorem all0 {P:List Value->Prop}(h:P []):∀ vals:List Value,vals.length=0->P vals:=fun vals e=>by
 rw [List.eq_nil_of_length_eq_zero e];exact h
theorem all1 {P:List Value->Prop}(h:∀ a,P [a]) (vals:List Value) (e:vals.length=1):P vals:=by
 cases vals with
 | nil=>cases e
 | cons a r=>exact all0 (P:=fun l=>P (a::l)) (h a) r (Nat.succ.inj e)
theorem all2 {P:List Value->Prop}(h:∀ a b,P [a,b]) (vals:List Value) (e:vals.length=2):P vals:=by
 cases vals with
 | nil=>cases e
 | cons a r=>exact all1 (P:=fun l=>P (a::l)) (h a) r (Nat.succ.inj e)
theorem all3 {P:List Value->Prop}(h:∀ a b c,P [a,b,c]) (vals:List Value) (e:vals.length=3):P vals:=by
 cases vals with
 | nil=>cases e
 | cons a r=>exact all2 (P:=fun l=>P (a::l)) (h a) r (Nat.succ.inj e)
end Mine
namespace Mine
open PySem PySem.W
theorem digs_len:∀ (k m:Nat),1<=k->m<10^k->(Nat.toDigits 10 m).length<=k
 | 0,m,h,_=>by (first|lia|omega)
 | k+1,m,_,h=>by
  by_cases h10:m<10
  ·rw [Nat.toDigits_of_lt_base h10];simp
  ·have hm:m%10<10:=Nat.mod_lt m (by decide)
   have t:Nat.toDigits 10 (m/10)++Nat.toDigits 10 (m%10)=Nat.toDigits 10 (10*(m/10)+m%10):=Nat.toDigits_append_toDigits (by decide) (by (first|lia|omega)) hm
   rw [Nat.div_add_mod] at t
   rw [←t,List.length_append,Nat.toDigits_of_lt_base hm]
   have k1:1<=k:=by
    rcases Nat.eq_zero_or_pos k with z|z
    ·subst z;simp at h;(first|lia|omega)
    ·exact z
   have:=digs_len k (m/10) k1 (by rw [Nat.pow_succ] at h;(first|lia|omega))
   simp only [List.length_singleton];(first|lia|omega)
noncomputable def joinC (c:Nat):List (List Nat)->List Nat
 | []=>[]
 | [x]=>x
 | x::y::r=>x++c::joinC c (y::r)
theorem cut_eq {c:Nat}:∀ {x y A B:List Nat},c∉x->c∉y->x++c::A=y++c::B->x=y/\A=B
 | [],[],A,B,_,_,e=>⟨rfl,by simpa using e⟩
 | [],b::y,A,B,_,hy,e=>by simp at e;exact absurd e.1 (fun z=>hy (by simp [z]))
 | a::x,[],A,B,hx,_,e=>by simp at e;exact absurd e.1 (fun z=>hx (by simp [z]))
 | a::x,b::y,A,B,hx,hy,e=>by
  simp only [List.cons_append,List.cons.injEq] at e
  obtain ⟨h1,h2⟩:=cut_eq (fun z=>hx (by simp [z])) (fun z=>hy (by simp [z])) e.2
  exact ⟨by rw [e.1,h1],h2⟩
theorem uniq_parts {c:Nat}:∀ {a b:List (List Nat)},(∀ l∈a,c∉l)->(∀ l∈b,c∉l)->a≠[]->b≠[]->joinC c a=joinC c b->a=b
 | [],_,_,_,h,_,_=>absurd rfl h
 | _,[],_,_,_,h,_=>absurd rfl h
 | [x],[y],_,_,_,_,e=>by rw [show x=y from e]
 | [x],y::z::r,ha,_,_,_,e=>by
  have e:x=y++c::joinC c (z::r):=e
  exact absurd (by rw [e];simp) (ha x (by simp))
 | x::z::r,[y],_,hb,_,_,e=>by
  have e:x++c::joinC c (z::r)=y:=e
  exact absurd (by rw [←e];simp) (hb y (by simp))
 | x::x'::a,y::y'::b,ha,hb,_,_,e=>by
  obtain ⟨h1,h2⟩:=cut_eq (ha x (by simp)) (hb y (by simp)) e
  rw [h1,uniq_parts (fun l hl=>ha l (by simp [hl])) (fun l hl=>hb l (by simp [hl])) (by simp) (by simp) h2]
theorem join_list (c:Nat):∀ l:List Str,(Str.join ⟨#[c]⟩ l).cps.toList=joinC c (l.map (·.cps.toList))
 | []=>rfl
 | [x]=>rfl
 | x::y::r=>by
  show (x++(⟨#[c]⟩:Str)++Str.join ⟨#[c]⟩ (y::r)).cps.toList=_
  rw [Str.cps_append,Str.cps_append,Array.toList_append,Array.toList_append,join_list c (y::r)]
  simp [joinC]
theorem str_inj {a b:Str}(h:a.cps.toList=b.cps.toList):a=b:=Str.ext' (Array.toList_inj.mp h)
theorem split_join {c:Nat}{l:List Str}(h:∀ p∈l,c∉p.cps.toList) (ne:l≠[]):Txt.split (Str.join ⟨#[c]⟩ l) ⟨#[c]⟩=l:=by
 have e:=StrLaws.join_split (Str.join ⟨#[c]⟩ l) ⟨#[c]⟩
 have f:=StrLaws.split_free (Str.join ⟨#[c]⟩ l) c
 generalize hx:Txt.split (Str.join ⟨#[c]⟩ l) ⟨#[c]⟩=m at e f
 have m0:m≠[]:=fun z=>by
  rw [←hx] at z
  unfold Txt.split at z
  split at z
  ·cases z
  ·split at z
   ·cases z
   ·rw [StrLaws.partsBetween_eq] at z
    obtain ⟨p,r,q⟩:=StrLaws.partsFrom_ne (Str.join ⟨#[c]⟩ l) (⟨#[c]⟩:Str).length 0 (Builtin.Str.occurrences (Str.join ⟨#[c]⟩ l) ⟨#[c]⟩ 0 (Str.join ⟨#[c]⟩ l).length ((Str.join ⟨#[c]⟩ l).length+1))
    rw [q] at z;cases z
 have g:=congrArg (fun x:Str=>x.cps.toList) e
 rw [join_list,join_list] at g
 have u:=uniq_parts (c:=c) (a:=m.map (·.cps.toList)) (b:=l.map (·.cps.toList)) (fun y hy=>by obtain ⟨p,hp,rfl⟩:=List.mem_map.mp hy;exact f p hp) (fun y hy=>by obtain ⟨p,hp,rfl⟩:=List.mem_map.mp hy;exact h p hp)
  (fun z=>m0 (List.map_eq_nil_iff.mp z)) (fun z=>ne (List.map_eq_nil_iff.mp z)) g
 exact (List.map_inj_right (fun a b z=>str_inj z)).mp u
noncomputable def numT (n:Nat):Str:=Str.ofString (toString ((n:Nat):Int))
theorem numT_cps (n:Nat):(numT n).cps.toList=(Nat.toDigits 10 n).map Char.toNat:=KIN.signs_num n
theorem numT_digits (n:Nat):∀ c∈(numT n).cps.toList,48<=c/\c<=57:=by
 intro c hc
 rw [numT_cps] at hc
 obtain ⟨ch,hch,e⟩:=List.mem_map.mp hc
 rw [←e]
 exact PyProof.Rows.digit_range (Nat.isDigit_of_mem_toDigits (by decide) (by decide) hch)
theorem numT_len {n k:Nat}(k1:1<=k) (h:n<10^k):1<=(numT n).length/\(numT n).length<=k:=by
 have e:(numT n).length=(Nat.toDigits 10 n).length:=by
  have:(numT n).cps.toList.length=(numT n).length:=Array.length_toList
  rw [←this,numT_cps,List.length_map]
 rw [e]
 refine ⟨?_,digs_len k n k1 h⟩
 cases z:Nat.toDigits 10 n with
 | nil=>exact absurd z Nat.toDigits_ne_nil
 | cons=>simp
end Mine
set_option maxRecDepth 100000
namespace Mine
open PySem PySem.W PyProof.Rows
variable {P:PEnv}{d:Nat}{H:Hp}
theorem strOk_iff {x:Str}:PyData.strOk x=true↔∀ c∈x.cps.toList,c<0x110000:=by
 unfold PyData.strOk
 rw [←Array.all_toList,List.all_eq_true]
 simp
theorem strOk_num (n:Nat):PyData.strOk (numT n)=true:=strOk_iff.mpr fun c hc=>by have:=numT_digits n c hc;(first|lia|omega)
theorem strOk_app {x y:Str}(hx:PyData.strOk x=true) (hy:PyData.strOk y=true):PyData.strOk (x++y)=true:=strOk_iff.mpr fun c hc=>by
 rw [Str.cps_append,Array.toList_append] at hc
 exact (List.mem_append.mp hc).elim (strOk_iff.mp hx c) (strOk_iff.mp hy c)
theorem fn_strI {n:Nat}{Q:AV->Hp->Prop}(hn:n<2^1000) (h:Q (.str (numT n)) H):OpOK P d (fun vs=>call (.type "str") vs) [.int n] H Q:=fn1 fun A E ι s u w r=>by
 obtain ⟨t,rfl⟩:=r
 have hl:((n:Nat):Int).natAbs.log2<1920:=by
  rw [Int.natAbs_natCast]
  rcases Nat.eq_zero_or_pos n with z|z
  ·subst z;decide
  ·have:=(Nat.log2_lt (by (first|lia|omega))).mpr hn
   (first|lia|omega)
 exact PySem.P.str_of_int hl (Gives.now _ w.hr (VR.mkStr _ _ (strOk_num n)) h)
theorem fn_lenS {x:Str}{Q:AV->Hp->Prop}(hn:x.length<2^62) (h:Q (.int x.length) H):OpOK P d (fun vs=>call (.builtin "len") vs) [.str x] H Q:=fn1 fun A E ι s u w r=>by
 obtain ⟨_,t,rfl⟩:=r
 exact PyProof.Rows.len_str (by (first|lia|omega)) (Gives.now _ w.hr (VR.mkInt _ _) h)
theorem fn_intS {x:Str}{n:Int}{Q:AV->Hp->Prop}(hx:PySem.intText? x=some n) (hn:x.length<=600) (h:Q (.int n) H):OpOK P d (fun vs=>call (.type "int") vs) [.str x] H Q:=fn1 fun A E ι s u w r=>by
 obtain ⟨_,t,rfl⟩:=r
 exact KIN.call_text hx (Nat.le_trans hn (by decide)) (Gives.now _ w.hr (VR.mkInt _ _) h)
theorem cmp_inS {x:Str}{c:Nat}{Q:AV->Hp->Prop}(h:Q (.bool (decide (c∈x.cps.toList))) H):CmpOK P d .In (.str ⟨#[c]⟩) (.str x) H Q:=op2 fun A E ι s u v w r1 r2=>by
 obtain ⟨k1,t,rfl⟩:=r1
 obtain ⟨k2,t',rfl⟩:=r2
 refine PySem.P.in_str ?_
 rw [StrLaws.found_one]
 exact Gives.same w.hr (VR.mkBool _) h
theorem VRs.texts {B h:Heap}{ι:List Addr}:∀ {xs:List Str}{vs:List Value},VRs B h ι (xs.map .str) vs->∃ l:List (Str×Tok),vs=strValues l/\l.map (·.1)=xs/\∀ x∈xs,PyData.strOk x=true
 | [],vs,r=>⟨[],r,rfl,fun x hx=>by cases hx⟩
 | x::xs,vs,r=>by
  obtain ⟨v,vs',rfl,⟨k,t,rfl⟩,r'⟩:=r
  obtain ⟨l,rfl,e,q⟩:=VRs.texts r'
  exact ⟨(x,t)::l,rfl,by rw [List.map_cons,e],fun y hy=>by
   rcases List.mem_cons.mp hy with rfl|hy
   ·exact k
   ·exact q y hy⟩
theorem VRs.of_texts {B h:Heap}{ι:List Addr}:∀ {l:List (Str×Tok)},(∀ x∈l.map (·.1),PyData.strOk x=true)->VRs B h ι ((l.map (·.1)).map .str) (strValues l)
 | [],_=>rfl
 | p::l,k=>⟨_,_,rfl,⟨k p.1 (by simp),p.2,rfl⟩,VRs.of_texts fun x hx=>k x (by simp only [List.map_cons,List.mem_cons];exact .inr hx)⟩
theorem strOk_join {sep:Str}(hs:PyData.strOk sep=true):∀ {xs:List Str},(∀ x∈xs,PyData.strOk x=true)->PyData.strOk (Str.join sep xs)=true
 | [],_=>strOk_iff.mpr fun c hc=>by simp [Str.join,Str.empty] at hc
 | [x],h=>h x (by simp)
 | x::y::r,h=>strOk_app (strOk_app (h x (by simp)) hs) (strOk_join hs fun z hz=>h z (by simp only [List.mem_cons] at hz ⊢;exact .inr hz))
theorem fn_join {sep:Str}{i:Nat}{xs:List Str}{Q:AV->Hp->Prop}(hi:H[i]?=some (.list (xs.map .str))) (hok:JoinOk sep xs=true) (h:Q (.str (Str.join sep xs)) H):OpOK P d (fun vs=>call (.builtin "str.join") vs) [.str sep,.ref i] H Q:=fun A E ι s us w rs=>by
 obtain ⟨u,v,rfl,r1,r2⟩:=vrs2 rs
 obtain ⟨k1,t,rfl⟩:=r1
 obtain ⟨a,rfl,ea⟩:=r2
 obtain ⟨a',ea',vs,pl,rv⟩:=w.hr.objs i _ hi
 rw [ea] at ea';cases ea'
 obtain ⟨l,rfl,e,q⟩:=rv.texts
 refine PySem.SC.join pl.isList e hok fun t' tk=>?_
 have ej:Txt.join sep xs=Str.join sep xs:=StrLaws.glued_eq_join sep xs
 rw [ej]
 exact Gives.now _ w.hr (VR.mkStr _ _ (strOk_join k1 q)) h
theorem gives_texts {ι:List Addr}{s:Shared}{l:List (Str×Tok)}{tk:Nat}{Q:AV->Hp->Prop}(hr:HR P.B ι H s.heap) (ok:∀ x∈l.map (·.1),PyData.strOk x=true) (h:Q (.ref H.length) (H++[.list ((l.map (·.1)).map .str)])) :
  Gives P.B ι s Q (.ref s.heap.objs.size) { s with heap:=s.heap.push { cls:=.type "list",data:=.seq (strValues l).toArray },toks:=tk }:=by
 have g:=gives_newList (s:={ s with toks:=tk }) hr (VRs.of_texts ok) h
 exact g.before (Post.refl hr tk)
theorem joinC_mem {c ch:Nat}:∀ {a:List (List Nat)}{l:List Nat},l∈a->ch∈l->ch∈joinC c a
 | [x],l,h,q=>by rw [List.mem_singleton.mp h] at q;exact q
 | x::y::r,l,h,q=>by
  show ch∈x++c::joinC c (y::r)
  rcases List.mem_cons.mp h with rfl|h
  ·exact List.mem_append_left _ q
  ·exact List.mem_append_right _ (List.mem_cons_of_mem _ (joinC_mem h q))
theorem strOk_split {x:Str}{c:Nat}(h:PyData.strOk x=true):∀ p∈Txt.split x ⟨#[c]⟩,PyData.strOk p=true:=fun p hp=>strOk_iff.mpr fun ch hch=>by
 refine strOk_iff.mp h ch ?_
 rw [←StrLaws.join_split x ⟨#[c]⟩,join_list]
 exact joinC_mem (List.mem_map.mpr ⟨p,hp,rfl⟩) hch
open Builtin Builtin.Str in
theorem fn_split {x:Str}{c:Nat}{Q:AV->Hp->Prop}(hn:x.length+1<=sizeLine) (h:Q (.ref H.length) (H++[.list ((Txt.split x ⟨#[c]⟩).map .str)])):OpOK P d (fun vs=>call (.builtin "str.split") vs) [.str x,.str ⟨#[c]⟩] H Q:=fun A E ι s us w rs=>by
 obtain ⟨u,v,rfl,r1,r2⟩:=vrs2 rs
 obtain ⟨k1,t,rfl⟩:=r1
 obtain ⟨k2,t',rfl⟩:=r2
 have so:=strOk_split (c:=c) k1
 have wt:=split_weight x ⟨#[c]⟩ (Nat.le_refl 1)
 have hy:((⟨#[c]⟩:Str).length == 0)=false:=rfl
 cases h1:(decide (x.length<(⟨#[c]⟩:Str).length)||decide (strKind x<strKind ⟨#[c]⟩))
 ·cases hf:(occurrences x ⟨#[c]⟩ 0 x.length (x.length+1)).isEmpty
  ·have es:Txt.split x ⟨#[c]⟩=partsBetween x (occurrences x ⟨#[c]⟩ 0 x.length (x.length+1)) (⟨#[c]⟩:Str).length:=(if_neg (ne_true_of_eq_false h1)).trans (if_neg (ne_true_of_eq_false hf))
   rw [es] at so wt h
   refine call_meets F.slot_str_split (typeIs_str _ _ _) F.entry_str_split (F.args_str_split_2 _ _) (meets_str_split_sep x ⟨#[c]⟩ t t' h1 hy hf (by (first|lia|omega)) (by (first|lia|omega))) ?_
   show Gives P.B ι s Q (.ref s.heap.objs.size) { s with toks:=_,heap:=s.heap.push { cls:=.type "list",data:=.seq (strsFrom s.toks (partsBetween x (occurrences x ⟨#[c]⟩ 0 x.length (x.length+1)) (⟨#[c]⟩:Str).length)).toArray } }
   rw [strsFrom_eq]
   have en:=numbered_texts s.toks (partsBetween x (occurrences x ⟨#[c]⟩ 0 x.length (x.length+1)) (⟨#[c]⟩:Str).length)
   exact gives_texts w.hr (by rw [en];exact so) (by rw [en];exact h)
  ·have es:Txt.split x ⟨#[c]⟩=[x]:=(if_neg (ne_true_of_eq_false h1)).trans (if_pos hf)
   rw [es] at h
   exact call_meets F.slot_str_split (typeIs_str _ _ _) F.entry_str_split (F.args_str_split_2 _ _) (meets_str_split_not_found x ⟨#[c]⟩ t t' h1 hy hf) (gives_texts (l:=[(x,t)]) w.hr (fun y hy=>by rw [show y=x by simpa using hy];exact k1) h)
 ·have es:Txt.split x ⟨#[c]⟩=[x]:=if_pos h1
  rw [es] at h
  exact call_meets F.slot_str_split (typeIs_str _ _ _) F.entry_str_split (F.args_str_split_2 _ _) (meets_str_split_cannot_occur x ⟨#[c]⟩ t t' h1) (gives_texts (l:=[(x,t)]) w.hr (fun y hy=>by rw [show y=x by simpa using hy];exact k1) h)
end Mine
set_option maxRecDepth 100000
namespace Mine
open PySem PySem.W PyProof.Rows
noncomputable def kStrI (Q:PQ):PQ:=fun v H=>asI v fun k=>∃ n:Nat,k=n/\n<2^1000/\Q (.str (numT n)) H
noncomputable def kLenS (Q:PQ):PQ:=fun v H=>asS v fun x=>x.length<2^62/\Q (.int x.length) H
noncomputable def kIntS (Q:PQ):PQ:=fun v H=>asS v fun x=>∃ n:Int,PySem.intText? x=some n/\x.length<=600/\Q (.int n) H
noncomputable def kJoin1 (Φ:Fun) (b:ME) (loc:Loc) (Q:PQ):PQ:=fun v H=>asS v fun x=>wpE Φ b loc H fun u H'=>asR u fun i=>∃ xs:List Str,H'[i]?=some (.list (xs.map .str))/\JoinOk x xs=true/\Q (.str (Str.join x xs)) H'
noncomputable def kSplit1 (Φ:Fun) (b:ME) (loc:Loc) (Q:PQ):PQ:=fun v H=>asS v fun x=>wpE Φ b loc H fun u H'=>asS u fun y=>∃ c,y=⟨#[c]⟩/\x.length+1<=sizeLine/\Q (.ref H'.length) (H'++[.list ((Txt.split x ⟨#[c]⟩).map .str)])
namespace ME
noncomputable def strI (a:ME):ME:=fun Φ loc H Q=>wpE Φ a loc H (kStrI Q)
noncomputable def lenS (a:ME):ME:=fun Φ loc H Q=>wpE Φ a loc H (kLenS Q)
noncomputable def intS (a:ME):ME:=fun Φ loc H Q=>wpE Φ a loc H (kIntS Q)
noncomputable def joinS (a b:ME):ME:=fun Φ loc H Q=>wpE Φ a loc H (kJoin1 Φ b loc Q)
noncomputable def splitS (a b:ME):ME:=fun Φ loc H Q=>wpE Φ a loc H (kSplit1 Φ b loc Q)
end ME
section
variable {G:GT}{C:Ctx}{a b:ME}{x y:Expr}{pos:Pos}
theorem CE.strI {pn:Pos}(gn:GN C "str") (ha:CE G C a x):CE G C (.strI a) (.Call (.Name "str" pn) [x] [] pos):=⟨fun _ _=>rfl,fun _=>rfl,fun _ _=>rfl,fun {P d Φ} ok hΦ loc H Q w=>by
 obtain ⟨h1,h2⟩:=ok.ty .str
 have w':wpEs Φ [a] loc H (fun vs H'=>as1 vs fun v=>kStrI Q v H'):=w
 refine .plain (ev_ty ok.toOK gn.look gn.dbg h1 h2 (((CEs.cons ha .nil).snd ok hΦ w').mono fun vs H' w=>?_) (fun env=>ha.star _ env) (CEs.nil (G:=G) (C:=C)).plain) fun _ _=>rfl
 obtain ⟨v,rfl,w⟩:=as1.ex w
 obtain ⟨k,rfl,n,rfl,h3,h4⟩:=asI.ex w
 exact fn_strI h3 h4⟩
theorem CE.lenS {pn:Pos}(gn:GN C "len") (ha:CE G C a x):CE G C (.lenS a) (.Call (.Name "len" pn) [x] [] pos):=⟨fun _ _=>rfl,fun _=>rfl,fun _ _=>rfl,fun {P d Φ} ok hΦ loc H Q w=>by
 obtain ⟨h1,h2⟩:=ok.blt .len
 have w':wpEs Φ [a] loc H (fun vs H'=>as1 vs fun v=>kLenS Q v H'):=w
 refine .plain (ev_bi ok.toOK gn.look gn.dbg h1 h2 (((CEs.cons ha .nil).snd ok hΦ w').mono fun vs H' w=>?_) (fun env=>ha.star _ env) (CEs.nil (G:=G) (C:=C)).plain) fun _ _=>rfl
 obtain ⟨v,rfl,w⟩:=as1.ex w
 obtain ⟨k,rfl,h3,h4⟩:=asS.ex w
 exact fn_lenS h3 h4⟩
theorem CE.intS {pn:Pos}(gn:GN C "int") (ha:CE G C a x):CE G C (.intS a) (.Call (.Name "int" pn) [x] [] pos):=⟨fun _ _=>rfl,fun _=>rfl,fun _ _=>rfl,fun {P d Φ} ok hΦ loc H Q w=>by
 obtain ⟨h1,h2⟩:=ok.ty .int
 have w':wpEs Φ [a] loc H (fun vs H'=>as1 vs fun v=>kIntS Q v H'):=w
 refine .plain (ev_ty ok.toOK gn.look gn.dbg h1 h2 (((CEs.cons ha .nil).snd ok hΦ w').mono fun vs H' w=>?_) (fun env=>ha.star _ env) (CEs.nil (G:=G) (C:=C)).plain) fun _ _=>rfl
 obtain ⟨v,rfl,w⟩:=as1.ex w
 obtain ⟨k,rfl,n,h2',h3,h4⟩:=asS.ex w
 exact fn_intS h2' h3 h4⟩
theorem CE.joinS {apos:Pos}(ha:CE G C a x) (hb:CE G C b y) (hf:MethForm x "join" apos pos [y]):CE G C (.joinS a b) (.Call (.Attribute x "join" apos) [y] [] pos):=⟨fun _ _=>rfl,fun _=>rfl,fun _ _=>rfl,fun {P d Φ} ok hΦ loc H Q w=>by
 refine .plain (ev_meth (pl:=fun env=>do return (←importBound _ env).getD true) ((ha.snd ok hΦ w).1.mono fun v H₁ w=>?_) hf.he (fun env=>hb.star _ env) (CEs.nil (G:=G) (C:=C)).plain) fun _ _=>rfl
 obtain ⟨s,rfl,w⟩:=asS.ex w
 refine ⟨"str.join",fun A E ι s' v pl Q hr r q=>?_,?_⟩
 ·obtain ⟨_,t,rfl⟩:=r
  exact PySem.GM.join q
 ·have w':wpEs Φ [b] loc H₁ (fun vs H'=>as1 vs fun u=>asR u fun i=>∃ xs:List Str,H'[i]?=some (.list (xs.map .str))/\JoinOk s xs=true/\Q (.str (Str.join s xs)) H'):=w
  refine ((CEs.cons hb .nil).snd ok hΦ w').mono fun vs H' w=>?_
  obtain ⟨v,rfl,w⟩:=as1.ex w
  obtain ⟨i,rfl,xs,h1,h2,h3⟩:=asR.ex w
  exact fn_join h1 h2 h3⟩
theorem CE.splitS {apos:Pos}(ha:CE G C a x) (hb:CE G C b y) (hf:MethForm x "split" apos pos [y]):CE G C (.splitS a b) (.Call (.Attribute x "split" apos) [y] [] pos):=⟨fun _ _=>rfl,fun _=>rfl,fun _ _=>rfl,fun {P d Φ} ok hΦ loc H Q w=>by
 refine .plain (ev_meth (pl:=fun env=>do return (←importBound _ env).getD true) ((ha.snd ok hΦ w).1.mono fun v H₁ w=>?_) hf.he (fun env=>hb.star _ env) (CEs.nil (G:=G) (C:=C)).plain) fun _ _=>rfl
 obtain ⟨s,rfl,w⟩:=asS.ex w
 refine ⟨"str.split",fun A E ι s' v pl Q hr r q=>?_,?_⟩
 ·obtain ⟨_,t,rfl⟩:=r
  exact PySem.GM.split q
 ·have w':wpEs Φ [b] loc H₁ (fun vs H'=>as1 vs fun u=>asS u fun z=>∃ c,z=⟨#[c]⟩/\s.length+1<=sizeLine/\Q (.ref H'.length) (H'++[.list ((Txt.split s ⟨#[c]⟩).map .str)])):=w
  refine ((CEs.cons hb .nil).snd ok hΦ w').mono fun vs H' w=>?_
  obtain ⟨v,rfl,w⟩:=as1.ex w
  obtain ⟨z,rfl,c,rfl,h2,h3⟩:=asS.ex w
  exact fn_split h2 h3⟩
end
end Mine
namespace Mine
open PySem PySem.W PyProof.Rows
noncomputable def kIn1 (Φ:Fun) (b:ME) (loc:Loc) (Q:PQ):PQ:=fun u H₁=>asS u fun z=>∃ c,z=⟨#[c]⟩/\wpE Φ b loc H₁ fun v H₂=>asS v fun x=>Q (.bool (decide (c∈x.cps.toList))) H₂
noncomputable def ME.inS (a b:ME):ME:=fun Φ loc H Q=>wpE Φ a loc H (kIn1 Φ b loc Q)
theorem CE.inS {G:GT}{C:Ctx}{a b:ME}{x y:Expr}{pos:Pos}(ha:CE G C a x) (hb:CE G C b y):CE G C (.inS a b) (.Compare x [.In] [y] pos):=⟨fun _ _=>rfl,fun _=>rfl,fun _ _=>rfl,fun {P d Φ} ok hΦ loc H Q w=>by
 refine ⟨ev_cmp ((ha.snd ok hΦ w).1.mono fun u H₁ w=>?_) (hb.marks _),fun K hk=>ts_cmp ((ha.snd ok hΦ w).1.mono fun u H₁ w=>?_) (hb.marks _)⟩
 ·obtain ⟨z,rfl,w1⟩:=asS.ex w
  obtain ⟨c,rfl,w2⟩:=w1
  refine (hb.snd ok hΦ w2).1.mono fun v H₂ w3=>?_
  obtain ⟨t,rfl,w4⟩:=asS.ex w3
  exact cmp_inS w4
 ·obtain ⟨z,rfl,w1⟩:=asS.ex w
  obtain ⟨c,rfl,w2⟩:=w1
  refine (hb.snd ok hΦ w2).1.mono fun v H₂ w3=>?_
  obtain ⟨t,rfl,w4⟩:=asS.ex w3
  exact OpOK.mono (cmp_inS w4) fun v H' q=>(hk v H' q).ex⟩
end Mine
set_option maxRecDepth 100000
namespace Mine
open PySem PySem.W PyProof.Rows
noncomputable def kFmt1 (Φ:Fun) (sep:Str) (b:ME) (loc:Loc) (Q:PQ):PQ:=fun v H=>asI v fun k=>∃ m:Nat,k=m/\m<10^100/\wpE Φ b loc H fun u H'=>asI u fun j=>∃ n:Nat,j=n/\n<10^100/\Q (.str (numT m++sep++numT n)) H'
noncomputable def ME.fmt2 (sep:Str) (a b:ME):ME:=fun Φ loc H Q=>wpE Φ a loc H (kFmt1 Φ sep b loc Q)
theorem log_small {m:Nat}(h:m<10^100):((m:Nat):Int).natAbs.log2<1920:=by
 rw [Int.natAbs_natCast]
 rcases Nat.eq_zero_or_pos m with z|z
 ·subst z;decide
 ·have:=(Nat.log2_lt (k:=1000) (by (first|lia|omega))).mpr (Nat.lt_of_lt_of_le h (by decide +kernel))
  (first|lia|omega)
theorem CE.fmt2 {G:GT}{C:Ctx}{a b:ME}{x y:Expr}{sep:Str}{k:Nat}{p1 p2 p3 pos:Pos}(hs:PyData.strOk sep=true) (hz:sep.length<=10) (ha:CE G C a x) (hb:CE G C b y) :
  CE G C (.fmt2 sep a b) (.JoinedStr [.FormattedValue x (-1) Option.none p1,.Constant (.str sep) k p2,.FormattedValue y (-1) Option.none p3] pos):=⟨fun _ _=>rfl,fun _=>rfl,fun _ _=>rfl,fun {P d Φ} ok hΦ loc H Q w=>by
 refine .plain (fun A E env ι s W e acc=>?_) fun _ _=>rfl
 refine JoinedStr_many (joinParts_cons (FormattedValue_plain (wpAny_mono ((ha.snd ok hΦ w).1 A E env ι s W e acc) (fun u s₁ g=>?_) fun _ _ q=>q)))
 obtain ⟨ι₁,H₁,av,p₁,r₁,g⟩:=g
 obtain ⟨i,rfl,m,rfl,hm,w2⟩:=asI.ex g
 obtain ⟨t,rfl⟩:=r₁
 refine formatField_int_small (log_small hm) ?_
 have lm:=(numT_len (k:=100) (by decide) hm).2
 have sl:(1000:Nat)<=sizeLine:=by decide
 have e0:Str.empty++numT m=numT m:=Str.empty_append _
 show (Str.empty++numT m).length<=sizeLine/\wpAny _ _ (joinParts (Str.empty++numT m) _) _ _ _
 rw [e0]
 refine ⟨by (first|lia|omega),joinParts_cons ?_⟩
 have p₂:Post P.B ι₁ s₁ ι₁ H₁ { s₁ with toks:=s₁.toks+1+1 }:=Post.refl p₁.hr _
 have W₂:=(W.step p₁).step p₂
 have e₂:=(e.step W.hr p₁).step p₁.hr p₂
 refine wpAny_mono ((ev_str (P:=P) (C:=C) (d:=d) (k:=k) (pos:=p2) (X:=XF) hs (Q:=fun v H'=>v=.str sep/\H'=H₁) ⟨rfl,rfl⟩) A E env ι₁ _ W₂ e₂ Acc.no) (fun u s₃ g3=>?_) fun _ _ q=>q
 obtain ⟨ι₃,H₃,av3,p₃,r₃,rfl,rfl⟩:=g3
 obtain ⟨_,t3,rfl⟩:=r₃
 have l2:(numT m++sep).length=(numT m).length+sep.length:=Str.length_append _ _
 refine ⟨by (first|lia|omega),joinParts_cons (FormattedValue_plain (wpAny_mono ((hb.snd ok hΦ w2).1 A E env ι₃ s₃ (W₂.step p₃) (e₂.step p₂.hr p₃) ((acc.step p₁).step p₂ |>.step p₃)) (fun u s₄ g4=>?_) fun _ _ q=>q))⟩
 obtain ⟨ι₄,H₄,av4,p₄,r₄,g4⟩:=g4
 obtain ⟨j,rfl,n,rfl,hn,q⟩:=asI.ex g4
 obtain ⟨t4,rfl⟩:=r₄
 refine formatField_int_small (log_small hn) ?_
 have ln:=(numT_len (k:=100) (by decide) hn).2
 have l3:(numT m++sep++numT n).length=(numT m++sep).length+(numT n).length:=Str.length_append _ _
 show (numT m++sep++numT n).length<=sizeLine/\wpAny _ _ (joinParts (numT m++sep++numT n) _) _ _ _
 refine ⟨by (first|lia|omega),joinParts_nil ?_ (by (first|lia|omega))⟩
 exact (((Gives.now _ p₄.hr (VR.mkStr _ _ (strOk_app (strOk_app (strOk_num m) hs) (strOk_num n))) q).before p₄).before p₃ |>.before p₂).before p₁⟩
end Mine
namespace Mine
open PySem
noncomputable def numI (k:Int):Str:=numT k.toNat
noncomputable def kJoin2 (sep:Str) (Q:PQ):PQ:=fun u H'=>asR u fun i=>∃ xs:List Str,H'[i]?=some (.list (xs.map .str))/\JoinOk sep xs=true/\Q (.str (Str.join sep xs)) H'
noncomputable def kSplit2 (x:Str) (Q:PQ):PQ:=fun u H'=>asS u fun y=>∃ c,y=⟨#[c]⟩/\x.length+1<=sizeLine/\Q (.ref H'.length) (H'++[.list ((Txt.split x ⟨#[c]⟩).map .str)])
noncomputable def kIn2 (c:Nat) (Q:PQ):PQ:=fun v H₂=>asS v fun x=>Q (.bool (decide (c∈x.cps.toList))) H₂
section
variable {Φ:Fun}{loc:Loc}{H:Hp}{Q:PQ}{a b:ME}{sep x y:Str}
theorem e_strI:wpE Φ (.strI a) loc H Q=wpE Φ a loc H (kStrI Q):=rfl
theorem e_lenS:wpE Φ (.lenS a) loc H Q=wpE Φ a loc H (kLenS Q):=rfl
theorem e_intS:wpE Φ (.intS a) loc H Q=wpE Φ a loc H (kIntS Q):=rfl
theorem e_joinS:wpE Φ (.joinS a b) loc H Q=wpE Φ a loc H (kJoin1 Φ b loc Q):=rfl
theorem e_splitS:wpE Φ (.splitS a b) loc H Q=wpE Φ a loc H (kSplit1 Φ b loc Q):=rfl
theorem e_inS:wpE Φ (.inS a b) loc H Q=wpE Φ a loc H (kIn1 Φ b loc Q):=rfl
theorem e_fmt2:wpE Φ (.fmt2 sep a b) loc H Q=wpE Φ a loc H (kFmt1 Φ sep b loc Q):=rfl
theorem k_join1:kJoin1 Φ b loc Q (.str x) H=wpE Φ b loc H (kJoin2 x Q):=rfl
theorem k_split1:kSplit1 Φ b loc Q (.str x) H=wpE Φ b loc H (kSplit2 x Q):=rfl
theorem k_in2 {c:Nat}:kIn2 c Q (.str x) H=Q (.bool (decide (c∈x.cps.toList))) H:=rfl
theorem k_lenS:kLenS Q (.str x) H=(x.length<2^62/\Q (.int x.length) H):=rfl
theorem b_addS:wpBin .add (.str x) (.str y) H Q=(x.length+y.length<=sizeLine/\Q (.str (x++y)) H):=rfl
theorem k_strI {k:Int}(h0:0<=k) (h1:k<=10^30) (q:Q (.str (numI k)) H):kStrI Q (.int k) H:=⟨k.toNat,(Int.toNat_of_nonneg h0).symm,Nat.lt_of_le_of_lt (show k.toNat<=10^30 by (first|lia|omega)) (by decide +kernel),q⟩
theorem k_fmt {k t:Int}(hb:∀ R:PQ,R (.int t) H->wpE Φ b loc H R) (k0:0<=k) (k1:k<=10^30) (t0:0<=t) (t1:t<=10^30) (q:Q (.str (numI k++sep++numI t)) H):kFmt1 Φ sep b loc Q (.int k) H :=
 ⟨k.toNat,(Int.toNat_of_nonneg k0).symm,Nat.lt_of_le_of_lt (show k.toNat<=10^30 by (first|lia|omega)) (by decide +kernel),hb _ ⟨t.toNat,(Int.toNat_of_nonneg t0).symm,Nat.lt_of_le_of_lt (show t.toNat<=10^30 by (first|lia|omega)) (by decide +kernel),q⟩⟩
theorem k_join2 {i:Nat}{xs:List Str}(h:H[i]?=some (.list (xs.map .str))) (hj:JoinOk sep xs=true) (q:Q (.str (Str.join sep xs)) H):kJoin2 sep Q (.ref i) H:=⟨xs,h,hj,q⟩
theorem k_split2 {c:Nat}{l:List Str}(hy:y=⟨#[c]⟩) (hn:x.length+1<=sizeLine) (e:Txt.split x ⟨#[c]⟩=l) (q:Q (.ref H.length) (H++[.list (l.map .str)])):kSplit2 x Q (.str y) H:=⟨c,hy,hn,by rw [e];exact q⟩
theorem k_in1 {c:Nat}(hb:wpE Φ b loc H (kIn2 c Q)):kIn1 Φ b loc Q (.str ⟨#[c]⟩) H:=⟨c,rfl,hb⟩
theorem it_at {K:KI}(ha:x.cps.all (·<128)=true) (k:K (chrs x) (fun _=>True) H):wpIt .plain [.str x] H K:=⟨ha,k⟩
end
theorem comp_each {α:Type}{Φ:Fun}{loc:Loc}{H:Hp}{Q:PQ}{t:Bool}{n:Nat}{elt:ME}{Cnd:Hp->Prop}(g v:α->AV) (xs:List α) (hs:xs.length<=sizeLine) (hc:∀ H',H<+:H'->Cnd H')
  (turn:∀ H',H<+:H'->∀ x∈xs,∃ ws,unpack t n (g x)=some ws/\∀ Q:PQ,(∀ H2,H'<+:H2->Q (v x) H2)->wpE Φ elt (loc++ws.map some) H' Q)
  (q:∀ H',H<+:H'->Q (.ref H'.length) (H'++[.list (xs.map v)])):compI Φ t n elt [] loc Q (xs.map g) Cnd H:=by
 refine ⟨by rw [List.length_map];exact hs,fun i l H'=>H<+:H'/\l=(xs.take i).map v,⟨List.prefix_rfl,by simp⟩,?_⟩
 rintro i l H' ⟨hp,rfl⟩
 refine ⟨hc H' hp,fun y hy=>?_,fun e=>by rw [e,List.length_map,List.take_length];exact q H' hp⟩
 rw [List.getElem?_map] at hy
 obtain ⟨x,hx,rfl⟩:=Option.map_eq_some_iff.mp hy
 obtain ⟨ws,hu,h2⟩:=turn H' hp x (List.mem_of_getElem? hx)
 refine ⟨ws,hu,?_⟩
 rw [cs_nil]
 show wpE Φ elt (loc++ws.map some) H' _
 refine h2 _ fun H2 p2=>⟨hp.trans p2,?_⟩
 rw [List.take_add_one,hx];simp
theorem cut_k {Φ:Fun}{loc:Loc}{H:Hp}{Q:PQ}{ss:List MS}(k:Nat){s:MS}(hs:ss[k]?=some s) (h:∀ R:PF,(∀ v loc H,Q v H->R (.ret v) loc H)->(∀ loc H,wpSs Φ (ss.drop (k+1)) loc H (endOf Q)->R .next loc H)->wpS Φ s loc H R):wpSs Φ (ss.drop k) loc H (endOf Q):=by
 obtain ⟨hlt,e⟩:=List.getElem?_eq_some_iff.mp hs
 rw [List.drop_eq_getElem_cons hlt,e,ss_cons]
 exact h _ (fun _ _ _ q=>q) (fun _ _ q=>q)
end Mine
set_option maxRecDepth 100000
namespace Mine
open PySem PySem.W PyProof.Rows
theorem slice_mem {x:Str}{l u:Option Int}{c:Nat}(h:c∈(Txt.slice x l u).cps.toList):c∈x.cps.toList:=by
 unfold Txt.slice at h
 split at h
 ·exact h
 ·simp only [List.mem_filterMap] at h
  obtain ⟨i,_,hi⟩:=h
  rw [←Array.getElem?_toList] at hi
  exact List.mem_of_getElem? hi
theorem strOk_slice {x:Str}{l u:Option Int}(h:PyData.strOk x=true):PyData.strOk (Txt.slice x l u)=true:=strOk_iff.mpr fun c hc=>strOk_iff.mp h c (slice_mem hc)
section
variable {P:PEnv}{C:Ctx}{d:Nat}{loc:Loc}{H:Hp}{X:XP}
theorem ev_sliceS {o:Expr}{lo hi:Option Expr}{p pos:Pos}{Q:AV->Hp->Prop}
  (h:EvOK P C d o loc H (fun x H₁=>evPart P C d lo loc H₁ (fun a H₂=>evPart P C d hi loc H₂ (fun b H₃=>∃ t:Str,x=.str t/\t.length<=sizeLine/\Q (.str (Txt.slice t a b)) H₃) X) X) X) :
  EvOK P C d (.Subscript o (.Slice lo hi none p) pos) loc H Q X:=fun A E env ι s w e a=>by
 refine sub_slice (T := "str") F.slot_str_getitem.lookup (gv (h A E env ι s w e a) (fun u s₁ ι₁ H₁ x p₁ r₁ g=>?_))
 refine wpAny_Slice (wpAny_mono (evPart_ok g A E env ι₁ s₁ (w.step p₁) (e.step w.hr p₁) (a.step p₁)) (fun v s₂ g=>?_) fun _ _ x=>x)
 refine x3_3 (g) fun ι₂ H₂ ka p₂ ip g=>?_
 have p₁₂:=p₁.trans p₂
 refine wpAny_mono (evPart_ok g A E env ι₂ s₂ (w.step p₁₂) (e.step w.hr p₁₂) (a.step p₁₂)) (fun v' s₃ g=>?_) fun _ _ x=>x
 refine x3_3 (g) fun ι₃ H₃ kb p₃ ip' qQ5=>?_
 clear g
 obtain ⟨t,rfl,hsz,q⟩:=qQ5
 obtain ⟨k1,tk,rfl⟩:=r₁
 refine wpAny_pure ?_
 have p₁₃:=p₁₂.trans p₃
 have hk:∀ b o,s₃.heap.get? b=some o->(s₃.heap.push { cls:=.type "slice",data:=.fields #[v,v',.none] }).get? b=some o:=fun b o e=>Heap.get?_push_of_some _ e
 have p₄:∀ k,Post P.B ι₃ s₃ ι₃ H₃ { s₃ with heap:=s₃.heap.push { cls:=.type "slice",data:=.fields #[v,v',.none] },toks:=k }:=fun k=>Post.keep p₃.hr hk
 have fin:∀ t' k,Gives P.B ι s Q (.str (Txt.slice t ka kb) t') { s₃ with heap:=s₃.heap.push { cls:=.type "slice",data:=.fields #[v,v',.none] },toks:=k }:=fun t' k=>(Gives.same (p₄ k).hr (VR.mkStr _ t' (strOk_slice k1)) q).before (p₁₃.trans (p₄ k))
 refine ⟨typeIs_str _ _ _,?_⟩
 have key:∀ (l u:Option (Int×Tok)),l.map (·.1)=ka->u.map (·.1)=kb->v=partValue l->v'=partValue u->wpAny (model P.prog P.w) A (getItem (.str t tk) (.ref s₃.heap.objs.size)) (Gives P.B ι s Q) E { s₃ with heap:=s₃.heap.push { cls:=.type "slice",data:=.fields #[v,v',.none] } }:=fun l u e1 e2 e3 e4=>by
  subst e1;subst e2;subst e3;subst e4
  refine wpAny_getItem_str_slice (l:=l) (u:=u) (st:=none) ⟨_,Heap.get?_push_size _ rfl,rfl,rfl⟩ rfl (post_val_or_str ⟨Nat.le_trans (Txt.slice_le t _ _) hsz,fun t' k=>fin t' k⟩)
 cases ip with
 | none=>cases ip' with
  | none=>exact key none none rfl rfl rfl rfl
  | int j u=>exact key none (some (j,u)) rfl rfl rfl rfl
 | int i u'=>cases ip' with
  | none=>exact key (some (i,u')) none rfl rfl rfl rfl
  | int j u=>exact key (some (i,u')) (some (j,u)) rfl rfl rfl rfl
theorem sub_str {eo ei:Expr}{x:Str}{k c:Nat}{Q:AV->Hp->Prop}(hn:x.length<2^62) (hx:x.cps.toList[k]?=some c) (h:Q (.str ⟨#[c]⟩) H):SubOK P d eo ei (.str x) (.int k) H Q:=op2 fun A E ι s u v w r1 r2=>by
 obtain ⟨k1,t,rfl⟩:=r1
 obtain ⟨t',rfl⟩:=r2
 refine x1_1 (subscripted_ops ei (.str x t) (.int k t')) fun ops ho=>?_
 have hk:k<x.length:=by
  have:=(List.getElem?_eq_some_iff.mp hx).1
  rwa [Array.length_toList] at this
 have hc:(seqIndex? (k:Int) x.length).bind (x.cps[·]?)=some c:=by
  rw [seqIndex_place (place_nn (Int.natCast_nonneg k) (by (first|lia|omega))),Int.toNat_natCast]
  show x.cps[k]?=some c
  rw [←Array.getElem?_toList];exact hx
 refine PyProof.Rows.tail_any (typeIs_str _ _ _) F.slot_str_getitem.lookup (PySem.P.getItem_str ?_ hc (Gives.now _ w.hr (VR.mkStr _ _ (strOk_iff.mpr fun c' hc'=>?_)) h)) ho
 ·simp;(first|lia|omega)
 ·rw [show c'=c by simpa using hc']
  exact strOk_iff.mp k1 c (List.mem_of_getElem? hx)
noncomputable def timesS (x:Str) (n:Nat):Str:=⟨(List.replicate n x.cps).foldl (·++·) #[]⟩
theorem times_list {c:Nat}:∀ (n:Nat) (b:Array Nat),((List.replicate n #[c]).foldl (·++·) b).toList=b.toList++List.replicate n c
 | 0,b=>by simp
 | n+1,b=>by
  rw [List.replicate_succ,List.foldl_cons,times_list n,List.replicate_succ]
  simp
theorem times_cps {c n:Nat}:(timesS ⟨#[c]⟩ n).cps.toList=List.replicate n c:=by
 have:=times_list (c:=c) n #[]
 rw [show (#[]:Array Nat).toList=[] from rfl,List.nil_append] at this
 exact this
theorem times_len {c n:Nat}:(timesS ⟨#[c]⟩ n).length=n:=by
 have:(timesS ⟨#[c]⟩ n).cps.toList.length=(timesS ⟨#[c]⟩ n).length:=Array.length_toList
 rw [←this,times_cps,List.length_replicate]
theorem op_mulS {c n:Nat}{Q:AV->Hp->Prop}(h2:2<=n) (hn:n<=10000) (h:Q (.str (timesS ⟨#[c]⟩ n)) H):OpOK P d (fun vs=>binaryOp .Mult (vs.getD 0 .none) (vs.getD 1 .none)) [.str ⟨#[c]⟩,.int n] H Q:=fun A E ι s us w rs=>by
 obtain ⟨u,v,rfl,r1,r2⟩:=vrs2 rs
 obtain ⟨k1,t,rfl⟩:=r1
 obtain ⟨t',rfl⟩:=r2
 have l1:(⟨#[c]⟩:Str).length=1:=rfl
 have sl:sizeLine=16777216:=rfl
 refine PySem.P.mul_str (by simp;(first|lia|omega)) (fun _ _=>?_) (fun _ _=>?_) ?_
 ·rw [l1]
  have:((2:Int)^63-1)/n ≥ 1:=by
   refine Int.le_ediv_of_mul_le (by (first|lia|omega)) ?_
   (first|lia|omega)
  simp only [gt_iff_lt];(first|lia|omega)
 ·unfold Builtin.Str.tooLong
  rw [l1];simp;(first|lia|omega)
 ·rw [if_neg (by (first|lia|omega)),if_neg (by rw [l1];simp;(first|lia|omega))]
  refine ⟨?_,?_⟩
  ·show (timesS ⟨#[c]⟩ n).length<=sizeLine
   rw [times_len];(first|lia|omega)
  ·exact Gives.now _ w.hr (VR.mkStr _ _ (strOk_iff.mpr fun c' hc'=>by
    have hc':c'∈(timesS ⟨#[c]⟩ n).cps.toList:=hc'
    rw [times_cps] at hc'
    rw [List.eq_of_mem_replicate hc']
    exact strOk_iff.mp k1 c (by simp))) h
end
noncomputable def kU3 (x:AV) (ka:Option Int) (Q:PQ):PL:=fun vs H=>withP vs fun kb=>asS x fun t=>t.length<=sizeLine/\Q (.str (Txt.slice t ka kb)) H
noncomputable def kU2 (Φ:Fun) (hi:List ME) (loc:Loc) (x:AV) (Q:PQ):PL:=fun us H=>withP us fun ka=>wpEs Φ hi loc H (kU3 x ka Q)
noncomputable def kU1 (Φ:Fun) (lo hi:List ME) (loc:Loc) (Q:PQ):PQ:=fun x H=>wpEs Φ lo loc H (kU2 Φ hi loc x Q)
noncomputable def kV2 (x:AV) (Q:PQ):PQ:=fun y H=>asS x fun t=>asI y fun k=>0<=k/\t.length<2^62/\∃ c,t.cps.toList[k.toNat]?=some c/\Q (.str ⟨#[c]⟩) H
noncomputable def kV1 (Φ:Fun) (b:ME) (loc:Loc) (Q:PQ):PQ:=fun x H=>wpE Φ b loc H (kV2 x Q)
noncomputable def kW2 (x:AV) (Q:PQ):PQ:=fun y H=>asS x fun t=>asI y fun k=>∃ c n:Nat,t=⟨#[c]⟩/\k=n/\2<=n/\n<=10000/\Q (.str (timesS ⟨#[c]⟩ n)) H
noncomputable def kW1 (Φ:Fun) (b:ME) (loc:Loc) (Q:PQ):PQ:=fun x H=>wpE Φ b loc H (kW2 x Q)
namespace ME
noncomputable def slcS (a:ME) (lo hi:List ME):ME:=fun Φ loc H Q=>wpE Φ a loc H (kU1 Φ lo hi loc Q)
noncomputable def idxS (a b:ME):ME:=fun Φ loc H Q=>wpE Φ a loc H (kV1 Φ b loc Q)
noncomputable def mulS (a b:ME):ME:=fun Φ loc H Q=>wpE Φ a loc H (kW1 Φ b loc Q)
end ME
section
variable {G:GT}{C:Ctx}{a b:ME}{x y:Expr}{pos:Pos}
theorem CE.slcS {p:Pos}{lo hi:List ME}{l h:Option Expr}(ha:CE G C a x) (hl:CO G C lo l) (hh:CO G C hi h):CE G C (.slcS a lo hi) (.Subscript x (.Slice l h .none p) pos):=⟨fun _ _=>rfl,fun _=>rfl,fun _ _=>rfl,fun ok hΦ _ _ _ w=>by
 refine .plain (ev_sliceS ((ha.snd ok hΦ w).1.mono fun x H₁ w=>?_)) fun _ _=>rfl
 refine hl.snd ok hΦ w fun us H₂ w=>?_
 refine x1_3 (withP.ex w) fun ka h1 h2 w=>?_
 refine ⟨ka,h1,hh.snd ok hΦ w fun vs H₃ w=>?_⟩
 refine x1_3 (withP.ex w) fun kb h3 h4 w=>?_
 exact x1_2 (asS.ex w) fun t e w=>⟨kb,h3,t,e,w.1,w.2⟩⟩
theorem CE.idxS (ha:CE G C a x) (hb:CE G C b y):CE G C (.idxS a b) (.Subscript x y pos):=⟨fun _ _=>rfl,fun _=>rfl,fun _ _=>rfl,fun ok hΦ _ _ _ w =>
 .plain (ev_sub ((ha.snd ok hΦ w).1.mono fun x H₁ w=>(hb.snd ok hΦ w).1.mono fun y H₂ w=>by
  obtain ⟨t,rfl,w⟩:=asS.ex w
  obtain ⟨k,rfl,h0,h1,c,h2,q⟩:=asI.ex w
  obtain ⟨n,rfl⟩:=Int.eq_ofNat_of_zero_le h0
  exact sub_str h1 h2 q)) fun _ _=>rfl⟩
theorem CE.mulS (ha:CE G C a x) (hb:CE G C b y):CE G C (.mulS a b) (.BinOp x .Mult y pos):=⟨fun _ _=>rfl,fun _=>rfl,fun _ _=>rfl,fun ok hΦ _ _ _ w =>
 .plain (ev_bin ((ha.snd ok hΦ w).1.mono fun x H₁ w=>(hb.snd ok hΦ w).1.mono fun y H₂ w=>by
  obtain ⟨t,rfl,w⟩:=asS.ex w
  obtain ⟨k,rfl,c,n,rfl,rfl,h1,h2,q⟩:=asI.ex w
  exact op_mulS h1 h2 q)) fun _ _=>rfl⟩
end
section
variable {Φ:Fun}{loc:Loc}{H:Hp}{Q:PQ}{a b:ME}{t:Str}{x:AV}{lo hi:List ME}{ka:Option Int}{k:Int}
theorem e_slcS:wpE Φ (.slcS a lo hi) loc H Q=wpE Φ a loc H (kU1 Φ lo hi loc Q):=rfl
theorem e_idxS:wpE Φ (.idxS a b) loc H Q=wpE Φ a loc H (kV1 Φ b loc Q):=rfl
theorem e_mulS:wpE Φ (.mulS a b) loc H Q=wpE Φ a loc H (kW1 Φ b loc Q):=rfl
theorem k_u1:kU1 Φ lo hi loc Q x H=wpEs Φ lo loc H (kU2 Φ hi loc x Q):=rfl
theorem k_u2n:kU2 Φ hi loc x Q [] H=wpEs Φ hi loc H (kU3 x none Q):=rfl
theorem k_u2o:kU2 Φ hi loc x Q [.int k] H=(0<=k/\wpEs Φ hi loc H (kU3 x (some k) Q)):=rfl
theorem k_u3n:kU3 (.str t) ka Q [] H=(t.length<=sizeLine/\Q (.str (Txt.slice t ka none)) H):=rfl
theorem k_u3o:kU3 (.str t) ka Q [.int k] H=(0<=k/\t.length<=sizeLine/\Q (.str (Txt.slice t ka (some k))) H):=rfl
theorem k_v1:kV1 Φ b loc Q x H=wpE Φ b loc H (kV2 x Q):=rfl
theorem k_w1:kW1 Φ b loc Q x H=wpE Φ b loc H (kW2 x Q):=rfl
theorem k_v2:kV2 (.str t) Q (.int k) H=(0<=k/\t.length<2^62/\∃ c,t.cps.toList[k.toNat]?=some c/\Q (.str ⟨#[c]⟩) H):=rfl
end
end Mine
namespace Mine
open PySem PySem.W PyProof.Rows
variable {P:PEnv}{C:Ctx}{d:Nat}{loc:Loc}{H:Hp}{X:XP}
theorem XLeft.post {B:Heap}{l:List Env}{ι ι':List Addr}{s s':Shared}{H':Hp}{base:Heap}(x:XLeft B l [] ι s ι' H' base s'):Post B ι s ι' H' s' :=
 ⟨x.pre,x.hr.keep x.stays,x.kept,x.new,x.same⟩
theorem XLeft.wide {B:Heap}{l:List Env}{S ι ι':List Addr}{s s':Shared}{H':Hp}{base:Heap}(x:XLeft B l [] ι s ι' H' base s'):XLeft B l S ι s ι' H' base s' :=
 ⟨x.pre,x.hr,x.stays,x.kept.mono fun _ h=>List.mem_append.mpr (.inr h),fun a o e hn hf=>x.inb a o e (fun m=>hn (List.mem_append.mpr (.inr m))) hf,x.new,x.same⟩
theorem XLeft.beforeS {B:Heap}{l:List Env}{S ι ι₁ ι₂:List Addr}{s s₁ s₂:Shared}{H₁ H₂:Hp}{base:Heap}(p:PostS B S ι s ι₁ H₁ s₁) (x:XLeft B l S ι₁ s₁ ι₂ H₂ base s₂) (hS:∀ a∈S,a∉ι₂):XLeft B l S ι s ι₂ H₂ base s₂:=by
 have out:∀ a o,s.heap.get? a=some o->a∉S++ι->a∉S++ι₁:=fun a o e hn q=>(List.mem_append.mp q).elim (fun m=>hn (List.mem_append.mpr (.inl m))) fun m =>
  (p.new a m).elim (fun z=>hn (List.mem_append.mpr (.inr z))) fun z=>by rw [e] at z;cases z
 refine ⟨p.pre.trans x.pre,x.hr,x.stays,fun a o e hn=>?_,fun a o e hn hf=>?_,fun a ha=>?_,?_⟩
 ·refine x1_2 (p.kept a o e hn) fun sl e1 q1=>?_
  refine x1_2 (x.kept a _ e1 (out a o e hn)) fun sl' e2 q2=>?_
  exact ⟨sl',e2,fun c=>(q2 c).trans (q1 c)⟩
 ·refine x1_2 (p.kept a o e hn) fun sl e1 q1=>?_
  refine x1_1 (x.inb a _ e1 (out a o e hn) hf) fun sl' e2=>?_
  exact ⟨sl',e2⟩
 ·by_cases hi:a∈ι
  ·exact .inl hi
  ·right
   rcases x.new a ha with q|q
   ·exact (p.new a q).resolve_left hi
   ·cases e:s.heap.get? a with
    | none=>rfl
    | some o =>
     refine x1_2 (p.kept a o e fun m=>(List.mem_append.mp m).elim (fun z=>hS a z ha) hi) fun sl e1 _=>?_
     rw [e1] at q;cases q
 ·exact ⟨x.same.1.trans p.same.1,x.same.2.trans p.same.2⟩
theorem XAcc.step {A:Around}{env:Env}{ι ι₁:List Addr}{s s₁:Shared}{H₁:Hp}{Q:MFlow->Loc->Hp->Prop}{E:Value->Shared->Prop}(x:XAcc P C A env ι s Q E) (p:PostS P.B (own C env) ι s ι₁ H₁ s₁):XAcc P C A env ι₁ s₁ Q E:=by
 intro l hl e s' ι' H' loc' c hx he hq
 refine x l hl e s' ι' H' loc' c ?_ he hq
 rcases hx with ⟨ea,base,D,h1,h2,h3,h4⟩|⟨ea,base,D,h1,h2,h3,h4⟩
 ·exact .inl ⟨ea,base,D,h1,h2,h3.beforeS p he.offOwn,h4⟩
 ·exact .inr ⟨ea,base,D,h1,h2,h3.beforeS p he.offOwn,h4⟩
theorem XAcc.acc {A:Around}{env:Env}{ι:List Addr}{s:Shared}{Q:MFlow->Loc->Hp->Prop}{E:Value->Shared->Prop}(x:XAcc P C A env ι s Q E) (hr:HR P.B ι H s.heap) (e:EnvR P.B C env ι s.heap loc):Acc P A (fun c H'=>Q (.exc c) loc H') ι s E:=by
 rintro l hl e' s' ι' H' c ⟨ea,base,D,h1,h2,h3,h4⟩ hq
 exact x l hl e' s' ι' H' loc c (.inl ⟨ea,base,D,h1,h2,h3.wide,h4⟩) (e.step hr h3.post) hq
theorem exsX_nil {Q:MFlow->Loc->Hp->Prop}(h:Q .next loc H):ExsX P C d [] loc H Q:=(exs_nil h).x
theorem exsX_cons {st:Stmt}{rest:List Stmt}{Q:MFlow->Loc->Hp->Prop}
  (h:ExX P C d st loc H (fun fl loc' H'=>match fl with|.next=>ExsX P C d rest loc' H' Q|fl=>Q fl loc' H')):ExsX P C d (st::rest) loc H Q:=fun A E env ι s w e tp xa=>by
 refine wpAny_execs_cons (gs (h A E env ι s w e tp fun l hl e' s' ι' H' loc' c hx he hq=>xa l hl e' s' ι' H' loc' c hx he hq) (fun f s₁ ι₁ H₁ loc₁ fl p₁ e₁ r₁ g=>?_))
 cases fl with
 | next =>
  cases r₁
  exact wpAny_mono (g A E env ι₁ s₁ (w.stepS e p₁ e₁) e₁ tp (xa.step p₁)) (fun _ _ g=>g.before p₁) fun _ _ x=>x
 | brk=>cases r₁;exact ⟨ι₁,H₁,loc₁,.brk,p₁,e₁,rfl,g⟩
 | cont=>cases r₁;exact ⟨ι₁,H₁,loc₁,.cont,p₁,e₁,rfl,g⟩
 | ret v=>obtain ⟨u,rfl,r⟩:=r₁;exact ⟨ι₁,H₁,loc₁,.ret v,p₁,e₁,⟨u,rfl,r⟩,g⟩
 | exc c=>exact r₁.elim
theorem exX_if {t:Expr}{a b:List Stmt}{pos:Pos}{Q:MFlow->Loc->Hp->Prop}(h:TsOK P C d t loc H (fun c H'=>if c then ExsX P C d a loc H' Q else ExsX P C d b loc H' Q) XF):ExX P C d (.If t a b pos) loc H Q:=fun A E env ι s w e tp xa=>by
 refine wpAny_If (gb (h A E env ι s w e Acc.no) (fun c s₁ ι₁ H₁ p₁ g=>?_))
 cases c with
 | true=>exact wpAny_mono (g A E env ι₁ s₁ (w.step p₁) (e.step w.hr p₁) tp (xa.step p₁.toS)) (fun _ _ g=>g.before p₁.toS) fun _ _ x=>x
 | false=>exact wpAny_mono (g A E env ι₁ s₁ (w.step p₁) (e.step w.hr p₁) tp (xa.step p₁.toS)) (fun _ _ g=>g.before p₁.toS) fun _ _ x=>x
theorem frames_of {A:Around}{ι:List Addr}{h:Heap}{l:List Env}(fr:FramesOK A P.B h ι) (hl:A.frames=some l):∀ env∈l,env.scope.kind≠.module/\∃ L o,env.frame=some L/\P.B.get? L=none/\h.get? L=some o/\(∃ es n,o.data=.dict es n)/\L∉ι:=by
 refine x1_2 (fr) fun fl e q=>?_
 clear fr
 rw [hl] at e;cases e;exact q
theorem funFrames_hid {h:Heap}:∀ {l:List Env}{as:List Addr},(∀ env∈l,env.scope.kind≠.module/\∃ L o,env.frame=some L/\h.get? L=some o/\(∃ es n,o.data=.dict es n)/\L∈as)->h.FunFrames (hideAll h as) l
 | [],_,_=>trivial
 | env::l,as,q=>by
  refine x0_2 (q env (List.mem_cons_self ..)) fun k qQ1=>?_
  obtain ⟨L,o,h1,h2,⟨es,n,h3⟩,h4⟩:=qQ1
  exact ⟨k,⟨L,o,h1,hideAll_none _ h4,h2,fun vs z=>by rw [h3] at z;cases z⟩,funFrames_hid fun en hen=>q en (List.mem_cons_of_mem _ hen)⟩
theorem HR.hide {B:Heap}{ι:List Addr}{H:Hp}{h:Heap}(q:HR B ι H h){as:List Addr}(ha:∀ L∈as,B.get? L=none/\L∉ι/\∃ o es n,h.get? L=some o/\o.data=.dict es n):HR B ι H (hideAll h as):=by
 have kp:Kept as h (hideAll h as):=fun a o e hn=>⟨o.slots,hideAll_get _ e hn,fun _=>rfl⟩
 have nt:NoTup as h:=fun a m vs t=>by
  refine x0_3 (ha a m) fun _ _ qQ2=>?_
  obtain ⟨o,es,n,e,dd⟩:=qQ2
  refine x1_3 (t) fun o' e' _ qQ3=>?_
  clear t
  obtain ⟨n',d'⟩:=qQ3
  rw [e] at e';cases e';rw [dd] at d';cases d'
 refine ⟨fun b o e=>hideAll_get _ (q.base b o e) (fun m=>by rw [(ha b m).1] at e;cases e),q.fresh,q.nodup,q.len,fun i o e=>?_⟩
 refine x1_2 (q.objs i o e) fun a ea r=>?_
 exact ⟨a,ea,r.mono kp nt (List.prefix_refl _) fun y ey=>hideAll_get _ ey fun m=>(ha a m).2.1 (List.mem_of_getElem? ea)⟩
section
variable {prog:Program}{w:World}{A:Around}{E:Value->Shared->Prop}{env:Env}
variable {nm q:Str}{C N:Addr}{bs bm bmB:List Value}{hdct:Bool}{sn:List Str}{sub:List Value}{ab:Bool}{col:Option Bool}{dd:Option Addr}{k0 k1 k2 k3 k5:Option Value}{B newId initId:String}
theorem raiseStmt_q {s:Shared}{x:Sem Value}{Q:Flow->Shared->Prop}(hbase:bm.contains (.type "BaseException")=true)
  (h:wpAny (model prog w) A x (fun v s₁=>∃ e t h0,v=.ref e/\(Qh A h0/\(∀ b o,h0.get? b=some o->s₁.heap.get? b=some o)/\h0.get? e=none)/\s₁.heap.get? C=some (excClassObj nm q C N bs bm hdct sn sub ab col dd k0 k1 k2 k3 k5 newId) /\
   s₁.heap.get? e=some { cls:=.ref C,data:=.fields #[.ref t,.none,.none,.none,.bool false,.none] }/\E (.ref e) { s₁ with heap:=rzd A e s₁.heap }) E s):wpAny (model prog w) A (raiseStmt env (some x) none) Q E s:=by
 have hcB:(Value.ref C::bm).contains (.type "BaseException")=true:=by rw [List.contains_cons,hbase,Bool.or_true]
 unfold raiseStmt
 refine wpAny_bind (wpAny_mono h (fun v s₁ h₁=>?_) fun _ _ x=>x)
 obtain ⟨e,t,h0,rfl,⟨q,k,hn⟩,hC,he,hE⟩:=h₁
 obtain ⟨hp,g,d,tk,os⟩:=s₁
 repeat (first|with_reducible refine wpAny_loadPart_at he ?_|with_reducible refine wpAny_loadPart_at hC ?_|(with_reducible refine wpAny_isSubtype_exc hC ?_;rw [hcB])|wp_step)
 exact raise_q q k hn he rfl (by simp) hE
theorem raise_call_q {s:Shared}(F:ExcBaseFacts B newId initId bmB){mN:Str->Option Value}{x:Str}{np cpos pos:Pos}{args:List Expr}{Q:Flow->Shared->Prop}
  (hbase:bm.contains (.type "BaseException")=true) (hplain:(backTo cpos (starEach args env)).any (·.1)=false) (hni:mN "__init__" = none)
  (h:wpAny (model prog w) A (eval (.Name x np) env) (fun f s₁=>f=.ref C/\wpAny (model prog w) A (evalArgs (.ref C) true (backTo cpos (starEach args env)) [])
   (fun a s₂=>a.kw=[]/\a.pos.length<=sizeLine/\s₂.heap.get? C=some (excClassObj nm q C N bs bm hdct sn sub ab col dd k0 k1 k2 k3 k5 newId)/\s₂.heap.Ns N mN/\OwnTail s₂.heap bmB bm/\Qh A s₂.heap /\
    ∀ h' e,Heap.MadeExcOf s₂.heap h' e (.ref C) a.pos->E (.ref e) { s₂ with heap:=rzd A e h' }) E s₁) E s) :
  wpAny (model prog w) A (exec (.Raise (some (.Call (.Name x np) args [] cpos)) none pos) env) Q E s:=by
 rw [arm_exec_Raise]
 refine wpAny_bind (wpAny_standAt (raiseStmt_q (C:=C) (nm:=nm) (q:=q) (N:=N) (bs:=bs) (bm:=bm) (hdct:=hdct) (sn:=sn) (sub:=sub) (ab:=ab) (col:=col) (dd:=dd) (k0:=k0) (k1:=k1) (k2:=k2) (k3:=k3) (k5:=k5) (newId:=newId) hbase ?_))
 refine wpAny_bind (wpAny_mono (wpAny_Call_ofName (wpAny_mono h (fun f s₁ h₁=>?_) fun _ _ x=>x)) (fun v s₃ h₃=>wpAny_bind (wpAny_standAt (wpAny_pure h₃))) fun _ _ x=>x)
 obtain ⟨rfl,h₁⟩:=h₁
 unfold callWith
 refine wpAny_bind (wpAny_holding (wpAny_mono h₁ (fun a s₂ h₂=>wpAny_bind (wpAny_standAt ?_)) fun _ _ x=>x))
 obtain ⟨apos,akw⟩:=a
 obtain ⟨hkw,hlen,hC,hn,T,hq,h₂⟩:=h₂
 obtain rfl:akw=[]:=hkw
 obtain ⟨hp,g,d,tk,os⟩:=s₂
 simp only [hplain]
 refine wpAny_bind (wpAny_keeperOf_exc hC ?_)
 refine wpAny_bind (wpAny_call_exc_subT (hrest:=hlen) F T hC hn hni fun h' e hm=>wpAny_bind (wpAny_holding (wpAny_point (wpAny_pure ?_))))
 obtain ⟨t,ht,_,_⟩:=hm.there
 exact ⟨e,t,hp,rfl,⟨hq,hm.keeps,hm.new⟩,hm.keeps _ _ hC,ht,h₂ h' e hm⟩
end
theorem rzd_made {A:Around}{e t D:Addr}{h:Heap}(qt:Qt P A) (he:h.get? e=some { cls:=.ref D,data:=.fields #[.ref t,.none,.none,.none,.bool false,.none] }) :
  (rzd A e h).get? e=some { cls:=.ref D,data:=.fields #[.ref t,.none,hdV P.hd,.none,.bool false,.none] }:=by
 unfold rzd
 rw [qt.is]
 cases P.hd with
 | none=>exact he
 | some a=>exact Heap.get?_update_self _ he rfl
theorem exX_raise {x:Str}{D:Addr}{B newId initId:String}{bm:List Value}{np cpos pos:Pos}{e0:Expr}{es:List Expr}{Q:MFlow->Loc->Hp->Prop}(ok:P.OK) (O:OwnCls x D bm newId P.mg P.B) (FB:ExcBaseFacts B newId initId bm)
  (hk:C.names.lookup x=some .globalImplicit) (hd:(x == ("__debug__" : Str))=false) (he:∀ env,starEach (e0::es) env=(false,eval e0 env)::starEach es env) (hp:plainArgs es)
  (h:EvsOK P C d (e0::es) loc H (fun vs H'=>vs.length<=sizeLine/\Q (.exc x) loc H') XF):ExX P C d (.Raise (some (.Call (.Name x np) (e0::es) [] cpos)) none pos) loc H Q:=fun A E env ι s w e tp xa=>by
 refine x5_1 (O.obj) fun tl N nm q bs qQ5=>?_
 obtain ⟨hdct,sn,sub,ab,col,dd,k0,k1,k2,k3,k5,mN,hC,hN,hni,T⟩:=qQ5
 refine raise_call_q (C:=D) (nm:=nm) (q:=q) (N:=N) (bs:=bs) (bm:=tl) (hdct:=hdct) (sn:=sn) (sub:=sub) (ab:=ab) (col:=col) (dd:=dd) (k0:=k0) (k1:=k1) (k2:=k2) (k3:=k3) (k5:=k5)
  FB (mN:=mN) (T.hasType FB.hasBase) (by rw [he];show (false||(backTo cpos (starEach es env)).any (·.1))=false;rw [hp env cpos];rfl) hni
  (Calls.Name_function_global e.kind (by unfold Env.kindOf;rw [e.names];exact hk) (Calls.loadGlobal_global (e.glob▸ok.g.keeps fun b o e=>w.hr.base b o e) O.bound ⟨rfl,?_⟩) hd)
 have ha:=h A E env ι s cpos w e Acc.no
 rw [he] at ha ⊢
 refine Calls.evalArgs_plain (wpAny_mono ha (fun vs s₂ g=>?_) fun _ _ y=>y)
 obtain ⟨ι₂,H₂,l₂,p₂,r₂,hlen,hq⟩:=g
 have kb:∀ b o,P.B.get? b=some o->s₂.heap.get? b=some o:=fun b o eb=>p₂.hr.base b o eb
 refine ⟨rfl,by rw [r₂.length];exact hlen,kb _ _ hC,hN.keeps kb,T.keeps kb,w.qt.qh p₂.hr.base,fun h₀ ea hm=>?_⟩
 generalize hh':rzd A ea h₀=h'
 have kp:∀ b o,s₂.heap.get? b=some o->h'.get? b=some o:=fun b o e=>by
  rw [←hh',rzd_other fun z=>by rw [←z,hm.new] at e;cases e];exact hm.keeps b o e
 obtain ⟨l,hl⟩:∃ l,A.frames=some l:=let ⟨_,l,hl⟩:=tp;⟨_,hl⟩
 have fr:=frames_of (w.step p₂).fr hl
 have fin:∀ L∈fAs l,P.B.get? L=none/\L∉ι₂/\∃ o es n,s₂.heap.get? L=some o/\o.data=.dict es n:=fun L hL=>by
  refine x1_2 (List.mem_filterMap.mp hL) fun en hen z=>?_
  refine x0_2 (fr en hen) fun _ qQ1=>?_
  obtain ⟨L',o,h1,h2,h3,⟨es,n,h4⟩,h5⟩:=qQ1
  rw [z] at h1;cases h1
  exact ⟨h2,h5,o,es,n,h3,h4⟩
 have p₃:Post P.B ι₂ s₂ ι₂ H₂ { s₂ with heap:=h' }:=Post.keep (t:=s₂.toks) p₂.hr kp
 have pp:=p₂.trans p₃
 have xl:XLeft P.B l [] ι s ι₂ H₂ (hideAll s₂.heap (fAs l)) { s₂ with heap:=h' } :=
  ⟨p₂.pre,p₂.hr.hide fin,fun b o eb=>kp b o (of_hideAll _ eb),pp.kept,fun a o eo hn hf=>by
   refine x1_2 (p₂.kept a o eo hn) fun sl e1 _=>?_
   exact ⟨sl,hideAll_get _ e1 hf⟩,p₂.new,p₂.same⟩
 refine hm.there.elim fun t ht=>?_
 exact xa l hl _ _ ι₂ H₂ loc x (.inr ⟨ea,_,D,rfl,O.bound,xl.wide,s₂.heap,t,fun b o eb=>of_hideAll _ eb,funFrames_hid fun en hen=>by
  refine x0_2 (fr en hen) fun k qQ1=>?_
  obtain ⟨L,o,h1,h2,h3,h4,h5⟩:=qQ1
  exact ⟨k,L,o,h1,h3,h4,List.mem_filterMap.mpr ⟨en,hen,h1⟩⟩,kp,hm.new,hh'▸rzd_made w.qt ht.1⟩) (e.step w.hr pp) hq
end Mine
namespace Mine
open PySem PySem.W PyProof.Rows
variable {P:PEnv}{C:Ctx}{d:Nat}{loc:Loc}{H:Hp}{X:XP}
noncomputable def Catches (P:PEnv) (c T:Str):Prop:=∃ D Tc,P.mg c=some (.ref D)/\P.mg T=some Tc/\∀ (M:Model) (h:Heap) (ea:Addr) (o:Obj),P.B.StaysIn h->h.get? ea=some o->o.cls=.ref D->Looks M h (excMatches (.ref ea) Tc) true
structure SuG (P:PEnv) (L:Addr) (ys:List Str) (m:Str->Option Value) (R:MFlow->Hp->Hp->Prop) (s:Shared) (f:Flow) (s':Shared):Prop where
 same:∃ h t,s'={ s with heap:=h,toks:=t }
 ns:∃ m',s'.heap.Ns L m'/\∀ z,z∉ys->m' z=m z
 keep:∀ b o,b≠L->s.heap.get? b=some o->s'.heap.get? b=some o
 res:∀ ι H,HR P.B ι H s.heap->L∉ι->∃ ι₂ H₂ fl,ι<+:ι₂/\HR P.B ι₂ H₂ s'.heap/\(∀ a∈ι₂,a∈ι\/s.heap.get? a=none)/\FR P.B s'.heap ι₂ fl f/\R fl H H₂
noncomputable def SuiteOK (P:PEnv) (C:Ctx) (d:Nat) (n:Str) (ys:List Str) (suite:List Stmt) (c:Str) (R:MFlow->Hp->Hp->Prop):Prop :=
 ∀ A E env s ea o D m,A.depth+d<recursionLimit->A.units+8*d+200<cLine->env.scope.kind=.function->env.scope.names=C.names->env.globals=mainGlobals->env.builtins=builtinsNs->s.heap.Ns env.locals m->m n=some (.ref ea) ->
  P.B.StaysIn s.heap->P.B.get? env.locals=none->s.heap.get? ea=some o->o.cls=.ref D->P.mg c=some (.ref D)->A.handled=some (.ref ea)->Ch ea s.heap ->
  wpAny (model P.prog P.w) A (execs suite env) (SuG P env.locals ys m R s) E s
noncomputable def ExsA (P:PEnv) (C:Ctx) (d:Nat) (body:List Stmt) (loc:Loc) (H:Hp) (Q:MFlow->Loc->Hp->Prop) (X:XP):Prop :=
 ∀ A E env ι s,W P A d ι H s->EnvR P.B C env ι s.heap loc->Acc P A X ι s E->wpAny (model P.prog P.w) A (execs body env) (GivesS P.B C env ι s Q) E s
theorem FR.mono {B h h':Heap}{ι S:List Addr}(x:Kept S h h') (nt:NoTup S h){fl:MFlow}{f:Flow}(q:FR B h ι fl f):FR B h' ι fl f:=by
 cases fl with
 | ret v=>exact x1_2 q fun u e r=>⟨u,e,VR.mono x nt (List.prefix_refl _) _ _ r⟩
 | _=>exact q
theorem try_kept {A:Around}{B base h₉:Heap}{env:Env}{l:List Env}{ι ι':List Addr}{s s₁:Shared}{H':Hp}(fr:∀ en∈env::l,en.scope.kind≠.module/\∃ L o,en.frame=some L/\B.get? L=Option.none/\s.heap.get? L=some o/\(∃ es n,o.data=.dict es n)/\L∉ι) (xl:XLeft B (env::l) [] ι s ι' H' base s₁)
  (up:∀ a o,s₁.heap.get? a=some o->a≠env.locals->(∀ vs,o.data≠.fields vs)->∃ sl,h₉.get? a=some { o with slots:=sl }) (kb:∀ b o,base.get? b=some o->h₉.get? b=some o) (a:Addr) (o:Obj) (eo:s.heap.get? a=some o) (hL:a≠env.locals) (hι:a∉ι) :
  ∃ sl,h₉.get? a=some { o with slots:=sl }/\((∀ es n,o.data≠.dict es n)->sl=o.slots):=by
 refine x1_2 (xl.kept a o eo hι) fun sl e1 q1=>?_
 by_cases hfa:a∈fAs (env::l)
 ·refine x2_1 (fr_dict (A:=A) fr a hfa o eo) fun es nn h4=>?_
  refine (up a _ e1 hL fun vs q=>by rw [show ({ o with slots:=sl }:Obj).data=o.data from rfl,h4] at q;cases q).elim fun sl' e2=>⟨sl',e2,fun c=>absurd h4 (c es nn)⟩
 ·refine (xl.inb a o eo hι hfa).elim fun sl' e2=>?_
  have e3:=Option.some.inj (e1.symm.trans (xl.stays a _ e2))
  have e4:sl=sl':=congrArg Obj.slots e3
  subst e4
  exact ⟨sl,kb a _ e2,q1⟩
theorem exX_try {tp hpos pos:Pos}{body:List Stmt}{T n:Str}{b0:Stmt}{suite:List Stmt}{ys:List Str}{Q:MFlow->Loc->Hp->Prop}
  (ok:P.OK) (hk:C.names.lookup T=some .globalImplicit) (hd:(T == ("__debug__" : Str))=false) (hn:C.names.lookup n=some .local) (ni:∀ y∈n::ys,∀ (i:Nat) (dd:AV),C.vars[i]?=some (some y)->loc[i]?≠some (some dd)) (nn:n∉ys)
  (hx:ExsA P C d body loc H (fun fl l' H'=>fl≠.next/\Q fl l' H') X)
  (hX:∀ c H',X c H'->Catches P c T/\∃ R,SuiteOK P C d n ys (b0::suite) c R/\∀ fl H₂,R fl H' H₂->Q fl loc H₂) :
  ExX P C d (.Try body [.ExceptHandler (some (.Name T tp)) (some n) (b0::suite) hpos] [] [] pos) loc H Q:=fun A E env ι s w e tpi xa=>by
 obtain ⟨ef,l,hl⟩:=tpi
 refine wpAny_Try_except (gs (hx A _ env ι s w e ?_) fun f s₁ ι₁ H₁ loc₁ fl p₁ e₁ r₁ g=>?_)
 ·rintro l' hl' e' s₁ ι' H' c ⟨ea,base,D,rfl,hD,xl,fly,nc⟩ hc
  have:=Option.some.inj (hl.symm.trans hl')
  subst this
  obtain ⟨⟨D',Tc,hD',hT,look⟩,R,hs,hq⟩:=hX c H' hc
  have:=Value.ref.inj (Option.some.inj (hD.symm.trans hD'))
  subst this
  have locNot:base.get? env.locals=none:=((fly.elim fun _ q=>q.elim fun _ q=>q.2.2.1:Heap.FunFrames _ _ _).mem (b:=env.locals) (by rw [List.filterMap_cons,ef];exact List.mem_cons_self ..)).1
  refine wpAny_mono (calm_noteFrame.any nc (looks_fly (Q:=fun _ s''=>∃ a0 h₄,s''={ s₁ with heap:=h₄ }/\Heap.HeldW base (env::l) ea (.ref D) a0 env.locals h₄/\s₁.heap.UpToSlots h₄) hl ef fly fun a0 h₄ held up₄=>⟨a0,h₄,rfl,held,up₄⟩)) (fun _ s₄ g=>?_) fun _ _ y=>y
  obtain ⟨⟨a0,h₄,rfl,held,up₄⟩,nc₄⟩:=g
  refine wpAny_mono (calm_setFlight.any nc₄ (wpAny_landsW (s:={ s₁ with heap:=h₄ }) (Q:=fun _ s''=>∃ h₅,s''={ s₁ with heap:=h₅ }/\Heap.FlyingW base (env::l) ea (.ref D) a0 h₅/\h₄.UpToSlots h₅) held fun h₅ fly₅ up₅=>⟨h₅,rfl,fly₅,up₅⟩)) (fun _ s₅ g=>?_) fun _ _ y=>y
  obtain ⟨⟨h₅,rfl,fly₅,up₅⟩,nc₅⟩:=g
  have kb₅:P.B.StaysIn h₅:=fun b o eb=>fly₅.1 b o (xl.hr.base b o eb)
  refine wpAny_handleBy_cons (codeAny_handlers_test ?_) (by intro q;cases q)
  refine Calls.Name_function_global e.kind (by unfold Env.kindOf;rw [e.names];exact hk) (Calls.loadGlobal_global (e.glob▸ok.g.keeps kb₅) hT ?_) hd
  refine x1_2 fly₅.there fun oe he hcls=>?_
  refine (look _ h₅ ea oe kb₅ he hcls).here (codeAny_handlers_suite_as ?_)
  refine wpAny_mono (calm_setFlight.any nc₅ (lands_againW (s:={ s₁ with heap:=h₅ }) (Q:=fun _ s''=>∃ h₆,s''={ s₁ with heap:=h₆ }/\Heap.FlyingW base (env::l) ea (.ref D) a0 h₆/\h₅.UpToSlots h₆) fly₅ fun h₆ fly₆ up₆=>⟨h₆,rfl,fly₆,up₆⟩)) (fun _ s₆ g=>?_) fun _ _ y=>y
  obtain ⟨⟨h₆,rfl,fly₆,up₆⟩,nc₆⟩:=g
  have kl:env.kindOf n=some .local:=by unfold Env.kindOf;rw [e.names];exact hn
  refine e.ns.elim fun m ns=>?_
  have ns₁:s₁.heap.Ns env.locals m:=Ns.of_data ns fun o eo=>x1_3 (xl.kept.data eo e.offL) fun o' e1 d1 _=>⟨o',e1,d1⟩
  have up:s₁.heap.UpToSlots h₆:=(up₄.trans up₅).trans up₆
  have ns₆:h₆.Ns env.locals m:=up.ns ns₁
  have hp:(env.scope.kind == .class||(env.scope.kind == .module&&env.locals != env.globals))=false:=by rw [e.kind];rfl
  refine wpAny_storeName_local kl ns₆ (fun h₇ ns₇ sb₇=>?_) hp
  have nl:∀ {b:Addr}{o:Obj},base.get? b=some o->b≠env.locals:=fun eb z=>by rw [z,locNot] at eb;cases eb
  have kb₇:∀ b o,base.get? b=some o->h₇.get? b=some o:=fun b o eb=>sb₇.extBut b o (nl eb) (fly₆.1 b o eb)
  refine x1_2 fly₆.there fun oe₆ he₆ hcls₆=>?_
  have eaL:ea≠env.locals:=fun z=>by
   obtain ⟨oe',vs',q1,_,q2,_⟩:=fly₆.first
   obtain ⟨o6,es6,ep6,q3,q4,_⟩:=ns₆
   rw [z] at q1;rw [q1] at q3;cases q3;rw [q2] at q4;cases q4
  have nc₇:CtxIs (hdV P.hd) ea h₇:=by
   obtain ⟨o',vs',q1,q2,q3⟩:=nc₆
   exact ⟨o',vs',sb₇.extBut ea o' eaL q1,q2,q3⟩
  have ch₇:Ch ea h₇:=by
   cases z:P.hd with
   | none=>rw [z] at nc₇;exact .inl nc₇
   | some e1=>rw [z] at nc₇;exact .inr ⟨e1,nc₇,(w.qt.ctx e1 z).keeps fun b o eb=>kb₇ b o (xl.hr.base b o eb)⟩
  have hr₇:HR P.B ι' H' h₇:=xl.hr.keep kb₇
  have off:∀ a o,s.heap.get? a=some o->a∉ι->a∉ι':=fun a o eo hno z=>(xl.new a z).elim hno fun y=>by rw [eo] at y;cases y
  have locι:env.locals∉ι':=x3_2 ns fun o es ep eo _=>off _ o eo e.offL
  refine wpAny_mono (hs _ _ env _ ea oe₆ D _ w.room.depth w.room.units e.kind e.names e.glob e.blt ns₇ (by simp) (fun b o eb=>kb₇ b o (xl.hr.base b o eb)) e.newL (sb₇.extBut ea oe₆ eaL he₆) hcls₆ hD rfl ch₇) (fun f s₈ g=>?_) fun _ _ y=>y
  obtain ⟨h₈,t₈,rfl⟩:=g.same
  refine x1_2 g.ns fun m₈ ns₈ em₈=>?_
  refine wpAny_nameGoes_keeps kl ns₈ hp fun h₉ v₉ ns₉ sb₉=>?_
  obtain ⟨ι₂,H₂,fl,pre₂,hr₈,new₂,fr₂,rr⟩:=g.res ι' H' hr₇ locι
  have all:∀ b o,b≠env.locals->h₇.get? b=some o->h₉.get? b=some o:=fun b o hb e7=>sb₉.extBut b o hb (g.keep b o hb e7)
  have kb₉:∀ b o,base.get? b=some o->h₉.get? b=some o:=fun b o eb=>all b o (nl eb) (kb₇ b o eb)
  have up₉:∀ a o,s₁.heap.get? a=some o->a≠env.locals->(∀ vs,o.data≠.fields vs)->∃ sl,h₉.get? a=some { o with slots:=sl }:=fun a o eo ha hno=>(up a o eo hno).elim fun sl e6=>⟨sl,all a _ ha (sb₇.extBut a _ ha e6)⟩
  have tk:=try_kept (A:=A) (frames_of w.fr hl) xl up₉ kb₉
  have kept:Kept (own C env++ι) s.heap h₉:=fun a o eo hno=>tk a o eo (fun z=>hno (List.mem_append.mpr (.inl (z▸List.mem_cons_self ..)))) fun z=>hno (List.mem_append.mpr (.inr z))
  have there:∀ a o,s.heap.get? a=some o->a∉ι->h₇.get? a≠none:=fun a o eo hi z=>by
   by_cases hL:a=env.locals
   ·obtain ⟨o7,_,_,q,_⟩:=ns₇
    rw [hL,q] at z;cases z
   ·refine x1_2 (try_kept (A:=A) (frames_of w.fr hl) xl (fun a o eo ha hno=>(up a o eo hno).elim fun sl e6=>⟨sl,sb₇.extBut a _ ha e6⟩) kb₇ a o eo hL hi) fun sl e1 _=>?_
    rw [z] at e1;cases e1
  have locι₂:env.locals∉ι₂:=fun q=>(new₂ _ q).elim locι fun z=>by obtain ⟨o7,_,_,q,_⟩:=ns₇;rw [show ({ s₁ with heap:=h₇,toks:=s₁.toks+1 }:Shared).heap=h₇ from rfl,q] at z;cases z
  have new₉:∀ a∈ι₂,a∈ι\/s.heap.get? a=none:=fun a ha=>by
   by_cases hi:a∈ι
   ·exact .inl hi
   ·right
    cases y:s.heap.get? a with
    | none=>rfl
    | some o=>exact (new₂ a ha).elim (fun q=>absurd q (off a o y hi)) fun q=>absurd q (there a o y hi)
  have ntL:NoTup [env.locals] h₈:=one_mem (Z:=fun b=>∀ vs,¬ IsTup h₈ b vs) fun vs q=>x3_3 ns₈ fun o es ep eo dt _=>x1_3 q fun o' eo' _ z=>z.elim fun nn z=>by
   have:=Option.some.inj (eo.symm.trans eo');subst this;rw [dt] at z;cases z
  have ext₉:∀ b o,b∉[env.locals]->h₈.get? b=some o->h₉.get? b=some o:=fun b o hb eb=>sb₉.extBut b o (fun z=>hb (z▸List.mem_singleton.mpr rfl)) eb
  have hr₉:HR P.B ι₂ H₂ h₉:=hr₈.off ext₉ ntL (one_mem (Z:=fun b=>b∉ι₂) locι₂) (one_mem (Z:=fun b=>P.B.get? b=none) e.newL)
  have ps:PostS P.B (own C env) ι s ι₂ H₂ { s₁ with heap:=h₉,toks:=t₈+1 }:=⟨xl.pre.trans pre₂,hr₉,kept,new₉,xl.same⟩
  have cell:∀ y c ov,some y∈C.vars->env.cells.lookup y=some c->s.heap.IsCell c ov->h₉.IsCell c ov:=fun y c ov hm hc ic=>x1_2 ic fun o eo dc=>x1_2 (tk c o eo (e.offC y c hm hc).2.1 (e.offC y c hm hc).1) fun sl e1 _=>⟨_,e1,dc⟩
  refine ⟨ι₂,H₂,loc,fl,ps,⟨e.kind,e.names,e.glob,e.blt,⟨_,ns₉⟩,locι₂,e.newL,fun y c hm hc=>?_,fun y c hm hc=>(e.isC y c hm hc).elim fun ov ic=>⟨ov,cell y c ov hm hc ic⟩,e.apart,e.len,fun i y hi=>?_⟩,fr₂.mono (Kept.of_keeps ext₉) ntL,hq _ _ rr⟩
  ·exact ⟨fun q=>(new₉ c q).elim (e.offC y c hm hc).1 fun z=>(e.isC y c hm hc).elim fun ov ic=>x1_2 ic fun o eo _=>absent z eo,(e.offC y c hm hc).2⟩
  ·refine x1_2 (e.vars i y hi) fun ov hs' hv=>?_
   by_cases hy:y∈n::ys
   ·refine hs'.elim (fun q=>⟨_,.inl ⟨q.1,_,ns₉,rfl⟩,fun dd hdd=>absurd hdd (ni y hy i dd hi)⟩) fun q=>x1_2 q.2 fun c ec ic=>⟨ov,.inr ⟨q.1,c,ec,cell y c ov (List.mem_of_getElem? hi) ec ic⟩,fun dd hdd=>absurd hdd (ni y hy i dd hi)⟩
   ·rw [List.mem_cons,not_or] at hy
    refine ⟨ov,hs'.imp (fun q=>⟨q.1,x1_2 q.2 fun m' n' em=>⟨_,ns₉,?_⟩⟩) fun q=>⟨q.1,x1_2 q.2 fun c ec ic=>⟨c,ec,cell y c ov (List.mem_of_getElem? hi) ec ic⟩⟩,fun dd hdd=>x1_2 (hv dd hdd) fun v ev rv=>⟨v,ev,ps.vr w.hr e rv⟩⟩
    have:=ns_unique n' ns
    subst this
    have e8:=em₈ y hy.2
    simp only [if_neg hy.1] at e8 ⊢
    rw [e8];exact em
 ·have z:=g.1
  cases fl with
  | next=>exact absurd rfl z
  | brk=>cases r₁;exact ⟨ι₁,H₁,loc₁,.brk,p₁,e₁,rfl,g.2⟩
  | cont=>cases r₁;exact ⟨ι₁,H₁,loc₁,.cont,p₁,e₁,rfl,g.2⟩
  | ret v=>exact x1_2 r₁ fun u hu r=>by subst hu;exact ⟨ι₁,H₁,loc₁,.ret v,p₁,e₁,⟨u,rfl,r⟩,g.2⟩
  | exc c=>exact r₁.elim
end Mine
set_option maxRecDepth 100000
namespace Mine
open PySem PySem.W PyProof.Rows
structure ExcK (K:Frag) (D:Addr):Prop where
 cls:(clsIn K D).isSome=true
 ga:findIn K (.ref D) "__getattribute__" = some (some (.builtin "BaseException.__getattribute__"))
 gt:findIn K (.ref D) "__getattr__" = some none
 ca:findIn K (.ref D) "__class__" = some (some (.builtin "object.__class__"))
 mo:mroIn K D (.type "object")=some true
 mb:mroIn K D (.type "BaseException")=some true
section
variable {prog:Program}{w:World}{A:Around}{E:Value->Shared->Prop}{h:Heap}{g:Array GenState}{d:Drawn}{t:Nat}{os:OsState}{a D:Addr}{o:Obj}{K:Frag}
theorem xc_get {tp:Value}{R:Result->Shared->Prop}(X:K.In h) (F':ExcK K D) (hx:h.get? a=some o) (hc:o.cls=.ref D) (hq:R (.ok (.ret (.ref D))) ⟨h,g,d,t,os⟩) :
  codeAny (model prog w) A (.call (.builtin "getset_descriptor.__get__") ⟨[.builtin "object.__class__",.ref a,tp],[]⟩) R ⟨h,g,d,t,os⟩:=by
 have L1:Looks (model prog w) h (isSubtype (.ref D) (.type (".".intercalate ("object.__class__".cutAt '.').dropLast))) true:=by
  rw [F.owner_object_class];exact looks_mroIn X F'.mo
 have hT5:(⟨h,g,d,t,os⟩:Shared).TypeIs (.builtin "object.__class__") "getset_descriptor" := F.typeOf_object_class
 refine codeAny_call_builtin F.slot_gs_get.plain F.entry_gs_get (F.slot_gs_get.check _ _ _ _ _ _ _ _ hT5 (F.args_gs_get _ _ _) ?_)
 repeat (any_goals (first|assumption|(with_reducible refine wpAny_loadPart_at hx ?_;rw [hc])|with_reducible refine L1.at ?_|wp_step))
 refine ⟨Code.quiet_builtin _ (by decide +kernel),codeAny_builtin F.entry_object_class ?_⟩
 repeat (any_goals (first|assumption|(with_reducible refine wpAny_loadPart_at hx ?_;rw [hc])|wp_step))
theorem xc_entry {tk:Tok}{Q:Fin->Shared->Prop}(X:K.In h) (F':ExcK K D) (hx:h.get? a=some o) (hc:o.cls=.ref D) (hq:Q (.done (.ret (.ref D))) ⟨h,g,d,t,os⟩) :
  wpAny (model prog w) A (Builtin.«object.__getattribute__» ⟨[.ref a,.str "__class__" tk],[]⟩) Q E ⟨h,g,d,t,os⟩:=by
 have hT5:(⟨h,g,d,t,os⟩:Shared).TypeIs (.builtin "object.__class__") "getset_descriptor" := F.typeOf_object_class
 have L2:=looks_findIn (M:=model prog w) X F'.ca
 have f5:=F.typeOf_object_class
 have f6:=F.slot_gs_get.lookup
 have f7:=F.slot_gs_set.lookup
 repeat (any_goals (first|assumption|(with_reducible refine wpAny_loadPart_at hx ?_;rw [hc])|with_reducible refine L2.at ?_|wp_step))
 refine xc_get X F' hx hc ?_
 repeat (any_goals (first|assumption|wp_step))
theorem xc_check {nameV:Value}{Q:Unit->Shared->Prop}(X:K.In h) (F':ExcK K D) (hx:h.get? a=some o) (hc:o.cls=.ref D) (hq:Q () ⟨h,g,d,t,os⟩) :
  wpAny (model prog w) A (checkBuiltinCall "BaseException.__getattribute__" ⟨[.ref a,nameV],[]⟩) Q E ⟨h,g,d,t,os⟩:=by
 have hk:builtinKind "BaseException.__getattribute__" = some .slot:=by decide +kernel
 have hsplit:splitId "BaseException.__getattribute__" = some ("BaseException", "__getattribute__"):=by decide +kernel
 have L1:=looks_mroIn (M:=model prog w) X F'.mb
 have ha:=F.args_bexc_ga (.ref a) nameV
 simp only [checkBuiltinCall,hk,hsplit]
 refine wpAny_bind ?_
 ·unfold isInstance
  repeat (first|(with_reducible refine wpAny_loadPart_at hx ?_;rw [hc])|with_reducible refine L1.at ?_|wp_step)
  exact hq
theorem xc_call {tk:Tok}{R:Result->Shared->Prop}(X:K.In h) (F':ExcK K D) (hx:h.get? a=some o) (hc:o.cls=.ref D) (hq:R (.ok (.ret (.ref D))) ⟨h,g,d,t,os⟩) :
  codeAny (model prog w) A (.call (.builtin "BaseException.__getattribute__") ⟨[.ref a,.str "__class__" tk],[]⟩) R ⟨h,g,d,t,os⟩ :=
 codeAny_call_builtin F.excAttr_ValueError.ga.plain F.entry_bexc_ga (xc_check X F' hx hc (xc_entry X F' hx hc hq))
theorem xc_by {tk:Tok}{fill expr:Bool}{Q:Value->Shared->Prop}(X:K.In h) (F':ExcK K D) (hx:h.get? a=some o) (hc:o.cls=.ref D) (hq:Q (.ref D) ⟨h,g,d,t,os⟩) :
  wpAny (model prog w) A (getAttrBy (.ref a) (.str "__class__" tk) fill expr) Q E ⟨h,g,d,t,os⟩:=by
 have f3:=F.excAttr_ValueError.ga.bind (.ref a)
 have L3:=looks_findIn (M:=model prog w) X F'.ga
 have L4:=looks_findIn (M:=model prog w) X F'.gt
 have hx0:(expr&&onTheHeap (Value.builtin "BaseException.__getattribute__"))=false:=by cases expr<;>rfl
 have hx2:(Value.builtin "BaseException.__getattribute__" == Value.builtin "object.__getattribute__")=false:=by decide +kernel
 have hx1:(onTheHeap (Value.ref D)&&Value.builtin "BaseException.__getattribute__" == Value.builtin "object.__getattribute__")=false:=by rw [hx2];rfl
 repeat (any_goals (first|assumption|(with_reducible refine wpAny_loadPart_at hx ?_;rw [hc])|with_reducible refine L3.at ?_|with_reducible refine L4.at ?_|wp_step))
 refine xc_call X F' hx hc ?_
 repeat (any_goals (first|assumption|wp_step))
theorem xc_attr {Q:Option Value->Shared->Prop}(X:K.In h) (F':ExcK K D) (hx:h.get? a=some o) (hc:o.cls=.ref D) (hq:Q (some (.ref D)) ⟨h,g,d,t+1,os⟩) :
  wpAny (model prog w) A (getAttr? (.ref a) "__class__") Q E ⟨h,g,d,t,os⟩:=by
 unfold getAttr? getAttrBy?
 repeat (any_goals (first|assumption|with_reducible apply xc_by X F' hx hc|wp_step))
end
theorem ExcK.at {K:Frag}{D:Addr}(F':ExcK K D):∃ c dd cd sl,K.lookup D=some ⟨c,dd,.cls cd,sl⟩:=by
 have h:=F'.cls
 unfold clsIn at h
 split at h
 ·exact ⟨_,_,_,_,by assumption⟩
 ·cases h
theorem xc_kit {K:Frag}{D a:Addr}(F':ExcK K D):KitX K (.ref a) (.ref D) (fun h=>∃ o,h.get? a=some o/\o.cls=.ref D) where
 ty:=fun M h _ p=>by obtain ⟨o,h1,h2⟩:=p;exact h2▸(Looks.ld h1).andThen .now
 it:=fun _ _ X _=>by
  refine x4_1 (F'.at) fun c dd cd sl ho=>?_
  intro A' Q' E' s' k q
  unfold isType loadHead
  exact wpAny_bind (wpAny_loadPart (k _ _ (X _ _ ho)) (wpAny_pure q))
 ne:=fun h tp dd its n sl X htp=>by
  refine x4_1 (F'.at) fun c dd' cd sl' ho=>?_
  refine Bool.eq_false_iff.mpr fun q=>?_
  have e:D=tp:=Value.ref.inj (beq_iff_eq.mp q)
  subst e
  have z:=(X _ _ ho).symm.trans htp
  cases z
 ca:=fun {prog w A E Q s} X p k=>by
  obtain ⟨hh,g,d,tt,os⟩:=s
  refine x1_2 (p) fun o h1 h2=>?_
  clear p
  exact xc_attr X F' h1 h2 k
theorem catches_of {P:PEnv}{K:Frag}{c T:Str}{D:Addr}{Tc:Value}(X:K.In P.B) (hc:P.mg c=some (.ref D)) (hT:P.mg T=some Tc) (he:exmOne K (.ref D) Tc=some true):Catches P c T :=
 ⟨D,Tc,hc,hT,fun M h ea o st e1 e2=>exm_one (X.keeps st) (e2▸(Looks.ld e1).andThen .now) he⟩
end Mine
set_option maxRecDepth 100000
namespace Mine
open PySem PySem.W PyProof.Rows
noncomputable def Grown (s:Shared) (h:Heap):Prop:=∀ q o,s.heap.get? q=some o->h.get? q=some o
structure XEnv (P:PEnv) (C:Ctx) (x:Str) (D:Addr) (env:Env) (s:Shared):Prop where
 kind:env.scope.kind=.function
 names:env.scope.names=C.names
 glob:env.globals=mainGlobals
 blt:env.builtins=builtinsNs
 ns:∃ m ea o,s.heap.Ns env.locals m/\m x=some (.ref ea)/\s.heap.get? ea=some o/\o.cls=.ref D
 base:P.B.StaysIn s.heap
variable {P:PEnv}{C:Ctx}{d:Nat}{x:Str}{D:Addr}
theorem XEnv.grow {env:Env}{s:Shared}{h:Heap}{tk:Nat}(e:XEnv P C x D env s) (k:Grown s h):XEnv P C x D env { s with heap:=h,toks:=tk }:=by
 refine x3_4 (e.ns) fun m ea o h1 h2 h3 h4=>?_
 exact ⟨e.kind,e.names,e.glob,e.blt,⟨m,ea,o,h1.keeps k,h2,k _ _ h3,h4⟩,fun b o eb=>k _ _ (e.base b o eb)⟩
noncomputable def XV (P:PEnv) (C:Ctx) (d:Nat) (x:Str) (D:Addr) (e:Expr) (b:Bool):Prop :=
 ∀ A E env s (Q:Value->Shared->Prop),A.depth+d<recursionLimit->XEnv P C x D env s->(∀ h tk,Grown s h->Q (.bool b) { s with heap:=h,toks:=tk })->wpAny (model P.prog P.w) A (eval e env) Q E s
noncomputable def XB (P:PEnv) (C:Ctx) (d:Nat) (x:Str) (D:Addr) (body:List Stmt) (f:Flow):Prop :=
 ∀ A E env s (Q:Flow->Shared->Prop),A.depth+d<recursionLimit->XEnv P C x D env s->(∀ h tk,Grown s h->Q f { s with heap:=h,toks:=tk })->wpAny (model P.prog P.w) A (execs body env) Q E s
theorem Grown.refl {s:Shared}:Grown s s.heap:=fun _ _ e=>e
theorem Grown.trans {s:Shared}{h h':Heap}{tk:Nat}(a:Grown s h) (b:Grown { s with heap:=h,toks:=tk } h'):Grown s h':=fun q o e=>b q o (a q o e)
theorem xv_not {e:Expr}{pos:Pos}{b:Bool}(h:XV P C d x D e b):XV P C d x D (.UnaryOp .Not e pos) (!b):=fun A E env s Q hr xe k =>
 UnaryOp_ (h A E env s _ hr xe fun h tk g=>not_of (wpAny_truthy_bool (k h tk g)))
theorem xv_one {op:BoolOp}{e:Expr}{pos:Pos}{b:Bool}(h:XV P C d x D e b):XV P C d x D (.BoolOp op [e] pos) b:=fun A E env s Q hr xe k=>BoolOp_one (h A E env s Q hr xe k)
theorem xv_and {e y:Expr}{rest:List Expr}{pos:Pos}{b:Bool}(h:XV P C d x D e true) (h2:XV P C d x D (.BoolOp .And (y::rest) pos) b):XV P C d x D (.BoolOp .And (e::y::rest) pos) b:=fun A E env s Q hr xe k=>by
 refine BoolOp_and (h A E env s _ hr xe fun hh tk g=>wpAny_truthy_bool ?_)
 exact h2 A E env _ _ hr (xe.grow g) fun h' tk' g'=>k h' tk' (g.trans g')
noncomputable def Glob (P:PEnv) (y:Str) (v:Value):Prop:=P.mg y=some v\/(P.mg y=none/\P.mb y=some v)
theorem glob_at {A:Around}{E:Value->Shared->Prop}{env:Env}{s:Shared}{y:Str}{pos:Pos}{v:Value}{Q:Value->Shared->Prop}(ok:P.OK) (xe:XEnv P C x D env s) (g:Glob P y v) (hk:C.names.lookup y=some .globalImplicit)
  (hd:(y == ("__debug__" : Str))=false) (q:Q v s):wpAny (model P.prog P.w) A (eval (.Name y pos) env) Q E s:=by
 have hk':env.kindOf y=some .globalImplicit:=by unfold Env.kindOf;rw [xe.names];exact hk
 rcases g with g|⟨g1,g2⟩
 ·exact Calls.Name_function_global xe.kind hk' (Calls.loadGlobal_global (xe.glob▸ok.g.keeps xe.base) g q) hd
 ·exact Calls.Name_function_global xe.kind hk' (Calls.loadGlobal_builtin (xe.glob▸ok.g.keeps xe.base) g1 (xe.blt▸ok.b.keeps xe.base) g2 q) hd
theorem exc_at {A:Around}{E:Value->Shared->Prop}{env:Env}{s:Shared}{pos:Pos}{Q:Value->Shared->Prop}(xe:XEnv P C x D env s) (hk:C.names.lookup x=some .local)
  (hd:(x == ("__debug__" : Str))=false) (q:∀ ea o,s.heap.get? ea=some o->o.cls=.ref D->Q (.ref ea) s):wpAny (model P.prog P.w) A (eval (.Name x pos) env) Q E s:=by
 refine x3_4 (xe.ns) fun m ea o h1 h2 h3 h4=>?_
 exact wpAny_Name (wpAny_loadName_local xe.kind (by unfold Env.kindOf;rw [xe.names];exact hk) h1 h2 (q ea o h3 h4)) hd
theorem xv_isi {K:Frag}{y:Str}{cv:Value}{b:Bool}{p1 p2 p3 pos:Pos}(ok:P.OK) (X:K.In P.B) (F':ExcK K D) (iso:Glob P "isinstance" (.builtin "isinstance")) (gy:Glob P y cv) (kit:kitOne K (.ref D) cv=some b)
  (k1:C.names.lookup ("isinstance" : Str)=some .globalImplicit) (k2:C.names.lookup x=some .local) (k3:C.names.lookup y=some .globalImplicit) (dx:(x == ("__debug__" : Str))=false) (dy:(y == ("__debug__" : Str))=false) :
  XV P C d x D (.Call (.Name "isinstance" p1) [.Name x p2,.Name y p3] [] pos) b:=fun A E env s Q hr xe k=>by
 refine Call_ (glob_at ok xe iso k1 (by decide) ?_)
 have s1:starEach [.Name x p2,.Name y p3] env=(false,eval (.Name x p2) env)::starEach [.Name y p3] env:=rfl
 have s2:starEach [.Name y p3] env=(false,eval (.Name y p3) env)::starEach [] env:=rfl
 have s3:(backTo pos (starEach [.Name y p3] env)).any (·.1)=false:=rfl
 refine callWith_builtin1 (spliced_more (exc_at xe k2 dx fun ea o e1 e2=>?_) s1) s1 s3
 refine spliced_more (glob_at ok xe gy k3 dy (spliced_none ?_)) s2
 exact kia_one (xc_kit F') (X.keeps xe.base) ⟨o,e1,e2⟩ kit (by intro z;cases z) fun tk=>k s.heap tk .refl
theorem xb_ret {e:Expr}{rest:List Stmt}{pos:Pos}{b:Bool}(h:XV P C d x D e b):XB P C d x D (.Return (some e) pos::rest) (.ret (.bool b)):=fun A E env s Q hr xe k=>by
 refine wpAny_execs_cons ?_
 rw [exec_Return_some]
 refine wpAny_bind (wpAny_standAt (wpAny_bind (h A E env s _ hr xe fun h' tk g=>wpAny_pure ?_)))
 exact k h' tk g
end Mine
set_option maxRecDepth 100000
namespace Mine
open PySem PySem.W PyProof.Rows
abbrev Rais:=List AV->Hp->XP->Prop
noncomputable def kRaise (c:Str) (loc:Loc) (Q:PF):PL:=fun vs H=>vs.length<=sizeLine/\Q (.exc c) loc H
noncomputable def kRx (R:Rais) (loc:Loc) (Q:PF):PL:=fun vs H=>R vs H fun c H'=>Q (.exc c) loc H'
noncomputable def kTry (R:Rais) (hd:Str->Option MFlow) (loc:Loc) (Q:PF):PL:=fun vs H=>R vs H fun c H'=>∃ fl,hd c=some fl/\Q fl loc H'
abbrev Rais2:=List AV->Hp->PQ->XP->Prop
noncomputable def kTryC (R:Rais2) (hd:Str->Option (List Str)) (loc:Loc) (Q:PF):PL:=fun vs H=>R vs H (fun v H'=>Q (.ret (.tup [v])) loc H') fun c H'=>∃ l,hd c=some l/\Q (.ret (.ref H'.length)) loc (H'++[.list (l.map .str)])
namespace MS
noncomputable def raise (c:Str) (as:List ME):MS:=fun Φ loc H Q=>wpEs Φ as loc H (kRaise c loc Q)
noncomputable def orX (m:MS) (as:List ME) (R:Rais):MS:=fun Φ loc H Q=>wpS Φ m loc H Q\/wpEs Φ as loc H (kRx R loc Q)
noncomputable def tryX (is:List Nat) (as:List ME) (R:Rais) (hd:Str->Option MFlow):MS:=fun Φ loc H Q=>(∀ i∈is,loc[i]?=some none)/\wpEs Φ as loc H (kTry R hd loc Q)
noncomputable def tryC (is:List Nat) (as:List ME) (R:Rais2) (hd:Str->Option (List Str)):MS:=fun Φ loc H Q=>(∀ i∈is,loc[i]?=some none)/\wpEs Φ as loc H (kTryC R hd loc Q)
end MS
structure CSX (Ξ:PEnv->Nat->Prop) (G:GT) (C:Ctx) (m:MS) (st:Stmt):Prop where
 snd:∀ {P d Φ},GOK P G->Ξ P d->FunOK P d Φ->∀ {loc H}{Q:PF},wpS Φ m loc H Q->ExX P C d st loc H Q
structure CSsX (Ξ:PEnv->Nat->Prop) (G:GT) (C:Ctx) (ms:List MS) (sts:List Stmt):Prop where
 snd:∀ {P d Φ},GOK P G->Ξ P d->FunOK P d Φ->∀ {loc H}{Q:PF},wpSs Φ ms loc H Q->ExsX P C d sts loc H Q
section
variable {Ξ:PEnv->Nat->Prop}{G:GT}{C:Ctx}{m:MS}{ms:List MS}{st:Stmt}{sts:List Stmt}{pos:Pos}
theorem CSX.of (h:CS G C m st):CSX Ξ G C m st:=⟨fun ok _ hΦ _ _ _ w=>(h.snd ok hΦ w).x⟩
theorem CSsX.of (h:CSs G C ms sts):CSsX Ξ G C ms sts:=⟨fun ok _ hΦ _ _ _ w=>(h.snd ok hΦ w).x⟩
theorem CSsX.nil:CSsX Ξ G C [] []:=⟨fun _ _ _ _ _ _ w=>exsX_nil w⟩
theorem ExX.mono {P:PEnv}{d:Nat}{loc:Loc}{H:Hp}{Q Q':PF}(h:ExX P C d st loc H Q) (q:∀ f l H,Q f l H->Q' f l H):ExX P C d st loc H Q' :=
 fun A E env ι s w e tp xa=>wpAny_mono (h A E env ι s w e tp fun l hl e' s' ι' H' loc' c hx he hq=>xa l hl e' s' ι' H' loc' c hx he (q _ _ _ hq)) (fun f s' g=>by
  obtain ⟨ι',H',loc',fl,p,e',r,z⟩:=g
  exact ⟨ι',H',loc',fl,p,e',r,q _ _ _ z⟩) fun _ _ x=>x
theorem CSsX.cons (h:CSX Ξ G C m st) (hs:CSsX Ξ G C ms sts):CSsX Ξ G C (m::ms) (st::sts):=⟨fun ok ξ hΦ _ _ Q w=>by
 refine exsX_cons ((h.snd ok ξ hΦ w).mono fun f l H q=>?_)
 cases f with
 | next=>exact hs.snd ok ξ hΦ q
 | _=>exact q⟩
theorem CSX.ite {a:ME}{x:Expr}{ma mb:List MS}{xa xb:List Stmt}(ht:CE G C a x) (ha:CSsX Ξ G C ma xa) (hb:CSsX Ξ G C mb xb):CSX Ξ G C (.ite a ma mb) (.If x xa xb pos):=⟨fun ok ξ hΦ _ _ _ w =>
 exX_if ((ht.snd ok hΦ w).2 _ fun v H' q=>by
  refine x1_2 (asB.ex q) fun c eQ1 nQ2=>?_
  subst eQ1
  revert nQ2
  intro q
  show (if c then _ else _)
  cases c with
  | false=>exact hb.snd ok ξ hΦ q
  | true=>exact ha.snd ok ξ hΦ q)⟩
theorem EvsOK.anyX {P:PEnv}{d:Nat}{loc:Loc}{H:Hp}{es:List Expr}{Q:PL}{X:XP}(h:EvsOK P C d es loc H Q XF):EvsOK P C d es loc H Q X:=fun A E env ι s pos w e _=>h A E env ι s pos w e Acc.no
theorem CSX.raise {c:Str}{B newId initId:String}{bm:List Value}{np cpos:Pos}{a:ME}{as:List ME}{x:Expr}{xs:List Expr}(gn:GN C c) (FB:ExcBaseFacts B newId initId bm) (hx:CE G C a x) (hs:CEs G C as xs)
  (own:∀ {P d},Ξ P d->∃ D,OwnCls c D bm newId P.mg P.B):CSX Ξ G C (.raise c (a::as)) (.Raise (some (.Call (.Name c np) (x::xs) [] cpos)) none pos):=⟨fun ok ξ hΦ _ _ Q w=>by
 refine x1_1 (own ξ) fun D O=>?_
 exact exX_raise ok.toOK O FB gn.look gn.dbg (fun env=>hx.star _ env) hs.plain ((CEs.cons hx hs).snd ok hΦ w)⟩
theorem ev_rais {P:PEnv}{d:Nat}{Φ:Fun}{loc:Loc}{H:Hp}{f:Str}{a:ME}{as:List ME}{x:Expr}{xs:List Expr}{pn:Pos}{R:Rais}{X:XP}(ok:GOK P G) (hΦ:FunOK P d Φ) (hf:G.fns.contains f=true) (gn:GN C f) (hx:CE G C a x) (hs:CEs G C as xs)
  (r:∀ args H X,R args H X->CallOK P d f args H (fun _ _=>False) X) (w:wpEs Φ (a::as) loc H fun vs H'=>R vs H' X):EvOK P C d (.Call (.Name f pn) (x::xs) [] pos) loc H (fun _ _=>False) X:=by
 refine x3_3 (ok.fns _ hf) fun fa o fd h1 h2 h3=>?_
 exact ev_call ok.toOK gn.look gn.dbg h1 h2 h3 (((CEs.cons hx hs).snd ok hΦ w).anyX.mono fun vs H' w=>r _ _ _ w) fun env=>hx.star _ env
inductive Sls (C:Ctx):List Str->List Nat->Prop
 | nil:Sls C [] []
 | cons {y:Str}{i:Nat}{ys:List Str}{is:List Nat}:Slot C i y->Sls C ys is->Sls C (y::ys) (i::is)
theorem Sls.mem {ys:List Str}{is:List Nat}(h:Sls C ys is):∀ y∈ys,∃ i∈is,Slot C i y:=by
 induction h with
 | nil=>intro y hy;cases hy
 | cons s _ ih =>
  intro y hy
  rcases List.mem_cons.mp hy with rfl|hy
  ·exact ⟨_,List.mem_cons_self ..,s⟩
  ·refine x1_2 (ih y hy) fun i hi q=>?_
   exact ⟨i,List.mem_cons_of_mem _ hi,q⟩
end
noncomputable def wpFX (Φ:Fun) (f:MF) (args:List AV) (H:Hp) (Q:PQ) (X:XP):Prop :=
 args.length=f.params/\wpSs Φ f.body (args.map some++List.replicate (f.vars-f.params) none) H (endX Q X)
structure FnX (Ξ:PEnv->Nat->Prop) (p:Program) (Γ:GT) (x:Str) (vars params:List Str) (f:MF):Prop where
 ex:∃ d,d∈recsOf p/\d.name=x/\d.scope.kind=.function/\d.scope.isCoroutine=false/\d.scope.isGenerator=false/\(Ctx.mk (vars.map some) d.scope.names 0).good params=true /\
  CSsX Ξ Γ ⟨vars.map some,d.scope.names,0⟩ f.body d.body/\params.length=f.params/\vars.length=f.vars /\
  ∀ pm cd doc vals,vals.length=params.length->bindArgs (Calls.docDef d.name d.params d.body d.scope pm cd doc) ⟨vals,[]⟩=pure (params.zip vals)
section
variable {p:Program}{loose:List Str}{R:WRecords}{XP':(Str->Option Value)->Heap->Prop}{w:World}{s₀:Shared}{mg mb:Str->Option Value}{h:Heap}{prog:Program}
theorem FnX.call {B:Heap}{hd:Option Addr}{Ξ:PEnv->Nat->Prop}{Γ:GT}{x:Str}{vars params:List Str}{f:MF}{n:Nat}{Φ:Fun}{args:List AV}{H:Hp}{Q:PQ}{X:XP}(fn:FnX Ξ p Γ x vars params f) (G:Ground p loose R XP' w s₀ mg mb h) (st:h.StaysIn B) (ok:GOK (PEnv.mk prog w B mg mb hd) Γ)
  (ξ:Ξ (PEnv.mk prog w B mg mb hd) n) (hΦ:∀ f args H Q,Φ f args H Q->CallOK (PEnv.mk prog w B mg mb hd) n f args H Q XF) (wp:wpFX Φ f args H Q X):CallOK (PEnv.mk prog w B mg mb hd) (n+1) x args H Q X:=by
 refine x1_6 (fn.ex) fun d hd eQ2 k1 k2 k3 qQ6=>?_
 subst eQ2
 obtain ⟨good,cs,hp,hv,hb⟩:=qQ6
 refine x5_3 (G.T.fn d hd) fun a o pm code doc h1 h2 qQ7=>?_
 obtain ⟨h3,h4⟩:=qQ7
 refine x0_2 (wp) fun hl wp=>?_
 refine callX_of ok.toOK (C:=⟨vars.map some,d.scope.names,0⟩) (params:=params) ⟨⟨a,o,_,h1,st _ _ h2,h3,rfl,rfl,k1,k2,k3,rfl,rfl,rfl,h4.keeps st,fun vals hl=>hb pm code doc vals hl⟩⟩ good (by rw [hl,hp]) (cs.snd ok ξ hΦ ?_)
 unfold start
 have:(Ctx.mk (vars.map some) d.scope.names 0).vars.length=f.vars:=by rw [←hv];simp
 rw [this,hl];exact wp
end
end Mine
set_option maxRecDepth 100000
namespace Mine
open PySem PySem.W PyProof.Rows
noncomputable def fragAt (h:Heap) (D:Addr):Frag:=match h.get? D with
 | some o=>(D,o)::(match o.data with
  | .cls cd=>(match h.get? cd.ns with|some o'=>[(cd.ns,o')]|none=>[])
  | _=>[])
 | none=>[]
noncomputable def fragOf (h:Heap):List Str->Frag
 | []=>[]
 | x::r=>(match h.nsMap mainGlobals x with|some (.ref D)=>fragAt h D|_=>[])++fragOf h r
theorem fragAt_mem {h:Heap}{D:Addr}:∀ e∈fragAt h D,h.get? e.1=some e.2:=by
 intro e he
 unfold fragAt at he
 split at he
 ·rename_i o ho
  rcases List.mem_cons.mp he with rfl|he
  ·exact ho
  ·split at he
   ·split at he
    ·rename_i o' ho'
     rw [List.mem_singleton.mp he];exact ho'
    ·cases he
   ·cases he
 ·cases he
theorem fragOf_mem {h:Heap}:∀ {ns:List Str},∀ e∈fragOf h ns,h.get? e.1=some e.2
 | [],e,he=>by cases he
 | x::r,e,he=>by
  unfold fragOf at he
  rcases List.mem_append.mp he with he|he
  ·split at he
   ·exact fragAt_mem e he
   ·cases he
  ·exact fragOf_mem e he
theorem lookup_in {K:Frag}{a:Addr}{o:Obj}(e:K.lookup a=some o):(a,o)∈K:=by
 induction K with
 | nil=>cases e
 | cons p r ih =>
  obtain ⟨b,x⟩:=p
  simp only [List.lookup] at e
  split at e
  ·rename_i q;cases e;rw [beq_iff_eq.mp q];exact List.mem_cons_self ..
  ·exact List.mem_cons_of_mem _ (ih e)
theorem fragOf_in {h:Heap}{ns:List Str}:(fragOf h ns).In h:=fun a o e=>fragOf_mem _ (lookup_in e)
noncomputable def excB (K:Frag) (D:Addr):Bool :=
 (clsIn K D).isSome&&(findIn K (.ref D) "__getattribute__" == some (some (.builtin "BaseException.__getattribute__")))&&(findIn K (.ref D) "__getattr__" == some none) &&
 (findIn K (.ref D) "__class__" == some (some (.builtin "object.__class__")))&&(mroIn K D (.type "object") == some true)&&(mroIn K D (.type "BaseException") == some true)
theorem excK_of {K:Frag}{D:Addr}(h:excB K D=true):ExcK K D:=by
 simp only [excB,Bool.and_eq_true,beq_iff_eq] at h
 refine x0_2 (h) fun qQ0 h6=>?_
 clear h
 obtain ⟨⟨⟨⟨h1,h2⟩,h3⟩,h4⟩,h5⟩:=qQ0
 exact ⟨h1,h2,h3,h4,h5,h6⟩
structure ClsQ where
 raised:Str
 kits:List (Str×Bool)
 tys:List (String×Bool)
 caught:List Str
noncomputable def cfOk (q:ClsQ) (K:Frag) (mg:Str->Option Value):Bool:=match mg q.raised with
 | some (.ref D)=>excB K D&&(q.kits.all fun p=>(mg p.1).any fun v=>kitOne K (.ref D) v == some p.2)&&(q.tys.all fun p=>kitOne K (.ref D) (.type p.1) == some p.2)&&(q.caught.all fun x=>(mg x).any fun v=>exmOne K (.ref D) v == some true)
 | _=>false
structure CFacts (q:ClsQ) (K:Frag) (mg:Str->Option Value) (D:Addr):Prop where
 at_:mg q.raised=some (.ref D)
 exc:ExcK K D
 kit:∀ p∈q.kits,∃ v,mg p.1=some v/\kitOne K (.ref D) v=some p.2
 ty:∀ p∈q.tys,kitOne K (.ref D) (.type p.1)=some p.2
 ct:∀ x∈q.caught,∃ v,mg x=some v/\exmOne K (.ref D) v=some true
theorem cfacts_of {q:ClsQ}{K:Frag}{mg:Str->Option Value}(h:cfOk q K mg=true):∃ D,CFacts q K mg D:=by
 unfold cfOk at h
 split at h
 ·rename_i D e
  simp only [Bool.and_eq_true,List.all_eq_true,Option.any_eq_true,beq_iff_eq] at h
  refine x0_2 (h) fun qQ0 h4=>?_
  clear h
  obtain ⟨⟨h1,h2⟩,h3⟩:=qQ0
  exact ⟨D,e,excK_of h1,h2,h3,h4⟩
 ·cases h
noncomputable def cfAt (ns:List Str) (qs:List ClsQ) (s:Shared):Bool:=qs.all fun q=>cfOk q (fragOf s.heap ns) (s.heap.nsMap mainGlobals)
noncomputable def CF (qs:List ClsQ) (mg:Str->Option Value) (h:Heap):Prop:=∃ K:Frag,K.In h/\∀ q∈qs,∃ D,CFacts q K mg D
theorem cf_of {ns:List Str}{qs:List ClsQ}(s:Shared) (e:cfAt ns qs s=true):CF qs (s.heap.nsMap mainGlobals) s.heap :=
 ⟨_,fragOf_in,fun q hq=>cfacts_of (List.all_eq_true.mp e q hq)⟩
theorem CF.keeps {qs:List ClsQ}(mg:Str->Option Value) (h h':Heap) (x:CF qs mg h) (hk:∀ b o,h.get? b=some o->h'.get? b=some o):CF qs mg h':=by
 refine x1_2 (x) fun K h1 h2=>?_
 clear x
 exact ⟨K,h1.keeps hk,h2⟩
noncomputable def XC (p:Program) (lv:List (Str×WData)) (qs:List ClsQ) (mg:Str->Option Value) (h:Heap):Prop:=XL p lv mg h/\CF qs mg h
theorem XC.keeps {p:Program}{lv:List (Str×WData)}{qs:List ClsQ}(mg:Str->Option Value) (h h':Heap) (x:XC p lv qs mg h) (hk:∀ b o,h.get? b=some o->h'.get? b=some o):XC p lv qs mg h' :=
 ⟨XL.keeps mg h h' x.1 hk,CF.keeps mg h h' x.2 hk⟩
structure IsF (P:PEnv) (D:Addr) (kits:List (Str×Bool)):Prop where
 ok:P.OK
 iso:Glob P "isinstance" (.builtin "isinstance")
 ex:∃ K:Frag,K.In P.B/\ExcK K D/\∀ p∈kits,∃ v,Glob P p.1 v/\kitOne K (.ref D) v=some p.2
theorem IsF.isi {P:PEnv}{D:Addr}{kits:List (Str×Bool)}{C:Ctx}{d:Nat}{x y:Str}{b:Bool}{p1 p2 p3 pos:Pos}(f:IsF P D kits) (hm:(y,b)∈kits)
  (k1:C.names.lookup ("isinstance" : Str)=some .globalImplicit) (k2:C.names.lookup x=some .local) (k3:C.names.lookup y=some .globalImplicit) (dx:(x == ("__debug__" : Str))=false) (dy:(y == ("__debug__" : Str))=false) :
  XV P C d x D (.Call (.Name "isinstance" p1) [.Name x p2,.Name y p3] [] pos) b:=by
 refine x1_3 (f.ex) fun K h1 h2 h3=>?_
 refine x1_2 (h3 _ hm) fun v h4 h5=>?_
 exact xv_isi f.ok h1 h2 f.iso h4 h5 k1 k2 k3 dx dy
end Mine
set_option maxRecDepth 100000
namespace Mine
open PySem PySem.W PyProof.Rows
variable {P:PEnv}{C:Ctx}{d:Nat}{n:Str}{D:Addr}
noncomputable def StarOK:List Expr->Prop
 | []=>True
 | e::r=>(∀ env,starEach (e::r) env=(false,eval e env)::starEach r env)/\StarOK r
theorem evs_no {pos:Pos}:∀ {es:List Expr},(∀ e∈es,XV P C d n D e false)->StarOK es ->
  ∀ {A:Around}{E:Value->Shared->Prop}{env:Env}{s:Shared}{Q:List Value->Shared->Prop},A.depth+d<recursionLimit->XEnv P C n D env s->(∀ h tk,Grown s h->Q (List.replicate es.length (.bool false)) { s with heap:=h,toks:=tk }) ->
  wpAny (model P.prog P.w) A (spliced (backTo pos (starEach es env))) Q E s
 | [],_,_,A,E,env,s,Q,hr,xe,k=>spliced_none (k s.heap s.toks .refl)
 | e::es,h,hst,A,E,env,s,Q,hr,xe,k=>by
  refine spliced_more (h e (by simp) A E env s _ hr xe fun h1 tk1 g1=>?_) (hst.1 env)
  exact evs_no (es:=es) (fun x hx=>h x (by simp [hx])) hst.2 hr (xe.grow g1) fun h2 tk2 g2=>k h2 tk2 (g1.trans g2)
theorem suite_for {y:Str}{es:List Expr}{a rest:List Stmt}{p1 p2 p3 p4 p5:Pos}{c:Str}{fv:Flow}{fl0:MFlow}(hfr:∀ B h ι,FR B h ι fl0 fv) (hc:P.mg c=some (.ref D)) (hy:C.names.lookup y=some .local) (ny:n≠y) (yd:(y == ("__debug__" : Str))=false)
  (hes:∀ e∈es,XV P C d n D e false) (hl:es.length<=1000) (hst:StarOK es) (hs:∀ env x,foldedSetIterable (.List es p2) env x=pure x)
  (hit:∀ env whole,isTrue (.Name y p3) env whole=(do let v ←whole;standAt (Expr.Name y p3).pos;holding [v] (truthy v))) (hrest:XB P C d n D rest fv) :
  SuiteOK P C d n [y] (.For (.Name y p1) (.List es p2) [.If (.Name y p3) a [] p4] [] p5::rest) c (fun fl H H₂=>fl=fl0/\H₂=H):=fun A E env s ea o D' m hr hu k1 k2 k3 k4 ns hm st nl e1 e2 hD hh nc=>by
 rw [hc] at hD;cases hD
 have xe:XEnv P C n D env s:=⟨k1,k2,k3,k4,⟨m,ea,o,ns,hm,e1,e2⟩,st⟩
 have ky:env.kindOf y=some .local:=by unfold Env.kindOf;rw [k2];exact hy
 have hp:(env.scope.kind == .class||(env.scope.kind == .module&&env.locals != env.globals))=false:=by rw [k1];rfl
 have neL:∀ {v:Value}{b:Addr},CtxIs v b s.heap->b≠env.locals:=fun c z=>by
  refine x2_3 c fun o1 vs1 q1 q2 _=>x3_3 ns fun o2 es2 ep2 q3 q4 _=>?_
  rw [z] at q1;rw [q1] at q3;cases q3;rw [q2] at q4;cases q4
 have eaL:ea≠env.locals:=nc.elim neL fun q=>x1_2 q fun _ q _=>neL q
 refine wpAny_execs_cons (wpAny_For (wpAny_List (evs_no hes hst hr xe fun h1 tk1 g1=>⟨by rw [List.length_replicate];exact Nat.le_trans hl (by decide),?_⟩)) (hs env))
 have lf:∀ {b:Addr}{ob:Obj},s.heap.get? b=some ob->b<h1.objs.size:=fun eb=>Heap.lt_size (g1 _ _ eb)
 generalize hL:(List.replicate es.length (Value.bool false)).toArray=items
 generalize hl1:h1.objs.size=L at lf
 generalize hh2:h1.push { cls:=.type "list",data:=.seq items }=h2
 have gl:h2.get? L=some { cls:=.type "list",data:=.seq items }:=by rw [←hh2,←hl1];exact Heap.get?_push_size _ rfl
 have k2':∀ b ob,s.heap.get? b=some ob->h2.get? b=some ob:=fun b ob eb=>by rw [←hh2];exact Heap.get?_push_of_some _ (g1 b ob eb)
 refine wpAny_pyIter_list (s:={ s with heap:=h2,toks:=tk1 }) (items:=items) ⟨_,gl,rfl,_,rfl⟩ ?_
 generalize hI:h2.objs.size=I
 generalize hh3:h2.push { cls:=.type "list_iterator",data:=.fields #[.ref L,.int 0 0] }=h3
 have gi:h3.get? I=some { cls:=.type "list_iterator",data:=.fields #[.ref L,.int 0 0] }:=by rw [←hh3,←hI];exact Heap.get?_push_size _ rfl
 have k3':∀ b ob,h2.get? b=some ob->h3.get? b=some ob:=fun b ob eb=>by rw [←hh3];exact Heap.get?_push_of_some _ eb
 have nI:∀ {b:Addr}{ob:Obj},h2.get? b=some ob->b≠I:=fun eb=>by rw [←hI];exact Nat.ne_of_lt (Heap.lt_size eb)
 have locI:env.locals≠I:=by obtain ⟨o2,_,_,q,_⟩:=ns;exact nI (k2' _ _ q)
 have eaI:ea≠I:=nI (k2' _ _ e1)
 have LI:L≠I:=nI gl
 have locL:L≠env.locals:=by obtain ⟨o2,_,_,q,_⟩:=ns;exact Nat.ne_of_gt (lf q)
 have iz:∀ (i:Nat) (v:Value),items[i]?=some v->v=.bool false:=fun i v hv=>by
  rw [←hL] at hv
  have:=Array.mem_of_getElem? hv
  simp only [List.mem_toArray] at this
  exact List.eq_of_mem_replicate this
 refine codeAny_forLoop_any (fun k s'=>∃ h' tk m' i,s'={ s with heap:=h',toks:=tk }/\h'.IsListIter I L i/\h'.IsList L items/\h'.Ns env.locals m'/\(∀ z,z∉[y]->m' z=m z)/\i<=items.size/\k=items.size+1-i/\∀ b ob,b≠env.locals->b≠I->h3.get? b=some ob->h'.get? b=some ob) ?_ (items.size+1)
  ⟨h3,tk1,m,0,rfl,⟨_,gi,rfl,rfl⟩,⟨_,k3' _ _ gl,rfl,_,rfl⟩,(ns.keeps k2').keeps k3',fun _ _=>rfl,Nat.zero_le _,rfl,fun _ _ _ _ e=>e⟩
 rintro k s' ⟨h',tk,m',i,rfl,hit',hl',ns',em,hi,rfl,kp⟩
 cases hv:items[i]? with
 | none =>
  have mv:∀ v b,CtxIs v b s.heap->CtxIs v b h':=fun v b c=>x2_3 c fun o vs h1 h2 h3=>⟨o,vs,kp b o (neL c) (nI (k2' _ _ h1)) (k3' _ _ (k2' _ _ h1)),h2,h3⟩
  refine list_end (s:={ s with heap:=h',toks:=tk }) (.inr ⟨ea,hh,nc.map mv⟩) hit' hl' hv fun h4 x4=>wpAny_execs_nil ?_
  have kb:∀ b ob,b≠env.locals->s.heap.get? b=some ob->h4.get? b=some ob:=fun b ob hb eb=>x4 b ob (nI (k2' _ _ eb)) (kp b ob hb (nI (k2' _ _ eb)) (k3' _ _ (k2' _ _ eb)))
  have ns4:h4.Ns env.locals m':=ns'.extBut x4 locI
  have hn4:m' n=some (.ref ea):=(em n (by simpa using ny)).trans hm
  refine hrest A E env { s with heap:=h4,toks:=tk } _ hr ⟨k1,k2,k3,k4,⟨m',ea,o,ns4,hn4,kb ea o eaL e1,e2⟩,fun b ob eb=>kb b ob (fun z=>by rw [z,nl] at eb;cases eb) (st b ob eb)⟩ fun h5 tk5 g5=>?_
  refine ⟨⟨h5,tk5,rfl⟩,⟨m',ns4.keeps g5,em⟩,fun b ob hb eb=>g5 b ob (kb b ob hb eb),fun ι H hr hL=>⟨ι,H,fl0,List.prefix_refl _,?_,fun a ha=>.inl ha,hfr _ _ _,rfl,rfl⟩⟩
  refine hr.off (T:=[env.locals]) (fun b o hb eb=>g5 b o (kb b o (fun z=>hb (z▸List.mem_singleton.mpr rfl)) eb)) (one_mem (Z:=fun b=>∀ vs,¬ IsTup s.heap b vs) fun vs t=>?_) (one_mem (Z:=fun b=>b∉ι) hL) (one_mem (Z:=fun b=>P.B.get? b=none) nl)
  exact x1_3 t fun o' e' _ q=>q.elim fun n d'=>x3_3 ns fun o2 es2 ep2 q3 q4 _=>by rw [e'] at q3;cases q3;rw [d'] at q4;cases q4
 | some v =>
  obtain rfl:=iz i v hv
  have ilt:i<items.size:=(Array.getElem?_eq_some_iff.mp hv).1
  refine wpAny_pyNext_list_item hit' hl' hv fun h4 it4 sb4=>?_
  refine x1_3 (id it4) fun oi ei ci di=>?_
  refine go_plain ei ci (by decide) ?_
  have ns4:h4.Ns env.locals m':=ns'.extBut sb4.extBut locI
  refine wpAny_assign_Name (wpAny_storeName_local ky ns4 (fun h5 ns5 sb5=>?_) hp)
  refine wpAny_execs_cons (wpAny_If (isTrue_plain (wpAny_Name (wpAny_loadName_local (v:=.bool false) k1 ky ns5 (by simp) (wpAny_truthy_bool ?_)) yd) (hit env _)))
  refine wpAny_execs_nil (wpAny_execs_nil ?_)
  refine x1_3 (hl') fun ol ql cl qQ3=>?_
  clear hl'
  obtain ⟨nl',dl⟩:=qQ3
  exact ⟨items.size+1-(i+1),by (first|lia|omega),h5,tk+1,_,i+1,rfl,⟨oi,sb5.extBut I oi (Ne.symm locI) ei,ci,di⟩,⟨ol,sb5.extBut L ol locL (sb4.extBut L ol LI ql),cl,nl',dl⟩,ns5,fun z hz=>by
    rw [List.mem_singleton] at hz
    simp only [if_neg hz];exact em z (by simpa using hz),ilt,rfl,fun b ob hb hbi eb=>sb5.extBut b ob hb (sb4.extBut b ob hbi (kp b ob hb hbi eb))⟩
end Mine
set_option maxRecDepth 100000
namespace Mine
open PySem PySem.W PyProof.Rows
abbrev RE:=Fun->Loc->Hp->XP->Prop
namespace RE
noncomputable def call (as:List ME) (R:Rais):RE:=fun Φ loc H X=>wpEs Φ as loc H fun vs H'=>R vs H' X
noncomputable def tup (as:List ME) (r:RE):RE:=fun Φ loc H X=>wpEs Φ as loc H fun _ H'=>r Φ loc H' X
noncomputable def or2 (r₁ r₂:RE):RE:=fun Φ loc H X=>r₁ Φ loc H X\/r₂ Φ loc H X
noncomputable def comp (elt:ME) (k:List ME) (as:List ME) (R:Rais):RE:=fun Φ loc H X=>wpEs Φ k loc H (kIt .plain fun items Cnd H₁=>items.length<=sizeLine/\∃ J:Nat->List AV->Hp->Prop,J 0 [] H₁/\∀ i l H',J i l H'->Cnd H' /\
   (∀ y,items[i]?=some y->wpE Φ elt (loc++[some y]) H' (fun v H3=>J (i+1) (l++[v]) H3)\/wpEs Φ as (loc++[some y]) H' fun vs H3=>R vs H3 X)/\(i=items.length->False))
end RE
noncomputable def EvX (P:PEnv) (C:Ctx) (d:Nat) (e:Expr) (loc:Loc) (H:Hp) (X:XP):Prop :=
 ∀ A E env ι s,W P A d ι H s->EnvR P.B C env ι s.heap loc->TopF A env->Acc P A X ι s E->wpAny (model P.prog P.w) A (eval e env) (fun _ _=>False) E s
structure CR (Ξ:PEnv->Nat->Prop) (G:GT) (C:Ctx) (r:RE) (e:Expr):Prop where
 snd:∀ {P d Φ},GOK P G->Ξ P d->FunOK P d Φ->∀ {loc H}{X:XP},r Φ loc H X->EvX P C d e loc H X
section
variable {Ξ:PEnv->Nat->Prop}{G:GT}{C:Ctx}{pos:Pos}
theorem EvOK.evx {P:PEnv}{d:Nat}{e:Expr}{loc:Loc}{H:Hp}{X:XP}(h:EvOK P C d e loc H (fun _ _=>False) X):EvX P C d e loc H X:=fun A E env ι s w en _ a=>wpAny_mono (h A E env ι s w en a) (fun _ _ g=>by obtain ⟨_,_,_,_,_,q⟩:=g;exact q) fun _ _ x=>x
theorem CR.call {f:Str}{a:ME}{as:List ME}{x:Expr}{xs:List Expr}{pn:Pos}{R:Rais}(hf:G.fns.contains f=true) (gn:GN C f) (hx:CE G C a x) (hs:CEs G C as xs) (r:∀ {P d},Ξ P d->∀ args H X,R args H X->CallOK P d f args H (fun _ _=>False) X) :
  CR Ξ G C (.call (a::as) R) (.Call (.Name f pn) (x::xs) [] pos):=⟨fun ok ξ hΦ _ _ _ w=>(ev_rais ok hΦ hf gn hx hs (r ξ) w).evx⟩
theorem CR.or2 {r₁ r₂:RE}{x:Expr}(h₁:CR Ξ G C r₁ x) (h₂:CR Ξ G C r₂ x):CR Ξ G C (.or2 r₁ r₂) x:=⟨fun ok ξ hΦ _ _ _ w=>w.elim (h₁.snd ok ξ hΦ) (h₂.snd ok ξ hΦ)⟩
noncomputable def EvsX (P:PEnv) (C:Ctx) (d:Nat) (es:List Expr) (loc:Loc) (H:Hp) (X:XP):Prop :=
 ∀ A E env ι s pos,W P A d ι H s->EnvR P.B C env ι s.heap loc->TopF A env->Acc P A X ι s E->wpAny (model P.prog P.w) A (spliced (backTo pos (starEach es env))) (fun _ _=>False) E s
theorem evsX_here {P:PEnv}{d:Nat}{x:Expr}{rest:List Expr}{loc:Loc}{H:Hp}{X:XP}(h:EvX P C d x loc H X) (he:∀ env,starEach (x::rest) env=(false,eval x env)::starEach rest env):EvsX P C d (x::rest) loc H X:=fun A E env ι s pos w e tp a =>
 spliced_more (wpAny_mono (h A E env ι s w e tp a) (fun _ _ q=>q.elim) fun _ _ x=>x) (he env)
theorem evsX_more {P:PEnv}{d:Nat}{x:Expr}{rest:List Expr}{loc:Loc}{H:Hp}{X:XP}(h:EvOK P C d x loc H (fun _ H'=>EvsX P C d rest loc H' X) X) (he:∀ env,starEach (x::rest) env=(false,eval x env)::starEach rest env):EvsX P C d (x::rest) loc H X:=fun A E env ι s pos w e tp a =>
 spliced_more (gv (h A E env ι s w e a) fun v s₁ ι₁ H₁ y p₁ r₁ g=>wpAny_mono (g A E env ι₁ s₁ pos (w.step p₁) (e.step w.hr p₁) tp (a.step p₁)) (fun _ _ q=>q.elim) fun _ _ x=>x) (he env)
theorem EvOK.anyX {P:PEnv}{d:Nat}{loc:Loc}{H:Hp}{e:Expr}{Q:PQ}{X:XP}(h:EvOK P C d e loc H Q XF):EvOK P C d e loc H Q X:=fun A E env ι s w en _=>h A E env ι s w en Acc.no
theorem evX_tup {P:PEnv}{d:Nat}{es:List Expr}{k:Nat}{loc:Loc}{H:Hp}{X:XP}(h:EvsX P C d es loc H X):EvX P C d (.Tuple es k pos) loc H X:=fun A E env ι s w e tp a =>
 wpAny_Tuple (wpAny_mono (h A E env ι s pos w e tp a) (fun _ _ q=>q.elim) fun _ _ x=>x)
theorem CR.tup0 {r:RE}{x:Expr}{xs:List Expr}{k:Nat}(h:CR Ξ G C r x) (he:∀ env,starEach (x::xs) env=(false,eval x env)::starEach xs env):CR Ξ G C r (.Tuple (x::xs) k pos):=⟨fun ok ξ hΦ _ _ _ w=>evX_tup (evsX_here (h.snd ok ξ hΦ w) he)⟩
theorem CR.tup1 {r:RE}{m:ME}{y x:Expr}{xs:List Expr}{k:Nat}(hy:CE G C m y) (h:CR Ξ G C r x) (he:∀ env,starEach (x::xs) env=(false,eval x env)::starEach xs env):CR Ξ G C (.tup [m] r) (.Tuple (y::x::xs) k pos):=⟨fun ok ξ hΦ _ _ _ w =>
 evX_tup (evsX_more ((hy.snd ok hΦ w).1.anyX.mono fun v H' w=>evsX_here (h.snd ok ξ hΦ w) he) fun env=>hy.star _ env)⟩
theorem CR.tuple {r:RE}{x:Expr}{pn:Pos}(gn:GN C Bi.tuple.nm) (h:CR Ξ G C r x) (he:∀ env,starEach [x] env=(false,eval x env)::starEach [] env):CR Ξ G C r (.Call (.Name Bi.tuple.nm pn) [x] [] pos):=⟨fun ok ξ hΦ _ _ _ w A E env ι s ww e tp a=>by
 refine x0_2 (ok.blt .tuple) fun h1 h2=>?_
 refine PyProof.Rows.Call_ (Calls.Name_function_global e.kind (by unfold Env.kindOf;rw [e.names];exact gn.look) (Calls.loadGlobal_builtin (e.glob▸ok.toOK.g.keeps fun b o e=>ww.hr.base b o e) h1 (e.blt▸ok.toOK.b.keeps fun b o e=>ww.hr.base b o e) h2 ?_) gn.dbg)
 exact PyProof.Rows.callWith_type1 (wpAny_mono (evsX_here (h.snd ok ξ hΦ w) he A E env ι s pos ww e tp a) (fun _ _ q=>q.elim) fun _ _ x=>x) (he env) rfl⟩
theorem CR.comp {f:Str}{elt:ME}{its:List ME}{a:ME}{as:List ME}{x:Expr}{xs:List Expr}{xt xi:Expr}{scope:Scope}{v:Str}{pn cpos:Pos}{R:Rais}(cg:CompOK C scope [v]) (hi:CI G C .plain its xi) (he:CE G (compCtx C scope [v]) elt (.Call (.Name f pn) (x::xs) [] cpos)) (tg:TgtOK C false 1 scope [v] xt)
  (hf:G.fns.contains f=true) (gn:GN (compCtx C scope [v]) f) (hx:CE G (compCtx C scope [v]) a x) (hs:CEs G (compCtx C scope [v]) as xs) (r:∀ {P d},Ξ P d->∀ args H X,R args H X->CallOK P d f args H (fun _ _=>False) X) :
  CR Ξ G C (.comp elt its (a::as) R) (.ListComp (.Call (.Name f pn) (x::xs) [] cpos) [⟨xt,xi,[],0⟩] scope pos):=⟨fun {P d Φ} ok ξ hΦ loc H X w A E env ι s ww e tp ac=>by
 show wpAny _ _ (comprehension (.ListComp (.Call (.Name f pn) (x::xs) [] cpos) [⟨xt,xi,[],0⟩] scope pos) scope env xi.pos (newList []) false (eval xi env) none) _ _ _
 refine comp_core (K:=fun _ _=>False) (tt:=false) cg ww e ac (X₂:=X) (fun c H h=>⟨h,tp⟩) (fun z=>by cases z) ?_ (hi.folded env) fun D Ca ι' H' l s' m p hd sD sC dO cO hDC ns hl hk=>hk.elim
 have hI:=(hi.snd ok hΦ w)
 have hI:ItEv P false C d xi loc H _ X:=fun A E env ι s w e _=>hI A E env ι s w e Acc.no
 refine hI.mono fun items Cnd H₁ q=>?_
 refine x0_2 q fun hsz q=>x1_2 q fun J j0 turn=>⟨hsz,J,j0,fun i l H' hj=>?_⟩
 refine x0_3 (turn i l H' hj) fun h1 h2 h3=>⟨h1,fun y hy cv hcv=>?_,h3⟩
 have hu:unpack false 1 y=some [y]:=rfl
 refine (tg.2 hu e.len hcv ⟨⟨_,rfl,rfl⟩,?_⟩).2
 show EvOK P (compCtx C scope [v]) d _ _ _ _ X
 rcases h2 y hy with h2|h2
 ·exact (he.snd ok hΦ h2).1.anyX
 ·exact (ev_rais ok hΦ hf gn hx hs (r ξ) h2).mono fun _ _ q=>q.elim⟩
namespace MS
noncomputable def orR (m:MS) (r:RE):MS:=fun Φ loc H Q=>wpS Φ m loc H Q\/r Φ loc H fun c H'=>Q (.exc c) loc H'
end MS
theorem TopIs.f {A:Around}{env:Env}(t:TopIs A env):TopF A env:=x0_2 t fun ef q=>q.elim fun l hl=>⟨env,l,env.locals,hl,ef,ef⟩
theorem exX_asgE {P:PEnv}{d:Nat}{loc:Loc}{H:Hp}{x:Str}{v:Expr}{p':Pos}{Q:PF}(h:EvX P C d v loc H (fun c H'=>Q (.exc c) loc H')) (hs:∀ env,swapsWith v (some (.Name x p')) pos.line env=pure false):ExX P C d (.Assign [.Name x p'] v pos) loc H Q:=fun A E env ι s w e tp xa =>
 wpAny_Assign_Name (wpAny_mono (h A E env ι s w e tp.f (xa.acc w.hr e)) (fun _ _ g=>g.elim) fun _ _ x=>x) (hs env)
theorem exX_retE {P:PEnv}{d:Nat}{loc:Loc}{H:Hp}{v:Expr}{Q:PF}(h:EvX P C d v loc H (fun c H'=>Q (.exc c) loc H')):ExX P C d (.Return (some v) pos) loc H Q:=fun A E env ι s w e tp xa=>by
 rw [exec_Return_some]
 exact wpAny_bind (wpAny_standAt (wpAny_bind (wpAny_mono (h A E env ι s w e tp.f (xa.acc w.hr e)) (fun _ _ g=>g.elim) fun _ _ x=>x)))
theorem CSX.asgE {m:MS}{r:RE}{n:Str}{v:Expr}{p:Pos}(hm:CS G C m (.Assign [.Name n p] v pos)) (hr:CR Ξ G C r v) (hs:∀ env,swapsWith v (some (.Name n p)) pos.line env=pure false):CSX Ξ G C (.orR m r) (.Assign [.Name n p] v pos):=⟨fun ok ξ hΦ _ _ _ w =>
 w.elim (fun w=>(hm.snd ok hΦ w).x) fun w=>exX_asgE (hr.snd ok ξ hΦ w) hs⟩
theorem CSX.retE {m:MS}{r:RE}{v:Expr}(hm:CS G C m (.Return (some v) pos)) (hr:CR Ξ G C r v):CSX Ξ G C (.orR m r) (.Return (some v) pos):=⟨fun ok ξ hΦ _ _ _ w =>
 w.elim (fun w=>(hm.snd ok hΦ w).x) fun w=>exX_retE (hr.snd ok ξ hΦ w)⟩
theorem exsA_asg {P:PEnv}{d:Nat}{loc:Loc}{H:Hp}{X:XP}{i:Nat}{n:Str}{v:Expr}{p:Pos}{Q:PF}(sl:Slot C i n) (h:EvOK P C d v loc H (fun a H'=>Q .next (loc.set i (some a)) H') X) (hs:∀ env,swapsWith v (some (.Name n p)) pos.line env=pure false) :
  ExsA P C d [.Assign [.Name n p] v pos] loc H Q X:=fun A E env ι s w e a=>wpAny_execs_cons (wpAny_Assign_Name (gv (h A E env ι s w e a) fun u s₁ ι₁ H₁ av p₁ r₁ g =>
 store_ok p₁.hr (e.step w.hr p₁) sl.lo sl.at_ sl.uniq sl.kind r₁ fun s' ps e'=>wpAny_execs_nil ⟨ι₁,H₁,_,.next,PostS.trans p₁.toS ps e'.offOwn,e',rfl,g⟩) (hs env))
theorem exsA_expr {P:PEnv}{d:Nat}{loc:Loc}{H:Hp}{X:XP}{v:Expr}{Q:PF}(h:EvOK P C d v loc H (fun _ _=>False) X) (hs:∀ env,swapsWith v none pos.line env=pure false):ExsA P C d [.Expr v pos] loc H Q X:=fun A E env ι s w e a=>by
 refine wpAny_execs_cons (wpAny_Expr_any (gv (h A E env ι s w e a) fun _ _ _ _ _ _ _ g=>g.elim) ?_ (hs env))
 unfold interactive;rw [e.kind];rfl
theorem CSX.tryE {f T n:Str}{a:ME}{as:List ME}{x:Expr}{xs:List Expr}{pn p1 tp hpos cpos:Pos}{b0:Stmt}{suite:List Stmt}{R:Rais}{hd:Str->Option MFlow}{is:List Nat}{ys:List Str}
  (hf:G.fns.contains f=true) (gn:GN C f) (hx:CE G C a x) (hs:CEs G C as xs) (r:∀ {P d},Ξ P d->∀ args H X,R args H X->CallOK P d f args H (fun _ _=>False) X) (gT:GN C T) (sl:Sls C (n::ys) is) (nn:n∉ys) (hn:C.names.lookup n=some .local)
  (hsw:∀ env,swapsWith (.Call (.Name f pn) (x::xs) [] cpos) none p1.line env=pure false)
  (hh:∀ {P d},Ξ P d->∀ c fl,hd c=some fl->Catches P c T/\SuiteOK P C d n ys (b0::suite) c (fun fl' H H₂=>fl'=fl/\H₂=H)) :
  CSX Ξ G C (.tryX is (a::as) R hd) (.Try [.Expr (.Call (.Name f pn) (x::xs) [] cpos) p1] [.ExceptHandler (some (.Name T tp)) (some n) (b0::suite) hpos] [] [] pos):=⟨fun ok ξ hΦ loc _ Q w=>by
 refine exX_try (X:=fun c H'=>∃ fl,hd c=some fl/\Q fl loc H') (ys:=ys) ok.toOK gT.look gT.dbg hn (fun y hy j dd hj z=>?_) nn (exsA_expr (ev_rais ok hΦ hf gn hx hs (r ξ) w.2) hsw) fun c H' q=>x1_2 q fun fl h1 h2=>⟨(hh ξ c fl h1).1,_,(hh ξ c fl h1).2,fun fl' H₂ z=>by rw [z.1,z.2];exact h2⟩
 refine x1_2 (sl.mem y hy) fun i hi s=>?_
 rw [s.uniq j hj,w.1 i hi] at z;cases z⟩
end
end Mine
set_option maxRecDepth 100000
namespace Mine
open PySem PySem.W PyProof.Rows
section
variable {B B' h:Heap}{ι:List Addr}
mutual
theorem VR.rebase (k:∀ a items,B.IsList a items->B'.IsList a items):∀ (d:AV) (v:Value),VR B h ι d v->VR B' h ι d v
 | .none,_,q=>q
 | .bool _,_,q=>q
 | .int _,_,q=>q
 | .str _,_,q=>q
 | .tup l,v,q=>by
  unfold VR at q ⊢
  exact x2_3 q fun a vs e t r=>⟨a,vs,e,t,VRs.rebase k l vs r⟩
 | .ref i,v,q=>q
 | .fro l,v,q=>by
  unfold VR at q ⊢
  exact x2_3 q fun a vs e t r=>⟨a,vs,e,k a _ t,VRs.rebase k l vs r⟩
theorem VRs.rebase (k:∀ a items,B.IsList a items->B'.IsList a items):∀ (d:List AV) (v:List Value),VRs B h ι d v->VRs B' h ι d v
 | [],_,q=>q
 | d::ds,vs,q=>by
  unfold VRs at q ⊢
  exact x2_3 q fun v r e t u=>⟨v,r,e,VR.rebase k d v t,VRs.rebase k ds r u⟩
end
theorem ERs.rebase (k:∀ a items,B.IsList a items->B'.IsList a items):∀ (l:List (Int×AV)) (es:List DictEntry),ERs B h ι l es->ERs B' h ι l es
 | [],_,q=>q
 | (i,d)::r,es,q=>by
  unfold ERs at q ⊢
  exact x3_3 q fun t v es' e t' u=>⟨t,v,es',e,VR.rebase k d v t',ERs.rebase k r es' u⟩
theorem OR.rebase (k:∀ a items,B.IsList a items->B'.IsList a items){a:Addr}{o:AObj}(q:OR B h ι a o):OR B' h ι a o:=by
 cases o with
 | list l=>exact x1_2 q fun vs p r=>⟨vs,p,VRs.rebase k _ _ r⟩
 | dict l=>exact ⟨q.1,q.2.1,x2_2 q.2.2 fun es n p r=>⟨es,n,p,ERs.rebase k _ _ r⟩⟩
theorem HR.rebase (k:∀ a items,B.IsList a items->B'.IsList a items){H:Hp}(q:HR B ι H h) (st:B'.StaysIn h) (fr:∀ a∈ι,B'.get? a=none):HR B' ι H h :=
 ⟨st,fr,q.nodup,q.len,fun i o e=>x1_2 (q.objs i o e) fun a e' r=>⟨a,e',r.rebase k⟩⟩
theorem EnvR.rebase (k:∀ a items,B.IsList a items->B'.IsList a items){C:Ctx}{env:Env}{loc:Loc}(q:EnvR B C env ι h loc) (n1:B'.get? env.locals=none) (n2:∀ x c,some x∈C.vars->env.cells.lookup x=some c->B'.get? c=none):EnvR B' C env ι h loc :=
 ⟨q.kind,q.names,q.glob,q.blt,q.ns,q.offL,n1,fun x c hm hc=>⟨(q.offC x c hm hc).1,(q.offC x c hm hc).2.1,n2 x c hm hc⟩,q.isC,q.apart,q.len,fun i x hi=>x1_2 (q.vars i x hi) fun ov hs hv=>⟨ov,hs,fun d hd=>x1_2 (hv d hd) fun v e r=>⟨v,e,VR.rebase k _ _ r⟩⟩⟩
end
noncomputable def withAt (B h:Heap) (ea:Addr):Heap:=hideAll h ((List.range h.objs.size).filter fun a=>(B.get? a).isNone&&a != ea)
theorem withAt_in {B h:Heap}{ea:Addr}:(withAt B h ea).StaysIn h:=fun b o e=>of_hideAll _ e
theorem withAt_up {B h:Heap}{ea:Addr}(st:B.StaysIn h):B.StaysIn (withAt B h ea):=fun b o e=>hideAll_get _ (st b o e) fun m=>by
 have:=(List.mem_filter.mp m).2
 rw [e] at this;simp at this
theorem withAt_ea {B h:Heap}{ea:Addr}{o:Obj}(e:h.get? ea=some o):(withAt B h ea).get? ea=some o:=hideAll_get _ e fun m=>by
 have:=(List.mem_filter.mp m).2
 simp at this
theorem withAt_of {B h:Heap}{ea b:Addr}{o:Obj}(st:B.StaysIn h) (e:(withAt B h ea).get? b=some o):B.get? b=some o\/b=ea:=by
 have e1:=of_hideAll _ e
 by_cases hb:b=ea
 ·exact .inr hb
 ·left
  cases z:B.get? b with
  | some o'=>exact (st b o' z).symm.trans e1
  | none =>
   have:(withAt B h ea).get? b=none:=hideAll_none _ (List.mem_filter.mpr ⟨List.mem_range.mpr (Heap.lt_size e1),by simp [z,hb]⟩)
   rw [this] at e;cases e
variable {P:PEnv}{C:Ctx}{d:Nat}{loc:Loc}{H:Hp}{X:XP}
theorem exX_tryD {tp hpos pos:Pos}{body:List Stmt}{T:Str}{b0:Stmt}{suite:List Stmt}{Q:MFlow->Loc->Hp->Prop}(ok:P.OK) (hP:P.hd=none) (hk:C.names.lookup T=some .globalImplicit) (hd:(T == ("__debug__" : Str))=false)
  (hx:ExsA P C d body loc H Q X)
  (hX:∀ c H',X c H'->Catches P c T/\∀ B' ea,P.B.StaysIn B'->NoCtx ea B'->ExsOK (PEnv.mk P.prog P.w B' P.mg P.mb (some ea)) C d (b0::suite) loc H' Q) :
  ExX P C d (.Try body [.ExceptHandler (some (.Name T tp)) none (b0::suite) hpos] [] [] pos) loc H Q:=fun A E env ι s w e tpi xa=>by
 obtain ⟨ef,l,hl⟩:=tpi
 refine wpAny_Try_except (gs (hx A _ env ι s w e ?_) fun f s₁ ι₁ H₁ loc₁ fl p₁ e₁ r₁ g=>?_)
 ·rintro l' hl' e' s₁ ι' H' c ⟨ea,base,D,rfl,hD,xl,fly,nc⟩ hc
  have:=Option.some.inj (hl.symm.trans hl')
  subst this
  obtain ⟨⟨D',Tc,hD',hT,look⟩,hs⟩:=hX c H' hc
  have:=Value.ref.inj (Option.some.inj (hD.symm.trans hD'))
  subst this
  rw [hP] at nc
  refine wpAny_mono (calm_noteFrame.any nc (looks_fly (Q:=fun _ s''=>∃ a0 h₄,s''={ s₁ with heap:=h₄ }/\Heap.HeldW base (env::l) ea (.ref D) a0 env.locals h₄/\s₁.heap.UpToSlots h₄) hl ef fly fun a0 h₄ held up₄=>⟨a0,h₄,rfl,held,up₄⟩)) (fun _ s₄ g=>?_) fun _ _ y=>y
  obtain ⟨⟨a0,h₄,rfl,held,up₄⟩,nc₄⟩:=g
  refine wpAny_mono (calm_setFlight.any nc₄ (wpAny_landsW (s:={ s₁ with heap:=h₄ }) (Q:=fun _ s''=>∃ h₅,s''={ s₁ with heap:=h₅ }/\Heap.FlyingW base (env::l) ea (.ref D) a0 h₅/\h₄.UpToSlots h₅) held fun h₅ fly₅ up₅=>⟨h₅,rfl,fly₅,up₅⟩)) (fun _ s₅ g=>?_) fun _ _ y=>y
  obtain ⟨⟨h₅,rfl,fly₅,up₅⟩,nc₅⟩:=g
  have kb₅:P.B.StaysIn h₅:=fun b o eb=>fly₅.1 b o (xl.hr.base b o eb)
  refine wpAny_handleBy_cons (codeAny_handlers_test ?_) (by intro q;cases q)
  refine Calls.Name_function_global e.kind (by unfold Env.kindOf;rw [e.names];exact hk) (Calls.loadGlobal_global (e.glob▸ok.g.keeps kb₅) hT ?_) hd
  refine x1_2 fly₅.there fun oe he hcls=>?_
  refine (look _ h₅ ea oe kb₅ he hcls).here (codeAny_handlers_suite ?_)
  refine wpAny_mono (calm_setFlight.any nc₅ (lands_againW (s:={ s₁ with heap:=h₅ }) (Q:=fun _ s''=>∃ h₆,s''={ s₁ with heap:=h₆ }/\Heap.FlyingW base (env::l) ea (.ref D) a0 h₆/\h₅.UpToSlots h₆) fly₅ fun h₆ fly₆ up₆=>⟨h₆,rfl,fly₆,up₆⟩)) (fun _ s₆ g=>?_) fun _ _ y=>y
  obtain ⟨⟨h₆,rfl,fly₆,up₆⟩,nc₆⟩:=g
  have up:s₁.heap.UpToSlots h₆:=(up₄.trans up₅).trans up₆
  have hr₆:HR P.B ι' H' h₆:=xl.hr.keep fly₆.1
  have kept₆:Kept ι s.heap h₆:=fun a o eo hι=>by
   by_cases hL:a=env.locals
   ·subst hL
    refine e.ns.elim fun m ns=>x3_3 ns fun o' es ep eo' dt _=>?_
    have:=Option.some.inj (eo.symm.trans eo')
    subst this
    refine x1_2 (xl.kept _ o eo (by simpa using hι)) fun sl e1 q1=>?_
    refine (up _ _ e1 fun vs q=>by rw [show ({ o with slots:=sl }:Obj).data=o.data from rfl,dt] at q;cases q).elim fun sl' e2=>⟨sl',e2,fun c=>absurd dt (c es ep)⟩
   ·exact try_kept (A:=A) (frames_of w.fr hl) xl (fun a o eo _ hno=>up a o eo hno) fly₆.1 a o eo hL hι
  have p₆:Post P.B ι s ι' H' { s₁ with heap:=h₆ }:=⟨xl.pre,hr₆,kept₆,xl.new,xl.same⟩
  have w₆:=w.step p₆
  have e₆:=e.step w.hr p₆
  obtain ⟨o6,vs6,g1,g2,g3⟩:=nc₆
  generalize hB:withAt P.B h₆ ea=B'
  have stB:P.B.StaysIn B':=hB▸withAt_up hr₆.base
  have stI:B'.StaysIn h₆:=hB▸withAt_in
  have ofB:∀ {b:Addr}{o:Obj},B'.get? b=some o->P.B.get? b=some o\/b=ea:=fun q=>withAt_of hr₆.base (hB▸q)
  have ncB:NoCtx ea B':=⟨o6,vs6,hB▸withAt_ea g1,g2,g3⟩
  have ku:∀ a items,P.B.IsList a items->B'.IsList a items:=fun a items q=>q.at fun o e=>stB a o e
  have kd:∀ a items,B'.IsList a items->P.B.IsList a items:=fun a items q=>x1_3 q fun o q1 q2 q3=>q3.elim fun n q4=>(ofB q1).elim (fun z=>⟨o,z,q2,n,q4⟩) fun z=>by
   have:=Option.some.inj (g1.symm.trans (z▸stI a o q1))
   subst this
   rw [g2] at q4;cases q4
  have nB:∀ {b:Addr}{o:Obj},P.B.get? b=none->h₆.get? b=some o->(∀ vs,o.data≠.fields vs)->B'.get? b=none:=fun {b o} q1 q2 q3=>by
   cases z:B'.get? b with
   | none=>rfl
   | some o' =>
    refine (ofB z).elim (fun y=>by rw [q1] at y;cases y) fun y=>?_
    subst y
    have:=Option.some.inj (g1.symm.trans q2)
    subst this
    exact absurd g2 (q3 _)
  have dB:∀ {b:Addr},B'.get? b=none->P.B.get? b=none:=fun {b} q=>by
   cases z:P.B.get? b with
   | none=>rfl
   | some o=>rw [stB b o z] at q;cases q
  have hr':HR B' ι' H' h₆:=hr₆.rebase ku stI fun a ha=>by
   refine x1_1 (List.getElem_of_mem ha) fun i q=>q.elim fun hi ei=>?_
   have hi':i<H'.length:=by rw [←hr₆.len];exact hi
   refine x1_2 (hr₆.objs i H'[i] (List.getElem?_eq_getElem hi')) fun a' ea' r=>?_
   rw [List.getElem?_eq_getElem hi,ei] at ea'
   have:=Option.some.inj ea'
   subst this
   revert r
   cases H'[i] with
   | list l=>intro r;exact x1_2 r fun vs pl _=>pl.elim fun n q=>nB (hr₆.fresh a ha) q fun vs z=>by cases z
   | dict l=>intro r;exact x2_2 r.2.2 fun es n q _=>nB (hr₆.fresh a ha) q fun vs z=>by cases z
  have e':EnvR B' C env ι' h₆ loc:=e₆.rebase ku (e₆.ns.elim fun m ns=>x3_3 ns fun o es ep q1 q2 _=>nB e₆.newL q1 fun vs z=>by rw [q2] at z;cases z) fun x c hm hc=>(e₆.isC x c hm hc).elim fun ov ic=>x1_2 ic fun o q1 q2=>nB (e₆.offC x c hm hc).2.2 q1 fun vs z=>by rw [q2] at z;cases z
  have fr':FramesOK A B' h₆ ι':=x1_2 w₆.fr fun fl efl q=>⟨fl,efl,fun en hen=>⟨(q en hen).1,x2_5 (q en hen).2 fun L o q1 q2 q3 q4 q5=>⟨L,o,q1,nB q2 q3 (fun vs z=>x2_1 q4 fun es n y=>by rw [y] at z;cases z),q3,q4,q5⟩⟩⟩
  refine wpAny_mono (hs B' ea stB ncB _ _ env ι' { s₁ with heap:=h₆ } ⟨⟨w.room.depth,w.room.units⟩,⟨rfl,fun a z=>by cases z;exact ncB⟩,fr',hr'⟩ e') (fun f s₇ g=>?_) fun _ _ y=>y
  obtain ⟨ι₂,H₂,loc₂,fl,p₂,e₂,r₂,q⟩:=g
  have hr₂:HR P.B ι₂ H₂ s₇.heap:=p₂.hr.rebase kd (fun b o eb=>p₂.hr.base b o (stB b o eb)) fun a ha=>dB (p₂.hr.fresh a ha)
  have p₂':PostS P.B (own C env) ι' { s₁ with heap:=h₆ } ι₂ H₂ s₇:=⟨p₂.pre,hr₂,p₂.kept,p₂.new,p₂.same⟩
  have e₂':EnvR P.B C env ι₂ s₇.heap loc₂:=e₂.rebase kd (dB e₂.newL) fun x c hm hc=>dB (e₂.offC x c hm hc).2.2
  refine ⟨ι₂,H₂,loc₂,fl,p₆.toS.trans p₂' e₂'.offOwn,e₂',?_,q⟩
  cases fl with
  | ret v=>exact x1_2 r₂ fun u hu r=>⟨u,hu,VR.rebase kd _ _ r⟩
  | _=>exact r₂
 ·cases fl with
  | next=>cases r₁;exact wpAny_execs_nil ⟨ι₁,H₁,loc₁,.next,p₁,e₁,rfl,g⟩
  | brk=>cases r₁;exact ⟨ι₁,H₁,loc₁,.brk,p₁,e₁,rfl,g⟩
  | cont=>cases r₁;exact ⟨ι₁,H₁,loc₁,.cont,p₁,e₁,rfl,g⟩
  | ret v=>exact x1_2 r₁ fun u hu r=>by subst hu;exact ⟨ι₁,H₁,loc₁,.ret v,p₁,e₁,⟨u,rfl,r⟩,g⟩
  | exc c=>exact r₁.elim
abbrev RaisO:=List AV->Hp->PQ->Prop
noncomputable def noF:Fun:=fun _ _ _ _=>False
namespace MS
noncomputable def tryD (i:Nat) (T:Str) (as as2:List ME) (R:Rais2) (RR:RaisO):MS:=fun Φ loc H Q=>wpEs Φ as loc H fun vs H'=>R vs H' (fun v H''=>Q .next (loc.set i (some v)) H'') fun c H''=>c=T/\wpEs noF as2 loc H'' fun us H3=>RR us H3 fun v H4=>Q (.ret v) loc H4
end MS
theorem CSX.tryD {Ξ:PEnv->Nat->Prop}{G Gq:GT}{C:Ctx}{pos:Pos}{f g T n:Str}{i:Nat}{a a2:ME}{as as2:List ME}{x x2:Expr}{xs xs2:List Expr}{pn p cpos apos tp pg c2 rp hpos:Pos}{R:Rais2}{RR:RaisO}(sl:Slot C i n)
  (hf:G.fns.contains f=true) (gn:GN C f) (hx:CE G C a x) (hs:CEs G C as xs) (hg:Gq.fns.contains g=true) (gg:GN C g) (hx2:CE Gq C a2 x2) (hs2:CEs Gq C as2 xs2) (gT:GN C T)
  (r:∀ {P d},Ξ P d->∀ args H Q X,R args H Q X->CallOK P d f args H Q X)
  (ct:∀ {P d},Ξ P d->P.hd=none/\Catches P T T/\∀ B' ea,P.B.StaysIn B'->NoCtx ea B'->GOK (PEnv.mk P.prog P.w B' P.mg P.mb (some ea)) Gq/\∀ args H Q,RR args H Q->CallOK (PEnv.mk P.prog P.w B' P.mg P.mb (some ea)) d g args H Q XF)
  (hsw:∀ env,swapsWith (.Call (.Name f pn) (x::xs) [] cpos) (some (.Name n p)) apos.line env=pure false) :
  CSX Ξ G C (.tryD i T (a::as) (a2::as2) R RR) (.Try [.Assign [.Name n p] (.Call (.Name f pn) (x::xs) [] cpos) apos] [.ExceptHandler (some (.Name T tp)) none [.Return (some (.Call (.Name g pg) (x2::xs2) [] c2)) rp] hpos] [] [] pos):=⟨fun {P d Φ} ok ξ hΦ loc _ Q w=>by
 have w:wpEs Φ (a::as) loc _ (fun vs H'=>R vs H' (fun v H''=>Q .next (loc.set i (some v)) H'') fun c H''=>c=T/\wpEs noF (a2::as2) loc H'' fun us H3=>RR us H3 fun v H4=>Q (.ret v) loc H4):=w
 refine x0_3 (ct ξ) fun c1 c2' c3=>?_
 refine exX_tryD (X:=fun c H''=>c=T/\wpEs noF (a2::as2) loc H'' fun us H3=>RR us H3 fun v H4=>Q (.ret v) loc H4) ok.toOK c1 gT.look gT.dbg (exsA_asg sl ?_ hsw) fun c H' q=>⟨q.1▸c2',fun B' ea st nc=>?_⟩
 ·refine x3_3 (ok.fns _ hf) fun fa o fd h1 h2 h3=>?_
  exact ev_call ok.toOK gn.look gn.dbg h1 h2 h3 (((CEs.cons hx hs).snd ok hΦ w).anyX.mono fun vs H' w=>r ξ _ _ _ _ w) fun env=>hx.star _ env
 ·refine x0_2 (c3 B' ea st nc) fun ok' r'=>?_
  refine x3_3 (ok'.fns _ hg) fun fa o fd h1 h2 h3=>?_
  refine exs_cons (ex_ret (ev_call ok'.toOK gg.look gg.dbg h1 h2 h3 (((CEs.cons hx2 hs2).snd ok' (Φ:=noF) (fun _ _ _ _ z=>z.elim) q.2).mono fun vs H' w=>r' _ _ _ w) fun env=>hx2.star _ env))⟩
end Mine
namespace Mine
open PySem
local macro_rules |`(tactic| walk_at "wp")=>do
 let pre ←("ss_nil ss_cons thenS_next thenS_ret s_asg s_asgT s_sto s_ite s_ret s_ret0 s_expr s_for whlK_ret forK_ret end_ret end_next k_bin1 k_bin2 k_cmp1 k_cmp2 k_c1 k_c2 k_c3 k_c4t k_c4f k_not k_neg k_and k_andt k_andf k_or k_ort k_orf k_call k_bi k_isi k_idx1 k_idx2 k_s1 k_s2n k_s2o k_s4n k_s4o k_s6 k_t1 k_t2n k_t2o k_t4n k_t4o k_tup k_lst k_m1 k_m2 k_e1 k_e2 k_cs k_cst k_csf k_it k_asg k_asgT k_sto1 k_sto2 k_sto3 k_sto4 k_ite k_itet k_itef k_ret k_exp k_whl k_whlt k_whlf e_cst e_loc0 e_locS e_bin e_cmp e_cmp2 e_not e_neg e_and2 e_or2 e_call e_bi e_isi e_idx e_slc e_slcT e_rev e_tup e_lst e_dic0 e_dic1 k_d1 k_d3 r_enum e_meth e_comp es_nil es_cons cs_nil cs_cons withL_some b_add b_sub b_mul b_mod b_fdiv b_pow b_addT c_lt c_le c_gt c_ge c_eqI c_neI c_eqS c_neS c_eqB c_neB i_tup0 i_tup1 i_tup2 l_tup l_fro g_tup n_bool n_min n_max r_one r_two r_tup".splitOn " ").toArray.mapM fun n=>`(Lean.Parser.Tactic.simpLemma| ↓ $(Lean.mkIdent n.toName):term)
 let post ←("set0 setS mapC mapN appC appN repS repZ sAc sAn zipC zipN zipM Bool.not_true Bool.not_false".splitOn " ").toArray.mapM fun n=>`(Lean.Parser.Tactic.simpLemma| $(Lean.mkIdent n.toName):term)
 let all:Lean.TSyntaxArray [``Lean.Parser.Tactic.simpStar,``Lean.Parser.Tactic.simpErase,``Lean.Parser.Tactic.simpLemma]:=(pre++post).map fun x=>⟨x.raw⟩
 `(tactic| try simp only [$all,*])
local macro_rules |`(tactic| walk_at "om")=>`(tactic| first|decide|with_reducible assumption|with_reducible exact Int.emod_nonneg _ (by decide)|with_reducible exact Int.emod_lt_of_pos _ (by decide)|(first|lia|omega))
local macro_rules |`(tactic| walk_at "sd")=>`(tactic| first|decide|exact Nat.le_of_ble_eq_true rfl|rfl|exact noPyS (by decide)|with_reducible assumption|omega|(simp [sizeLine];done))
local macro_rules |`(tactic| walk_at "go")=>`(tactic| ((walk_at "wp");repeat (with_reducible refine And.intro ?sd ?_;(case sd=>walk_at "sd"))))
local macro_rules |`(tactic| walk_at "wx")=>`(tactic| try simp -implicitDefEqProofs only [↓wps,lst])
local macro_rules |`(tactic| walk_at "gx")=>`(tactic| ((walk_at "wx");repeat (with_reducible refine And.intro ?sd ?_;(case sd=>walk_at "sd"))))
local macro_rules |`(tactic| walk_at "wq")=>do
 let pre ←("ss_nil ss_cons thenS_next thenS_ret s_asg s_asgT s_sto s_ite s_ret s_ret0 s_expr s_for whlK_ret forK_ret end_ret end_next k_bin1 k_bin2 k_cmp1 k_cmp2 k_c1 k_c2 k_c3 k_c4t k_c4f k_not k_neg k_and k_andt k_andf k_or k_ort k_orf k_call k_bi k_isi k_idx1 k_idx2 k_s1 k_s2n k_s2o k_s4n k_s4o k_s6 k_t1 k_t2n k_t2o k_t4n k_t4o k_tup k_lst k_m1 k_m2 k_e1 k_e2 k_cs k_cst k_csf k_it k_asg k_asgT k_sto1 k_sto2 k_sto3 k_sto4 k_ite k_itet k_itef k_ret k_exp k_whl k_whlt k_whlf e_cst e_loc0 e_locS e_bin e_cmp e_cmp2 e_not e_neg e_and2 e_or2 e_call e_bi e_isi e_idx e_slc e_slcT e_rev e_tup e_lst e_dic0 e_dic1 k_d1 k_d3 r_enum e_meth e_comp es_nil es_cons cs_nil cs_cons withL_some b_add b_sub b_mul b_mod b_fdiv b_pow b_addT c_lt c_le c_gt c_ge c_eqI c_neI c_eqS c_neS c_eqB c_neB i_tup0 i_tup1 i_tup2 l_tup l_fro g_tup n_bool n_min n_max r_one r_two r_tup e_strI e_lenS e_intS e_joinS e_splitS e_inS e_fmt2 k_join1 k_split1 k_in2 k_lenS b_addS e_slcS e_idxS e_mulS k_u1 k_u2n k_u2o k_u3n k_u3o k_v1 k_w1 k_v2".splitOn " ").toArray.mapM fun n=>`(Lean.Parser.Tactic.simpLemma| ↓ $(Lean.mkIdent n.toName):term)
 let post ←("set0 setS mapC mapN appC appN repS repZ sAc sAn zipC zipN zipM Bool.not_true Bool.not_false".splitOn " ").toArray.mapM fun n=>`(Lean.Parser.Tactic.simpLemma| $(Lean.mkIdent n.toName):term)
 let all:Lean.TSyntaxArray [``Lean.Parser.Tactic.simpStar,``Lean.Parser.Tactic.simpErase,``Lean.Parser.Tactic.simpLemma]:=(pre++post).map fun x=>⟨x.raw⟩
 `(tactic| try simp only [$all,*])
section
open PySem
set_option maxHeartbeats 1000000
abbrev CK (P:PEnv) (n:Nat):Fun:=fun f a H Q=>CallOK P n f a H Q XF
noncomputable def m_law_cell_at:MF:=⟨2,2,
 [.ite (.cmp .lt (.loc 1) (.bi .len [.loc 0])) [.ret (.idx (.loc 0) (.loc 1))] [],
 .ret (.cst (.int 0))]⟩
noncomputable def m_law_whole:MF:=⟨1,1,
 [.ret (.and2 (.isi (.loc 0) .int) (.not (.isi (.loc 0) .bool)))]⟩
noncomputable def m_law_mixed:MF:=⟨3,6,
 [.asg 3 (.lst []),
 .asg 4 (.cst (.int 7)),
 .forr false [5] .range [.loc 2] [.asg 4 (.bin .mod (.bin .add (.bin .add (.bin .add (.bin .mul (.loc 4) (.cst (.int 48271))) (.call "_law_cell_at" [.loc 0,.bin .add (.loc 1) (.loc 5)])) (.bin .mul (.cst (.int 31)) (.loc 5))) (.cst (.int 1))) (.cst (.int 2147483647))),
  .expr (.meth .append (.loc 3) [.loc 4])],
 .ret (.loc 3)]⟩
theorem mulOk_200 {a b:Int}(ha:a.natAbs<2^200) (hb:b.natAbs<2^200):IntMulOk a b :=
 IntMulOk.of_bits (Nat.le_trans (intBits_le ha) (by decide)) (Nat.le_trans (intBits_le hb) (by decide))
theorem noPy200 {a b:Int}(h:b.natAbs<2^200):NoPy a b:=noPy (Nat.lt_of_lt_of_le h (Nat.pow_le_pow_right (by decide) (by decide)))
noncomputable def SCell (Φ:Fun):Prop:=∀ (l:List Int) (k:Int) (H:Hp) (Q:PQ),0<=k->l.length<=63->Q (.int ((l[k.toNat]?).getD 0)) H->Φ "_law_cell_at" [.fro (l.map .int),.int k] H Q
theorem cell_at {Φ:Fun}{l:List Int}{k:Int}{H:Hp}{Q:PQ}(hk:0<=k) (hl:l.length<=63) (h:Q (.int ((l[k.toNat]?).getD 0)) H):wpF Φ m_law_cell_at [.fro (l.map .int),.int k] H Q:=by
 ((refine ⟨rfl,?_⟩;simp only [lst,Nat.reduceSub,Nat.sub_self,List.replicate]))
 simp only [m_law_cell_at]
 walk_at "wp"
 refine ⟨by simp;(first|lia|omega),?_⟩
 refine sp_d (fun hlt=>?_) (fun hlt=>?_)
 ·walk_at "wp"
  simp at hlt
  refine idx_at rfl (by simp;(first|lia|omega)) hk (z:=.int (l[k.toNat]'(by walk_at "om"))) (by simp) ?_
  have e:l[k.toNat]?=some (l[k.toNat]'(by walk_at "om")):=List.getElem?_eq_getElem (by walk_at "om")
  rw [e] at h;exact h
 ·walk_at "wp"
  simp at hlt
  have e:l[k.toNat]?=none:=List.getElem?_eq_none (by walk_at "om")
  rw [e] at h;exact h
theorem whole {Φ:Fun}{i:Int}{H:Hp}{Q:PQ}(h:Q (.bool true) H):wpF Φ m_law_whole [.int i] H Q:=by
 ((refine ⟨rfl,?_⟩;simp only [lst,Nat.reduceSub,Nat.sub_self,List.replicate]))
 simp only [m_law_whole]
 walk_at "wp"
 simp only [isi]
 walk_at "wp"
 exact h
noncomputable def pw (b e m:Int):Int:=b^e.toNat%m
theorem natAbs_lt {x m:Int}(h0:0<=x) (h1:x<m) (hm:m<=10^32):x.natAbs<2^200:=by
 have:x.natAbs<10^32:=by (first|lia|omega)
 exact Nat.lt_of_lt_of_le this (by decide)
noncomputable def SPow (Φ:Fun):Prop:=∀ (b e m:Int) (H:Hp) (Q:PQ),0<=e->1<=m->m<=10^32->Q (.int (pw b e m)) H->Φ "powered" [.int b,.int e,.int m] H Q
structure CellsB (B:Int) (cs:List Int) (n:Nat):Prop where
 len:cs.length=n
 bd:∀ c∈cs,0<=c/\c<B
abbrev Cells (cs:List Int) (n:Nat):Prop:=CellsB 4294967296 cs n
theorem CellsB.up {cs:List Int}{n:Nat}(h:CellsB 2147483647 cs n):Cells cs n:=⟨h.len,fun c hc=>by have:=h.bd c hc;(first|lia|omega)⟩
noncomputable def SMixedA (Φ:Fun):Prop:=∀ (l:List Int) (a:Int) (n:Nat) (H:Hp) (Q:PQ),0<=a->l.length<=63->n<=1000->(∀ cs,CellsB 2147483647 cs n->Q (.ref H.length) (H++[.list (cs.map .int)]))->Φ "_law_mixed" [.fro (l.map .int),.int a,.int n] H Q
theorem mixedA {Φ:Fun}(c:SCell Φ){l:List Int}{a:Int}{n:Nat}{H:Hp}{Q:PQ}(ha:0<=a) (hl:l.length<=63) (hn:n<=1000) (h:∀ cs,CellsB 2147483647 cs n->Q (.ref H.length) (H++[.list (cs.map .int)])):wpF Φ m_law_mixed [.fro (l.map .int),.int a,.int n] H Q:=by
 ((refine ⟨rfl,?_⟩;simp only [lst,Nat.reduceSub,Nat.sub_self,List.replicate]))
 simp only [m_law_mixed]
 walk_at "wp"
 refine ⟨by decide,by walk_at "om",by walk_at "om",?_⟩
 refine for_intro (fun i loc H'=>∃ (cs:List Int) (more:Int) (o:Option AV),CellsB 2147483647 cs i/\0<=more/\more<2147483647/\H'=H++[.list (cs.map .int)]/\loc=[some (.fro (l.map .int)),some (.int a),some (.int n),some (.ref H.length),some (.int more),o]) ⟨[],7,none,⟨rfl,fun c hc=>by simp at hc⟩,by walk_at "om",by walk_at "om",rfl,rfl⟩ ?_
 rintro i loc H' ⟨cs,more,o,hc,h0,h1,rfl,rfl⟩
 refine ⟨trivial,fun y hy=>?_,fun hi=>?_⟩
 ·have hlt:i<n:=by
   have:=(List.getElem?_eq_some_iff.mp hy).1
   simpa using this
  rw [List.getElem?_map,List.getElem?_range (by simpa using hlt)] at hy
  simp only [Option.map_some,Option.some.injEq] at hy
  subst hy
  refine ⟨[.int i],rfl,?_⟩
  walk_at "wp"
  refine ⟨mulOk_left (Nat.lt_of_le_of_lt (show more.natAbs<=2147483647 by walk_at "om") (by decide)),?_⟩
  refine c l _ _ _ (by walk_at "om") hl ?_
  walk_at "wp"
  simp only [fmod_nn (show (0:Int)<=2147483647 by walk_at "om")]
  refine ⟨mulOk_left (by decide),by decide,?_⟩
  generalize hx:(more*48271+(l[(a+i).toNat]?).getD 0+31*i+1)%2147483647=x
  have x0:0<=x:=by rw [←hx];exact Int.emod_nonneg _ (by decide)
  have x1:x<2147483647:=by rw [←hx];exact Int.emod_lt_of_pos _ (by decide)
  have hg:(H++[AObj.list (cs.map AV.int)])[H.length]?=some (.list (cs.map AV.int)):=by simp
  refine ⟨isL_ref hg,?_⟩
  rw [m_append hg]
  refine ⟨by rw [List.length_map,hc.len];unfold sizeLine;(first|lia|omega),?_⟩
  walk_at "wp"
  refine for_next ⟨cs++[x],x,some (.int i),⟨by simp [hc.len],fun c' hc'=>?_⟩,x0,x1,?_,rfl⟩
  ·rcases List.mem_append.mp hc' with m|m
   ·exact hc.bd c' m
   ·simp at m;rw [m];exact ⟨x0,x1⟩
  ·rw [List.set_append_right _ _ (Nat.le_refl _)];simp
 ·walk_at "wp"
  have:i=n:=by simpa using hi
  subst this
  exact h cs hc
end
section
open PySem
set_option maxHeartbeats 2000000
noncomputable def m_law_power:MF:=⟨3,6,
 [.asg 3 (.lst []),
 .whl (.cmp .gt (.loc 1) (.cst (.int 0))) [.expr (.meth .append (.loc 3) [.bin .mod (.loc 1) (.cst (.int 2))]),
  .asg 1 (.bin .fdiv (.loc 1) (.cst (.int 2)))],
 .asg 4 (.bin .mod (.cst (.int 1)) (.loc 2)),
 .forr false [5] .revd [.loc 3] [.asg 4 (.bin .mod (.bin .mul (.loc 4) (.loc 4)) (.loc 2)),
  .ite (.cmp .eq (.loc 5) (.cst (.int 1))) [.asg 4 (.bin .mod (.bin .mul (.loc 4) (.loc 0)) (.loc 2))] []],
 .ret (.loc 4)]⟩
noncomputable def m_law_round:MF:=⟨3,5,
 [.ite (.cmp .ne (.call "_law_power" [.loc 1,.bin .sub (.loc 0) (.cst (.int 1)),.loc 0]) (.cst (.int 1))) [.ret (.cst (.bool false))] [],
 .forr true [3,4] .plain [.loc 2] [.ite (.cmp .eq (.call "_law_power" [.loc 1,.bin .fdiv (.bin .sub (.loc 0) (.cst (.int 1))) (.loc 3),.loc 0]) (.cst (.int 1))) [.ret (.cst (.bool false))] []],
 .ret (.cst (.bool true))]⟩
noncomputable def m_law_is_prime:MF:=⟨1,2,
 [.asg 1 (.cst (.int 2)),
 .whl (.cmp .le (.bin .mul (.loc 1) (.loc 1)) (.loc 0)) [.ite (.cmp .eq (.bin .mod (.loc 0) (.loc 1)) (.cst (.int 0))) [.ret (.cst (.bool false))] [],
  .asg 1 (.bin .add (.loc 1) (.cst (.int 1)))],
 .ret (.cmp .gt (.loc 0) (.cst (.int 1)))]⟩
noncomputable def m_law_factors:MF:=⟨1,4,
 [.asg 1 (.lst []),
 .asg 2 (.cst (.int 2)),
 .whl (.cmp .gt (.loc 0) (.cst (.int 1))) [.asg 3 (.cst (.int 0)),
  .whl (.cmp .eq (.bin .mod (.loc 0) (.loc 2)) (.cst (.int 0))) [.asg 0 (.bin .fdiv (.loc 0) (.loc 2)),
   .asg 3 (.bin .add (.loc 3) (.cst (.int 1)))],
  .ite (.cmp .gt (.loc 3) (.cst (.int 0))) [.expr (.meth .append (.loc 1) [.tup [.loc 2,.loc 3]])] [],
  .asg 2 (.bin .add (.loc 2) (.cst (.int 1)))],
 .ret (.bi .tuple [.loc 1])]⟩
noncomputable def m_law_prime_row:MF:=⟨2,4,
 [.ite (.cmp .eq (.loc 0) (.cst (.int 2))) [.ret (.tup [.cst (.int 2),.cst (.str "first"),.tup []])] [],
 .asg 2 (.call "_law_factors" [.bin .sub (.loc 0) (.cst (.int 1))]),
 .asg 3 (.bin .add (.cst (.int 1)) (.bin .mod (.loc 1) (.bin .sub (.loc 0) (.cst (.int 1))))),
 .whl (.not (.call "_law_round" [.loc 0,.loc 3,.loc 2])) [.asg 3 (.bin .add (.bin .mod (.loc 3) (.bin .sub (.loc 0) (.cst (.int 1)))) (.cst (.int 1)))],
 .ret (.tup [.loc 0,.cst (.str "prime"),.tup [.loc 3,.loc 2]])]⟩
noncomputable def m_law_parted_row:MF:=⟨2,6,
 [.asg 2 (.comp false 1 (.loc 6) .range [.cst (.int 2),.loc 0] [.cmp .eq (.bin .mod (.loc 0) (.loc 6)) (.cst (.int 0))]),
 .asg 3 (.comp false 1 (.loc 6) .range [.cst (.int 2),.bin .sub (.loc 0) (.cst (.int 1))] [.cmp .eq (.bin .mod (.bin .mul (.loc 6) (.loc 6)) (.loc 0)) (.cst (.int 1))]),
 .asg 4 (.idx (.loc 2) (.bin .mod (.bin .fdiv (.loc 1) (.cst (.int 4))) (.bi .len [.loc 2]))),
 .ite (.and2 (.cmp .eq (.bin .mod (.loc 1) (.cst (.int 4))) (.cst (.int 0))) (.cmp .gt (.bi .len [.loc 3]) (.cst (.int 0)))) [.ret (.tup [.loc 0,.cst (.str "root"),.tup [.idx (.loc 3) (.bin .mod (.bin .fdiv (.loc 1) (.cst (.int 4))) (.bi .len [.loc 3]))]])] [],
 .ite (.cmp .gt (.bin .mod (.loc 1) (.cst (.int 4))) (.cst (.int 1))) [.ret (.tup [.loc 0,.cst (.str "split"),.tup [.loc 4,.bin .fdiv (.loc 0) (.loc 4)]])] [],
 .asg 5 (.bin .add (.cst (.int 1)) (.bin .mod (.bin .fdiv (.loc 1) (.cst (.int 4))) (.bin .sub (.loc 0) (.cst (.int 1))))),
 .whl (.cmp .eq (.call "_law_power" [.loc 5,.bin .sub (.loc 0) (.cst (.int 1)),.loc 0]) (.cst (.int 1))) [.asg 5 (.bin .add (.bin .mod (.loc 5) (.bin .sub (.loc 0) (.cst (.int 1)))) (.cst (.int 1)))],
 .ret (.tup [.loc 0,.cst (.str "power"),.tup [.loc 5]])]⟩
noncomputable def m_law_big_row:MF:=⟨1,5,
 [.asg 1 (.lst [.tup [.cst (.int 65537),.cst (.int 3),.tup [.tup [.cst (.int 2),.cst (.int 16)]]],.tup [.cst (.int 998244353),.cst (.int 3),.tup [.tup [.cst (.int 2),.cst (.int 23)],.tup [.cst (.int 7),.cst (.int 1)],.tup [.cst (.int 17),.cst (.int 1)]]]]),
 .asg 1 (.bin .add (.loc 1) (.lst [.tup [.cst (.int 2013265921),.cst (.int 31),.tup [.tup [.cst (.int 2),.cst (.int 27)],.tup [.cst (.int 3),.cst (.int 1)],.tup [.cst (.int 5),.cst (.int 1)]]],.tup [.cst (.int 4179340454199820289),.cst (.int 3),.tup [.tup [.cst (.int 2),.cst (.int 57)],.tup [.cst (.int 29),.cst (.int 1)]]]])),
 .asgT [2,3,4] (.idx (.loc 1) (.bin .mod (.loc 0) (.cst (.int 4)))),
 .asg 3 (.call "_law_power" [.loc 3,.idx (.lst [.cst (.int 1),.cst (.int 11),.cst (.int 13),.cst (.int 19),.cst (.int 23)]) (.bin .mod (.bin .fdiv (.loc 0) (.cst (.int 4))) (.cst (.int 5))),.loc 2]),
 .ret (.tup [.loc 2,.cst (.str "prime"),.tup [.loc 3,.loc 4]])]⟩
noncomputable def m_law_great_row:MF:=⟨2,4,
 [.asg 2 (.bin .add (.cst (.int 2)) (.bin .mod (.bin .add (.bin .mul (.loc 0) (.cst (.int 2147483647))) (.loc 1)) (.bin .pow (.cst (.int 10)) (.cst (.int 15))))),
 .asg 3 (.bin .add (.cst (.int 2)) (.bin .mod (.bin .add (.bin .mul (.loc 1) (.cst (.int 2147483647))) (.loc 0)) (.bin .sub (.bin .pow (.cst (.int 10)) (.cst (.int 15))) (.cst (.int 9))))),
 .ite (.cmp .eq (.bin .mod (.loc 0) (.cst (.int 3))) (.cst (.int 0))) [.ret (.tup [.bin .mul (.loc 2) (.loc 3),.cst (.str "split"),.tup [.loc 2,.loc 3]])] [],
 .ite (.cmp .eq (.bin .mod (.loc 0) (.cst (.int 3))) (.cst (.int 1))) [.ret (.tup [.bin .mul (.loc 2) (.loc 3),.cst (.str "power"),.tup [.loc 2]])] [],
 .ret (.tup [.bin .sub (.bin .mul (.bin .add (.loc 3) (.cst (.int 1))) (.bin .add (.loc 3) (.cst (.int 1)))) (.cst (.int 1)),.cst (.str "root"),.tup [.bin .add (.loc 3) (.cst (.int 1))]])]⟩
noncomputable def m_law_needs:MF:=⟨1,1,
 [.ite (.cmp .eq (.idx (.loc 0) (.cst (.int 1))) (.cst (.str "prime"))) [.ret (.comp true 2 (.loc 1) .plain [.idx (.idx (.loc 0) (.cst (.int 2))) (.cst (.int 1))] [])] [],
 .ret (.lst [])]⟩
noncomputable def m_law_closed:MF:=⟨3,5,
 [.whl (.cmp .gt (.bi .len [.loc 1]) (.cst (.int 0))) [.asg 3 (.meth .pop (.loc 1) []),
  .ite (.cmp .notIn (.loc 3) (.loc 0)) [.asg 4 (.idx (.loc 2) (.bin .mod (.bin .add (.loc 3) (.bi .len [.loc 0])) (.bi .len [.loc 2]))),
   .ite (.call "_law_is_prime" [.loc 3]) [.sto (.loc 0) (.loc 3) (.call "_law_prime_row" [.loc 3,.loc 4])] [.sto (.loc 0) (.loc 3) (.call "_law_parted_row" [.loc 3,.loc 4])],
   .expr (.meth .extend (.loc 1) [.call "_law_needs" [.idx (.loc 0) (.loc 3)]])] []],
 .ret (.comp false 1 (.idx (.loc 0) (.loc 5)) .plain [.bi .sorted [.loc 0]] [])]⟩
noncomputable def m_law_rows_by:MF:=⟨1,4,
 [.asg 1 (.dic0),
 .asg 2 (.comp false 1 (.bin .add (.cst (.int 2)) (.bin .mod (.bin .fdiv (.idx (.loc 0) (.loc 4)) (.cst (.int 6))) (.idx (.lst [.cst (.int 40),.cst (.int 398)]) (.bin .mod (.bin .fdiv (.idx (.loc 0) (.loc 4)) (.cst (.int 2400))) (.cst (.int 2)))))) .range [.bin .add (.cst (.int 1)) (.bin .mod (.idx (.loc 0) (.cst (.int 0))) (.cst (.int 5)))] []),
 .ite (.cmp .eq (.bin .mod (.idx (.loc 0) (.cst (.int 6))) (.cst (.int 4))) (.cst (.int 1))) [.asg 3 (.call "_law_big_row" [.bin .fdiv (.idx (.loc 0) (.cst (.int 6))) (.cst (.int 4))]),
  .sto (.loc 1) (.idx (.loc 3) (.cst (.int 0))) (.loc 3),
  .expr (.meth .extend (.loc 2) [.call "_law_needs" [.loc 3]])] [],
 .ite (.cmp .eq (.bin .mod (.idx (.loc 0) (.cst (.int 7))) (.cst (.int 4))) (.cst (.int 1))) [.asg 3 (.call "_law_great_row" [.idx (.loc 0) (.cst (.int 7)),.idx (.loc 0) (.cst (.int 5))]),
  .sto (.loc 1) (.idx (.loc 3) (.cst (.int 0))) (.loc 3)] [],
 .ret (.call "_law_closed" [.loc 1,.loc 2,.loc 0])]⟩
theorem at_new {H:Hp}{o:AObj}:(H++[o])[H.length]?=some o:=by simp
theorem pre_new {H:Hp}{t:Hp}:H<+:H++t:=List.prefix_append _ _
theorem pre_set {H H':Hp}{i:Nat}{o:AObj}(p:H<+:H') (h:H.length<=i):H<+:H'.set i o:=by
 refine x1_1 (p) fun t eQ1=>?_
 clear p
 subst eQ1
 rw [List.set_append_right _ _ h];exact List.prefix_append _ _
theorem pre_at {H H':Hp}{i:Nat}{o:AObj}(p:H<+:H') (h:H[i]?=some o):H'[i]?=some o:=by
 refine x1_1 (p) fun t eQ1=>?_
 clear p
 subst eQ1
 rw [List.getElem?_append_left (List.getElem?_eq_some_iff.mp h).1];exact h
theorem szL {n:Nat}(h:n<=1000):n<=sizeLine:=by unfold sizeLine;(first|lia|omega)
theorem szB {n:Nat}(h:n<=100000):n<=sizeLine:=by unfold sizeLine;(first|lia|omega)
noncomputable def hv (l:List Int) (a:Nat):Nat:=l.foldl (fun a x=>2*a+x.toNat) a
theorem hv_snoc (l:List Int) (x:Int) (a:Nat):hv (l++[x]) a=2*hv l a+x.toNat:=by simp [hv,List.foldl_append]
theorem hv_cons (l:List Int) (x:Int) (a:Nat):hv (x::l) a=hv l (2*a+x.toNat):=rfl
noncomputable def SPower (Φ:Fun):Prop:=∀ (b e m:Int) (H:Hp) (Q:PQ),b.natAbs<2^200->0<=e->e<10^32->1<=m->m<=10^32->Q (.int (pw b e m)) H->Φ "_law_power" [.int b,.int e,.int m] H Q
theorem power {Φ:Fun}{b e m:Int}{H:Hp}{Q:PQ}(hb:b.natAbs<2^200) (e0:0<=e) (e1:e<10^32) (m0:1<=m) (m1:m<=10^32) (h:∀ H',H<+:H'->Q (.int (pw b e m)) H'):wpF Φ m_law_power [.int b,.int e,.int m] H Q:=by
 ((refine ⟨rfl,?_⟩;simp only [lst,Nat.reduceSub,Nat.sub_self,List.replicate]))
 simp only [m_law_power]
 walk_at "go"
 refine s_whl (fun n loc H'=>∃ (bs:List Int),loc=[some (.int b),some (.int n),some (.int m),some (.ref H.length),none,none]/\H'=H++[.list (bs.map .int)]/\(∀ x∈bs,x=0\/x=1)/\hv bs.reverse n=e.toNat/\n*2^bs.length<=e.toNat) e.toNat ⟨[],by rw [Int.toNat_of_nonneg e0],rfl,(fun x hx=>by cases hx),rfl,by simp⟩ ?_
 rintro n loc H' ⟨bs,rfl,rfl,h01,hh,hle⟩
 walk_at "wp"
 have hg:(H++[AObj.list (bs.map AV.int)])[H.length]?=some (.list (bs.map AV.int)):=at_new
 refine sp_d (fun hn=>?_) (fun hn=>?_)
 ·walk_at "go"
  have hl:bs.length<=200:=by
   rcases Nat.lt_or_ge bs.length 200 with h|h
   ·(first|lia|omega)
   ·exfalso
    have h1:2^200<=2^bs.length:=Nat.pow_le_pow_right (by decide) h
    have h2:2^bs.length<=n*2^bs.length:=Nat.le_mul_of_pos_left _ (by walk_at "om")
    have h3:e.toNat<10^32:=by (first|lia|omega)
    have h4:(10:Nat)^32<2^200:=by decide
    (first|lia|omega)
  refine ⟨isL_ref hg,?_⟩
  walk_at "go"
  rw [m_append hg]
  refine ⟨szL (by simp;(first|lia|omega)),?_⟩
  walk_at "go"
  (simp only [fmod_nn,fdiv_nn,Int.reduceLE])
  refine whl_next (n/2) (by walk_at "om") ⟨bs++[(n:Int)%2],by rw [show ((n:Int)/2)=((n/2:Nat):Int) by (first|lia|omega)],?_,fun x hx=>?_,?_,?_⟩
  ·rw [List.set_append_right _ _ (Nat.le_refl _)];simp
  ·rcases List.mem_append.mp hx with hx|hx
   ·exact h01 x hx
   ·rw [List.mem_singleton.mp hx];(first|lia|omega)
  ·rw [List.reverse_append,List.reverse_singleton,List.singleton_append,hv_cons,←hh]
   congr 1;(first|lia|omega)
  ·rw [List.length_append,List.length_singleton,Nat.pow_succ]
   have:n/2*(2^bs.length*2)=(n/2*2)*2^bs.length:=by rw [Nat.mul_comm (2^bs.length) 2,Nat.mul_assoc]
   rw [this]
   exact Nat.le_trans (Nat.mul_le_mul_right _ (by walk_at "om")) hle
 ·walk_at "wp"
  have n0:n=0:=by (first|lia|omega)
  subst n0
  refine ⟨by walk_at "om",?_⟩
  rw [r_rev hg]
  simp only [fmod_nn (show (0:Int)<=m by walk_at "om")]
  have key:∀ (a:Nat) (x:Int),x=0\/x=1->(if x=1 then (b^a%m*(b^a%m)%m)*b%m else b^a%m*(b^a%m)%m)=b^(2*a+x.toNat)%m:=by
   intro a x hx
   have h2:b^a%m*(b^a%m)%m=b^(2*a)%m:=by rw [←Int.mul_emod,←Int.pow_add];congr 2;(first|lia|omega)
   rcases hx with rfl|rfl
   ·rw [if_neg (by decide),h2];rfl
   ·rw [if_pos rfl,h2,Int.mul_emod,Int.emod_emod_of_dvd _ (Int.dvd_refl m),←Int.mul_emod,←Int.pow_succ];rfl
  refine for_intro (fun i loc H'=>∃ (f:Int) (o:Option AV),H'=H++[AObj.list (bs.map .int)]/\0<=f/\f<m/\f=b^hv (bs.reverse.take i) 0%m/\loc=[some (.int b),some (.int 0),some (.int m),some (.ref H.length),some (.int f),o]) ⟨1%m,none,rfl,Int.emod_nonneg _ (by walk_at "om"),Int.emod_lt_of_pos _ (by walk_at "om"),by simp [hv],rfl⟩ ?_
  rintro i loc H' ⟨f,o,rfl,f0,f1,hf,rfl⟩
  refine ⟨hg,fun y hy=>?_,fun hi=>?_⟩
  ·rw [←List.map_reverse,List.getElem?_map] at hy
   refine x1_2 (Option.map_eq_some_iff.mp hy) fun x hx eQ2=>?_
   subst eQ2
   have x01:x=0\/x=1:=h01 x (by have:=List.mem_of_getElem? hx;simpa using this)
   have ht:bs.reverse.take (i+1)=bs.reverse.take i++[x]:=by rw [List.take_add_one,hx];rfl
   have kf:f.natAbs<2^200:=natAbs_lt f0 f1 m1
   have ff0:=Int.emod_nonneg (f*f) (show m≠0 by walk_at "om")
   have ff1:=Int.emod_lt_of_pos (f*f) (show 0<m by walk_at "om")
   have kff:(f*f%m).natAbs<2^200:=natAbs_lt ff0 ff1 m1
   have kk:=key (hv (bs.reverse.take i) 0) x x01
   rw [←hf] at kk
   refine ⟨[.int x],rfl,?_⟩
   walk_at "wp"
   refine ⟨mulOk_200 kf kf,by walk_at "om",?_⟩
   simp only [fmod_nn (show (0:Int)<=m by walk_at "om")]
   refine sp_d (fun h1=>?_) (fun h1=>?_)
   ·walk_at "wp"
    refine ⟨mulOk_200 kff hb,by walk_at "om",?_⟩
    simp only [fmod_nn (show (0:Int)<=m by walk_at "om")]
    rw [if_pos h1] at kk
    exact for_next ⟨_,_,rfl,Int.emod_nonneg _ (by walk_at "om"),Int.emod_lt_of_pos _ (by walk_at "om"),by rw [ht,hv_snoc];exact kk,rfl⟩
   ·walk_at "wp"
    rw [if_neg h1] at kk
    exact for_next ⟨_,_,rfl,ff0,ff1,by rw [ht,hv_snoc];exact kk,rfl⟩
  ·walk_at "wp"
   have hl:bs.reverse.take i=bs.reverse:=List.take_of_length_le (by rw [hi];simp)
   rw [hl,hh] at hf
   rw [hf]
   exact h _ pre_new
noncomputable def prAV (p:Int×Int):AV:=.tup [.int p.1,.int p.2]
noncomputable def psT (ps:List (Int×Int)):AV:=.tup (ps.map prAV)
noncomputable def roundB (n b:Int) (ps:List (Int×Int)):Bool:=decide (pw b (n-1) n=1)&&ps.all fun p=>!decide (pw b ((n-1)/p.1) n=1)
noncomputable def SRound (Φ:Fun):Prop:=∀ (n b:Int) (ps:List (Int×Int)) (H:Hp) (Q:PQ),2<=n->n<=10^32->b.natAbs<2^200->(∀ p∈ps,1<=p.1/\p.1.natAbs<2^200)->Q (.bool (roundB n b ps)) H->Φ "_law_round" [.int n,.int b,psT ps] H Q
theorem round {Φ:Fun}(c:SPower Φ){n b:Int}{ps:List (Int×Int)}{H:Hp}{Q:PQ}(n0:2<=n) (n1:n<=10^32) (hb:b.natAbs<2^200) (hp:∀ p∈ps,1<=p.1/\p.1.natAbs<2^200) (h:Q (.bool (roundB n b ps)) H):wpF Φ m_law_round [.int n,.int b,psT ps] H Q:=by
 unfold psT
 ((refine ⟨rfl,?_⟩;simp only [lst,Nat.reduceSub,Nat.sub_self,List.replicate]))
 simp only [m_law_round]
 walk_at "wp"
 refine c b (n-1) n H _ hb (by walk_at "om") (by walk_at "om") (by walk_at "om") n1 ?_
 walk_at "wp"
 refine sp_n (fun h1=>?_) (fun h1=>?_)
 ·walk_at "wp"
  rw [show roundB n b ps=false by simp [roundB,h1]] at h;exact h
 walk_at "wp"
 have hr:roundB n b ps=ps.all fun p=>!decide (pw b ((n-1)/p.1) n=1):=by simp [roundB,h1]
 rw [hr] at h
 refine for_intro (fun i loc H'=>H'=H/\(∃ o1 o2,loc=[some (.int n),some (.int b),some (.tup (ps.map prAV)),o1,o2])/\(ps.drop i).all (fun p=>!decide (pw b ((n-1)/p.1) n=1))=ps.all fun p=>!decide (pw b ((n-1)/p.1) n=1)) ⟨rfl,⟨none,none,rfl⟩,by simp⟩ ?_
 rintro i loc H' ⟨rfl,⟨o1,o2,rfl⟩,hd⟩
 refine ⟨trivial,fun y hy=>?_,fun hi=>?_⟩
 ·rw [List.getElem?_map] at hy
  refine x1_2 (Option.map_eq_some_iff.mp hy) fun p hpp eQ2=>?_
  subst eQ2
  refine x1_1 (List.getElem?_eq_some_iff.mp hpp) fun hlt e=>?_
  have hpm:=hp p (List.mem_of_getElem? hpp)
  rw [List.drop_eq_getElem_cons hlt,e,List.all_cons] at hd
  refine ⟨[.int p.1,.int p.2],rfl,?_⟩
  walk_at "wp"
  refine ⟨by walk_at "om",noPy200 hpm.2,?_⟩
  simp only [fdiv_nn (show (0:Int)<=p.1 by walk_at "om")]
  have d0:0<=(n-1)/p.1:=Int.ediv_nonneg (by walk_at "om") (by walk_at "om")
  have d1:(n-1)/p.1<=n-1:=Int.ediv_le_self _ (by walk_at "om")
  refine c b ((n-1)/p.1) n H' _ hb d0 (by walk_at "om") (by walk_at "om") n1 ?_
  walk_at "wp"
  refine sp_d (fun h2=>?_) (fun h2=>?_)
  ·walk_at "wp"
   rw [show (!decide (pw b ((n-1)/p.1) n=1))=false by simp [h2],Bool.false_and] at hd
   rw [←hd] at h;exact h
  ·walk_at "wp"
   rw [show (!decide (pw b ((n-1)/p.1) n=1))=true by simp [h2],Bool.true_and] at hd
   exact for_next ⟨rfl,⟨_,_,rfl⟩,hd⟩
 ·walk_at "wp"
  have:ps.drop i=[]:=by rw [hi];simp
  rw [this] at hd
  rw [←hd] at h;exact h
end
section
open PySem
set_option maxHeartbeats 2000000
noncomputable def isPB (n:Nat):Bool:=decide (1<n)&&(List.range n).all fun d=>decide (d<2)||!decide (n%d=0)
theorem isPB_false {n d:Nat}(d2:2<=d) (dn:d<n) (h:n%d=0):isPB n=false:=by
 cases e:isPB n with
 | false=>rfl
 | true =>
  simp only [isPB,Bool.and_eq_true,List.all_eq_true,List.mem_range,Bool.or_eq_true,decide_eq_true_eq,Bool.not_eq_true',decide_eq_false_iff_not] at e
  rcases e.2 d dn with h1|h1
  ·(first|lia|omega)
  ·exact absurd h h1
theorem isPB_true {n:Nat}(n1:1<n) (h:∀ d,2<=d->d<n->n%d≠0):isPB n=true:=by
 simp only [isPB,Bool.and_eq_true,List.all_eq_true,List.mem_range,Bool.or_eq_true,decide_eq_true_eq,Bool.not_eq_true',decide_eq_false_iff_not]
 refine ⟨n1,fun d hd=>?_⟩
 rcases Nat.lt_or_ge d 2 with h1|h1
 ·exact .inl h1
 ·exact .inr (h d h1 hd)
theorem isPB_no {n:Nat}(n2:2<=n) (h:isPB n=false):∃ d,2<=d/\d<n/\n%d=0:=by
 apply Classical.byContradiction
 intro hc
 have:isPB n=true:=isPB_true (by walk_at "om") fun d h1 h2 h3=>hc ⟨d,h1,h2,h3⟩
 rw [this] at h;cases h
noncomputable def SIsP (Φ:Fun):Prop:=∀ (n:Nat) (H:Hp) (Q:PQ),2<=n->n<=1000000->Q (.bool (isPB n)) H->Φ "_law_is_prime" [.int n] H Q
theorem is_prime {Φ:Fun}{n:Nat}{H:Hp}{Q:PQ}(n2:2<=n) (n6:n<=1000000) (h:Q (.bool (isPB n)) H):wpF Φ m_law_is_prime [.int n] H Q:=by
 ((refine ⟨rfl,?_⟩;simp only [lst,Nat.reduceSub,Nat.sub_self,List.replicate]))
 simp only [m_law_is_prime]
 walk_at "wp"
 refine s_whl (fun k loc H'=>∃ a:Nat,k=n-a/\2<=a/\a<=n/\H'=H/\loc=[some (.int n),some (.int a)]/\∀ d,2<=d->d<a->n%d≠0) (n-2) ⟨2,rfl,by walk_at "om",by walk_at "om",rfl,rfl,fun d h1 h2=>by walk_at "om"⟩ ?_
 rintro k loc H' ⟨a,rfl,a2,an,rfl,rfl,hd⟩
 walk_at "wp"
 refine ⟨mulOk_left (by walk_at "om"),?_⟩
 refine sp_d (fun hle=>?_) (fun hle=>?_)
 ·have hle':a*a<=n:=by
   have:((a*a:Nat):Int)<=n:=by rw [Int.natCast_mul];exact hle
   (first|lia|omega)
  have han:a<n:=by
   have:2*a<=a*a:=Nat.mul_le_mul_right _ a2
   (first|lia|omega)
  walk_at "wp"
  refine ⟨by walk_at "om",?_⟩
  simp only [fmod_nn (show (0:Int)<=a by walk_at "om")]
  refine sp_d (fun h0=>?_) (fun h0=>?_)
  ·walk_at "wp"
   rw [isPB_false a2 han (by walk_at "om")] at h;exact h
  ·walk_at "wp"
   refine whl_next (n-(a+1)) (by walk_at "om") ⟨a+1,rfl,by walk_at "om",by walk_at "om",rfl,rfl,fun d h1 h2=>?_⟩
   rcases Nat.lt_or_ge d a with h3|h3
   ·exact hd d h1 h3
   ·have:d=a:=by (first|lia|omega)
    subst this
    (first|lia|omega)
 ·walk_at "wp"
  have hgt:n<a*a:=by
   have:¬ ((a*a:Nat):Int)<=n:=by rw [Int.natCast_mul];exact hle
   (first|lia|omega)
  rw [isPB_true (by walk_at "om") (fun d d2 dn h0=>?_)] at h
  ·rw [show decide ((1:Int)<n)=true by simp;(first|lia|omega)];exact h
  ·rcases Nat.lt_or_ge d a with h3|h3
   ·exact hd d d2 h3 h0
   ·have e1:n=d*(n/d):=(Nat.mul_div_cancel' (Nat.dvd_of_mod_eq_zero h0)).symm
    have q2:2<=n/d:=by
     rcases Nat.lt_or_ge (n/d) 2 with h4|h4
     ·have:d*(n/d)<=d*1:=Nat.mul_le_mul_left _ (by walk_at "om")
      (first|lia|omega)
     ·exact h4
    have qa:n/d<a:=by
     rcases Nat.lt_or_ge (n/d) a with h4|h4
     ·exact h4
     ·have:a*a<=d*(n/d):=Nat.mul_le_mul h3 h4
      (first|lia|omega)
    refine hd (n/d) q2 qa ?_
    exact Nat.mod_eq_zero_of_dvd ⟨d,by rw [Nat.mul_comm];exact e1⟩
noncomputable def strip:Nat->Nat->Nat->Nat×Nat
 | 0,m,_=>(m,0)
 | k+1,m,a=>if m%a=0 then ((strip k (m/a) a).1,(strip k (m/a) a).2+1) else (m,0)
noncomputable def facL:Nat->Nat->Nat->List (Int×Int)
 | 0,_,_=>[]
 | k+1,m,a=>if m<=1 then [] else if 0<(strip m m a).2 then ((a:Int),((strip m m a).2:Int))::facL k (strip m m a).1 (a+1) else facL k (strip m m a).1 (a+1)
noncomputable def facF (n:Nat):List (Int×Int):=facL n n 2
theorem strip_facts {a:Nat}(a2:2<=a):∀ (k m:Nat),1<=m->m<=k->1<=(strip k m a).1/\(strip k m a).1%a≠0/\(strip k m a).1∣m/\(strip k m a).1<=m
 | 0,m,h1,h2=>by (first|lia|omega)
 | k+1,m,h1,h2=>by
  unfold strip
  split
  ·rename_i h0
   have hq:1<=m/a:=by
    have:=Nat.le_of_dvd h1 (Nat.dvd_of_mod_eq_zero h0)
    exact (Nat.le_div_iff_mul_le (by walk_at "om")).mpr (by walk_at "om")
   have hlt:m/a<m:=Nat.div_lt_self h1 a2
   refine x0_4 (strip_facts a2 k (m/a) hq (by walk_at "om")) fun g1 g2 g3 g4=>?_
   exact ⟨g1,g2,Nat.dvd_trans g3 (Nat.div_dvd_of_dvd (Nat.dvd_of_mod_eq_zero h0)),by show _<=m;(first|lia|omega)⟩
  ·rename_i h0
   exact ⟨h1,h0,Nat.dvd_refl _,Nat.le_refl _⟩
theorem strip_step {k m a:Nat}(h:m%a=0):strip (k+1) m a=((strip k (m/a) a).1,(strip k (m/a) a).2+1):=if_pos h
noncomputable def SFact (Φ:Fun):Prop:=∀ (n:Nat) (H:Hp) (Q:PQ),1<=n->n<=20000->Q (psT (facF n)) H->Φ "_law_factors" [.int n] H Q
theorem factors {Φ:Fun}{n:Nat}{H:Hp}{Q:PQ}(n1:1<=n) (n5:n<=20000) (h:∀ H',H<+:H'->Q (psT (facF n)) H'):wpF Φ m_law_factors [.int n] H Q:=by
 ((refine ⟨rfl,?_⟩;simp only [lst,Nat.reduceSub,Nat.sub_self,List.replicate]))
 simp only [m_law_factors]
 walk_at "go"
 refine s_whl (fun k loc H'=>∃ (m a:Nat) (fs:List (Int×Int)) (o:Option AV),loc=[some (.int m),some (.ref H.length),some (.int a),o]/\H'=H++[.list (fs.map prAV)]/\1<=m/\m<=n/\2<=a/\(∀ d,2<=d->d<a->m%d≠0)/\n+2=k+a/\fs++facL k m a=facF n/\fs.length+2<=a) n ⟨n,2,[],none,rfl,rfl,n1,Nat.le_refl _,Nat.le_refl _,(fun d h1 h2=>by walk_at "om"),rfl,rfl,Nat.le_refl _⟩ ?_
 rintro k loc H' ⟨m,a,fs,o,rfl,rfl,m1,mn,a2,hd,hk,hf,hfl⟩
 walk_at "wp"
 refine sp_d (fun hm=>?_) (fun hm=>?_)
 ·have ham:a<=m:=by
   rcases Nat.lt_or_ge m a with h1|h1
   ·exact absurd (Nat.mod_self m) (hd m (by walk_at "om") h1)
   ·exact h1
  obtain ⟨j,rfl⟩:∃ j,k=j+1:=⟨k-1,by walk_at "om"⟩
  refine x0_4 (strip_facts a2 m m m1 (Nat.le_refl _)) fun s1 s2 s3 s4=>?_
  unfold facL at hf
  rw [if_neg (by walk_at "om")] at hf
  walk_at "wp"
  refine s_whl (fun i loc H'=>∃ (m' t:Nat),loc=[some (.int m'),some (.ref H.length),some (.int a),some (.int t)]/\H'=H++[.list (fs.map prAV)]/\1<=m'/\m'<=i/\i<=m/\t+i<=m/\(strip i m' a).1=(strip m m a).1/\(strip i m' a).2+t=(strip m m a).2) m ⟨m,0,rfl,rfl,m1,Nat.le_refl _,Nat.le_refl _,by walk_at "om",rfl,by walk_at "om"⟩ ?_
  rintro i loc H' ⟨m',t,rfl,rfl,m1',mi,im,ti,e1,e2⟩
  walk_at "wp"
  refine ⟨by walk_at "om",?_⟩
  simp only [fmod_nn (show (0:Int)<=a by walk_at "om")]
  refine sp_d (fun h0=>?_) (fun h0=>?_)
  ·have h0':m'%a=0:=by (first|lia|omega)
   obtain ⟨i',rfl⟩:∃ j,i=j+1:=⟨i-1,by walk_at "om"⟩
   rw [strip_step h0'] at e1 e2
   have hq:1<=m'/a:=by
    have:=Nat.le_of_dvd m1' (Nat.dvd_of_mod_eq_zero h0')
    exact (Nat.le_div_iff_mul_le (by walk_at "om")).mpr (by walk_at "om")
   have hlt:m'/a<m':=Nat.div_lt_self m1' a2
   walk_at "wp"
   refine ⟨by walk_at "om",noPyS (by walk_at "om"),?_⟩
   simp only [fdiv_nn (show (0:Int)<=a by walk_at "om")]
   exact whl_next i' (by walk_at "om") ⟨m'/a,t+1,by rw [Int.natCast_ediv];rfl,rfl,hq,by walk_at "om",by walk_at "om",by walk_at "om",e1,by simp only at e2;(first|lia|omega)⟩
  ·have h0':m'%a≠0:=by (first|lia|omega)
   have e3:strip i m' a=(m',0):=by
    cases i with
    | zero=>rfl
    | succ i=>unfold strip;rw [if_neg h0']
   rw [e3] at e1 e2
   simp only at e1 e2
   have hs:strip m m a=(m',t):=by
    apply Prod.ext
    ·exact e1.symm
    ·simp only;(first|lia|omega)
   rw [hs] at hf s1 s2 s3 s4
   simp only at hf s1 s2 s3 s4
   have hg:(H++[AObj.list (fs.map prAV)])[H.length]?=some (.list (fs.map prAV)):=at_new
   have hd':∀ d,2<=d->d<a+1->m'%d≠0:=by
    intro d h1 h2 h3
    rcases Nat.lt_or_ge d a with h4|h4
    ·refine hd d h1 h4 (Nat.mod_eq_zero_of_dvd (Nat.dvd_trans (Nat.dvd_of_mod_eq_zero h3) s3))
    ·have:d=a:=by (first|lia|omega)
     subst this;exact s2 h3
   walk_at "wp"
   refine sp_d (fun ht=>?_) (fun ht=>?_)
   ·rw [if_pos (by walk_at "om")] at hf
    walk_at "wp"
    refine ⟨isL_ref hg,by walk_at "sd",?_⟩
    rw [m_append hg]
    refine ⟨szB (by simp;(first|lia|omega)),?_⟩
    walk_at "wp"
    refine whl_next j (by walk_at "om") ⟨m',a+1,fs++[((a:Int),(t:Int))],_,rfl,?_,s1,by walk_at "om",by walk_at "om",hd',by walk_at "om",by rw [List.append_assoc];exact hf,by simp;(first|lia|omega)⟩
    rw [List.set_append_right _ _ (Nat.le_refl _)];simp [prAV]
   ·rw [if_neg (by walk_at "om")] at hf
    walk_at "wp"
    exact whl_next j (by walk_at "om") ⟨m',a+1,fs,_,rfl,rfl,s1,by walk_at "om",by walk_at "om",hd',by walk_at "om",hf,by walk_at "om"⟩
 ·walk_at "wp"
  have hm1:m=1:=by (first|lia|omega)
  subst hm1
  have e:facL k 1 a=[]:=by
   cases k with
   | zero=>rfl
   | succ k=>unfold facL;rw [if_pos (Nat.le_refl _)]
  rw [e,List.append_nil] at hf
  rw [t_list at_new]
  refine ⟨szB ?_,?_⟩
  ·have:facL k 1 a=[]:=e
   simp
   rcases Nat.lt_or_ge a 900 with h1|h1
   ·(first|lia|omega)
   ·(first|lia|omega)
  ·walk_at "wp"
   rw [hf]
   exact h _ pre_new
end
section
open PySem
set_option maxHeartbeats 2000000
theorem idx_any {H:Hp}{Q:PQ}{i:Nat}{l:List AV}{k:Int}(h:H[i]?=some (.list l)) (hn:l.length<=1000) (h0:0<=k) (h1:k<l.length) (q:∀ z∈l,Q z H):wpIdx (.ref i) (.int k) H Q:=by
 rw [i_list h]
 exact ⟨by walk_at "om",k.toNat,l[k.toNat]'(by walk_at "om"),place_nn h0 h1,List.getElem?_eq_getElem _,q _ (List.getElem_mem _)⟩
theorem cel_at {H:Hp}{Q:PQ}{i n:Nat}{cs:List Int}{k:Int}(h:H[i]?=some (.list (cs.map .int))) (hc:Cells cs n) (hn:n<=1000) (h0:0<=k) (h1:k<n) (q:∀ c,0<=c->c<4294967296->Q (.int c) H):wpIdx (.ref i) (.int k) H Q:=by
 have hl:=hc.len
 refine idx_any h (by simp;(first|lia|omega)) h0 (by (first|exact Int.emod_lt_of_pos _ (by decide)|(simp;omega))) fun z hz=>?_
 refine x1_2 (List.mem_map.mp hz) fun c h1 eQ2=>?_
 subst eQ2
 exact q c (hc.bd c h1).1 (hc.bd c h1).2
theorem len_at {H:Hp}{Q:PQ}{i:Nat}{l:List AV}(h:H[i]?=some (.list l)) (hn:l.length<=1000) (q:Q (.int l.length) H):wpBi .len [.ref i] H Q:=by
 rw [l_list h];exact ⟨by walk_at "om",q⟩
noncomputable def prodI:List (Int×Int)->Int
 | []=>1
 | p::r=>p.1^p.2.toNat*prodI r
inductive Rw where
 | first
 | prime (n b:Int) (ps:List (Int×Int))
 | split (n a b:Int)
 | power (n b:Int)
 | root (n b:Int)
noncomputable def Rw.av:Rw->AV
 | .first=>.tup [.int 2,.str "first",.tup []]
 | .prime n b ps=>.tup [.int n,.str "prime",.tup [.int b,psT ps]]
 | .split n a b=>.tup [.int n,.str "split",.tup [.int a,.int b]]
 | .power n b=>.tup [.int n,.str "power",.tup [.int b]]
 | .root n b=>.tup [.int n,.str "root",.tup [.int b]]
noncomputable def Rw.num:Rw->Int
 | .first=>2
 | .prime n _ _=>n
 | .split n _ _=>n
 | .power n _=>n
 | .root n _=>n
noncomputable def Rw.needs:Rw->List Int
 | .prime _ _ ps=>ps.map (·.1)
 | _=>[]
noncomputable def Ris (ps:List (Int×Int)):Prop:=ps.Pairwise fun p q=>p.1<q.1
noncomputable def Rw.ok:Rw->Prop
 | .first=>True
 | .prime n b ps=>3<=n/\n<10^30-2000/\1<=b/\b<=n/\ps≠[]/\ps.length<=10/\(∀ p∈ps,2<=p.1/\p.1<=20000/\1<=p.2/\p.2<=100)/\Ris ps
 | .split n a b=>2<=a/\2<=b/\a<10^16/\b<10^16/\n=a*b/\n<10^30-2000
 | .power n b=>2<=n/\n<10^30-2000/\1<=b/\b<=n
 | .root n b=>2<=n/\n<10^30-2000/\1<=b/\b<=n
noncomputable def Rw.tells:Rw->Bool
 | .first=>true
 | .prime _ _ _=>true
 | _=>false
noncomputable def Rw.sem:Rw->Prop
 | .first=>True
 | .prime n b ps=>b<n/\prodI ps=n-1/\roundB n b ps=true/\∀ p∈ps,isPB p.1.toNat=true/\p.1<402
 | .split _ _ _=>True
 | .power n b=>b<n/\pw b (n-1) n≠1
 | .root n b=>1<b/\b<n-1/\b*b%n=1
noncomputable def Rw.tru (r:Rw):Prop:=r.sem/\(r.num<=401->r.tells=isPB r.num.toNat)
noncomputable def nx (n:Nat):List Int:=if isPB n&&decide (3<=n) then (facF (n-1)).map (·.1) else []
noncomputable def roundN (n b:Nat) (ps:List (Int×Int)):Bool:=Nat.beq (b^(n-1)%n) 1&&ps.all fun p=>!Nat.beq (b^((n-1)/p.1.toNat)%n) 1
noncomputable def chk (n:Nat):Bool:=!isPB n||Nat.ble n 2||((facF (n-1)).all (fun p=>Nat.ble 2 p.1.toNat&&Nat.ble p.1.toNat 401&&Nat.ble 1 p.2.toNat&&Nat.ble p.2.toNat 100)&&Nat.ble (facF (n-1)).length 10&&!(facF (n-1)).isEmpty&&decide (prodI (facF (n-1))=n-1)&&decide ((facF (n-1)).Pairwise fun p q=>p.1<q.1)&&(facF (n-1)).all (fun p=>isPB p.1.toNat)&&(List.range n).any fun b=>Nat.ble 1 b&&roundN n b (facF (n-1)))
theorem chk_all:(List.range 402).all chk=true:=by decide +kernel
theorem pw_nat {b e m:Nat}:pw (b:Int) (e:Int) (m:Int)=((b^e%m:Nat):Int):=by
 unfold pw;rw [Int.toNat_natCast];simp
theorem round_nat {n b:Nat}{ps:List (Int×Int)}(hn:1<=n) (hp:∀ p∈ps,0<=p.1) (h:roundN n b ps=true):roundB n b ps=true:=by
 simp only [roundN,Bool.and_eq_true,List.all_eq_true,Bool.not_eq_true'] at h
 simp only [roundB,Bool.and_eq_true,List.all_eq_true,Bool.not_eq_true',decide_eq_true_eq,decide_eq_false_iff_not]
 refine ⟨?_,fun p hpm=>?_⟩
 ·rw [show (n:Int)-1=((n-1:Nat):Int) by walk_at "om",pw_nat,Nat.eq_of_beq_eq_true h.1];rfl
 ·have h1:=h.2 p hpm
  have h2:=hp p hpm
  rw [show (n:Int)-1=((n-1:Nat):Int) by walk_at "om",show p.1=((p.1.toNat:Nat):Int) by walk_at "om",←Int.natCast_ediv,pw_nat]
  intro e
  exact Nat.ne_of_beq_eq_false h1 (by walk_at "om")
theorem prime_tab {n:Nat}(n3:3<=n) (n4:n<=401) (hp:isPB n=true):(∀ p∈facF (n-1),2<=p.1/\p.1<402/\1<=p.2/\p.2<=100)/\(facF (n-1)).length<=10/\facF (n-1)≠[]/\prodI (facF (n-1))=n-1/\Ris (facF (n-1))/\(∀ p∈facF (n-1),isPB p.1.toNat=true)/\∃ r:Nat,1<=r/\r<n/\roundB n r (facF (n-1))=true:=by
 have h:=List.all_eq_true.mp chk_all n (List.mem_range.mpr (by walk_at "om"))
 simp only [chk,hp,Bool.not_true,Bool.false_or,Bool.or_eq_true,Bool.and_eq_true,List.all_eq_true,List.any_eq_true,List.mem_range,Nat.ble_eq,Bool.not_eq_true',List.isEmpty_eq_false_iff,decide_eq_true_eq] at h
 rcases h with h|⟨⟨⟨⟨⟨⟨h1,h2⟩,h3⟩,g1⟩,g2⟩,g3⟩,r,h4,h5,h6⟩
 ·(first|lia|omega)
 ·have hb:∀ p∈facF (n-1),2<=p.1/\p.1<402/\1<=p.2/\p.2<=100:=fun p hp=>by
   refine x0_2 (h1 p hp) fun qQ0 a4=>?_
   obtain ⟨⟨a1,a2⟩,a3⟩:=qQ0
   (first|lia|omega)
  exact ⟨hb,h2,h3,g1,g2,g3,r,h5,h4,round_nat (by walk_at "om") (fun p hp=>by have:=hb p hp;(first|lia|omega)) h6⟩
noncomputable def rnd (n b r:Nat):Nat:=if b<=r then r-b else r+(n-1)-b
theorem rnd_step {n b r:Nat}(n2:2<=n) (b1:1<=b) (bn:b<n) (r1:1<=r) (rn:r<n) (h:b≠r):1<=b%(n-1)+1/\b%(n-1)+1<n/\rnd n (b%(n-1)+1) r<rnd n b r:=by
 rcases Nat.lt_or_ge b (n-1) with h1|h1
 ·rw [Nat.mod_eq_of_lt h1]
  unfold rnd
  refine ⟨by walk_at "om",by walk_at "om",?_⟩
  split<;>split<;>(first|lia|omega)
 ·have:b=n-1:=by (first|lia|omega)
  rw [this,Nat.mod_self]
  unfold rnd
  refine ⟨by walk_at "om",by walk_at "om",?_⟩
  split<;>split<;>(first|lia|omega)
noncomputable def SPRow (Φ:Fun):Prop:=∀ (n:Nat) (c:Int) (H:Hp) (Q:PQ),2<=n->n<=401->isPB n=true->0<=c->(∀ r:Rw,r.ok->r.tru->r.num=n->r.needs=nx n->Q r.av H)->Φ "_law_prime_row" [.int n,.int c] H Q
theorem prime_row {Φ:Fun}(cf:SFact Φ) (cr:SRound Φ){n:Nat}{c:Int}{H:Hp}{Q:PQ}(n2:2<=n) (n4:n<=401) (hp:isPB n=true) (c0:0<=c) (h:∀ r:Rw,r.ok->r.tru->r.num=n->r.needs=nx n->Q r.av H):wpF Φ m_law_prime_row [.int n,.int c] H Q:=by
 ((refine ⟨rfl,?_⟩;simp only [lst,Nat.reduceSub,Nat.sub_self,List.replicate]))
 simp only [m_law_prime_row]
 walk_at "wp"
 refine sp_d (fun e2=>?_) (fun e2=>?_)
 ·walk_at "go"
  have:n=2:=by (first|lia|omega)
  subst this
  exact h .first trivial ⟨trivial,fun _=>hp.symm⟩ rfl rfl
 walk_at "wp"
 have n3:3<=n:=by (first|lia|omega)
 have e1:(n:Int)-1=((n-1:Nat):Int):=by (first|lia|omega)
 refine x0_6 (prime_tab n3 n4 hp) fun t1 t2 t3 t4 t5 qQ5=>?_
 obtain ⟨t6,r,r1,rn,hr⟩:=qQ5
 rw [e1]
 refine cf (n-1) H _ (by walk_at "om") (by walk_at "om") ?_
 walk_at "wp"
 rw [e1]
 refine ⟨by walk_at "om",?_⟩
 rw [fmod_nn (by walk_at "om")]
 have b0:=Int.emod_nonneg c (show ((n-1:Nat):Int)≠0 by walk_at "om")
 have b1:=Int.emod_lt_of_pos c (show 0<((n-1:Nat):Int) by walk_at "om")
 refine s_whl (fun k loc H'=>∃ b:Nat,k=rnd n b r/\1<=b/\b<n/\H'=H/\loc=[some (.int n),some (.int c),some (psT (facF (n-1))),some (.int b)]) _ ⟨(1+c%((n-1:Nat):Int)).toNat,rfl,by walk_at "om",by walk_at "om",rfl,by rw [Int.toNat_of_nonneg (by walk_at "om")]⟩ ?_
 rintro k loc H' ⟨b,rfl,bb1,bb2,rfl,rfl⟩
 walk_at "wp"
 refine cr n b (facF (n-1)) H' _ (by walk_at "om") (by walk_at "om") (by walk_at "om") (fun p hp=>by have:=t1 p hp;(first|lia|omega)) ?_
 walk_at "wp"
 refine sp_b (b:=!roundB n b (facF (n-1))) (fun h1=>?_) (fun h1=>?_)
 ·walk_at "wp"
  rw [e1]
  refine ⟨by walk_at "om",?_⟩
  rw [fmod_nn (by walk_at "om")]
  have hne:b≠r:=fun e=>by rw [e,hr] at h1;cases h1
  refine x0_3 (rnd_step n2 bb1 bb2 r1 rn hne) fun g1 g2 g3=>?_
  exact whl_next _ g3 ⟨b%(n-1)+1,rfl,g1,g2,rfl,by rw [Int.natCast_add,Int.natCast_emod];rfl⟩
 ·walk_at "go"
  refine h (.prime n b (facF (n-1))) ⟨by walk_at "om",by walk_at "om",by walk_at "om",by walk_at "om",t3,t2,fun p hp=>by have:=t1 p hp;(first|lia|omega),t5⟩ ⟨⟨by show (b:Int)<n;(first|lia|omega),t4,by simpa using h1,fun p hp=>⟨t6 p hp,(t1 p hp).2.1⟩⟩,fun _=>by rw [show (Rw.prime (n:Int) b (facF (n-1))).num.toNat=n from Int.toNat_natCast n,hp];rfl⟩ rfl ?_
  simp only [Rw.needs,nx,hp,Bool.true_and]
  rw [if_pos (by simpa using n3)]
end
section
open PySem
set_option maxHeartbeats 2000000
noncomputable def pickI (f:Int->Bool) (y:AV):Option AV:=match y with|.int a=>if f a then some (.int a) else none|_=>none
theorem pick_mem {f:Int->Bool}{m:Nat}{z:AV}(h:z∈((List.range m).map fun (k:Nat)=>AV.int (2+k)).filterMap (pickI f)):∃ a:Int,z=.int a/\2<=a/\a<2+m/\f a=true:=by
 refine x1_2 (List.mem_filterMap.mp h) fun y hy e=>?_
 refine x1_2 (List.mem_map.mp hy) fun k hk eQ2=>?_
 subst eQ2
 have:=List.mem_range.mp hk
 simp only [pickI] at e
 split at e
 ·cases e;exact ⟨_,rfl,by walk_at "om",by walk_at "om",by assumption⟩
 ·cases e
theorem pick_in {f:Int->Bool}{m:Nat}{a:Int}(h2:2<=a) (hm:a<2+m) (hf:f a=true):AV.int a∈((List.range m).map fun (k:Nat)=>AV.int (2+k)).filterMap (pickI f):=by
 refine List.mem_filterMap.mpr ⟨.int a,List.mem_map.mpr ⟨(a-2).toNat,List.mem_range.mpr (by walk_at "om"),?_⟩,by simp [pickI,hf]⟩
 congr 1;(first|lia|omega)
theorem pick_len {f:Int->Bool}{l:List AV}:(l.filterMap (pickI f)).length<=l.length:=List.length_filterMap_le _ _
theorem pow_not_one {n:Nat}{a:Int}(n2:2<=n) (a2:2<=a) (h:(n:Int)%a=0):pw a ((n:Int)-1) n≠1:=by
 unfold pw
 intro e
 have hd:a∣(n:Int):=Int.dvd_of_emod_eq_zero h
 have h1:(a^((n:Int)-1).toNat%(n:Int))%a=a^((n:Int)-1).toNat%a:=Int.emod_emod_of_dvd _ hd
 rw [e] at h1
 obtain ⟨k,hk⟩:∃ k,((n:Int)-1).toNat=k+1:=⟨n-2,by walk_at "om"⟩
 rw [hk,Int.pow_succ,Int.mul_emod_left,Int.emod_eq_of_lt (by walk_at "om") (by walk_at "om")] at h1
 (first|lia|omega)
theorem idx_anyB {H:Hp}{Q:PQ}{i:Nat}{l:List AV}{k:Int}(h:H[i]?=some (.list l)) (hn:l.length<=100000) (h0:0<=k) (h1:k<l.length) (q:∀ z∈l,Q z H):wpIdx (.ref i) (.int k) H Q:=by
 rw [i_list h]
 exact ⟨by walk_at "om",k.toNat,l[k.toNat]'(by walk_at "om"),place_nn h0 h1,List.getElem?_eq_getElem _,q _ (List.getElem_mem _)⟩
theorem len_atB {H:Hp}{Q:PQ}{i:Nat}{l:List AV}(h:H[i]?=some (.list l)) (hn:l.length<=100000) (q:Q (.int l.length) H):wpBi .len [.ref i] H Q:=by
 rw [l_list h];exact ⟨by walk_at "om",q⟩
noncomputable def SPart (Φ:Fun):Prop:=∀ (n:Nat) (c:Int) (H:Hp) (Q:PQ),2<=n->n<=20000->isPB n=false->0<=c->(∀ r:Rw,r.ok->r.tru->r.num=n->r.needs=[]->Q r.av H)->Φ "_law_parted_row" [.int n,.int c] H Q
theorem parted_row {Φ:Fun}(cp:SPower Φ){n:Nat}{c:Int}{H:Hp}{Q:PQ}(n2:2<=n) (n4:n<=20000) (hp:isPB n=false) (c0:0<=c) (h:∀ r:Rw,r.ok->r.tru->r.num=n->r.needs=[]->∀ H',H<+:H'->Q r.av H'):wpF Φ m_law_parted_row [.int n,.int c] H Q:=by
 refine x1_3 (isPB_no n2 hp) fun dv dv2 dvn hdv=>?_
 have cc:∀ {r:Rw},r.num=n->r.tells=false->(r.num<=401->r.tells=isPB r.num.toNat):=fun {r} e t _=>by rw [e,Int.toNat_natCast,hp,t]
 ((refine ⟨rfl,?_⟩;simp only [lst,Nat.reduceSub,Nat.sub_self,List.replicate]))
 simp only [m_law_parted_row]
 walk_at "wp"
 refine ⟨by decide,by decide,by walk_at "om",by walk_at "om",?_⟩
 refine comp_pure (pickI fun a=>decide ((n:Int)%a=0)) (by rw [List.length_map,List.length_range];exact szB (by walk_at "om")) trivial (fun y hy=>?_) ?_
 ·refine x1_2 (List.mem_map.mp hy) fun k hk eQ2=>?_
  subst eQ2
  have hk:=List.mem_range.mp hk
  refine ⟨[.int (2+k)],rfl,fun K q=>?_,fun v hv Q' q=>?_⟩
  ·walk_at "wp"
   refine ⟨by walk_at "om",?_⟩
   simp only [fmod_nn (show (0:Int)<=2+k by walk_at "om")]
   have:(pickI (fun a=>decide ((n:Int)%a=0)) (.int (2+k))).isSome=decide ((n:Int)%(2+k)=0):=by
    simp only [pickI]
    split<;>simp_all
   rw [this] at q
   refine sp_b (b:=decide ((n:Int)%(2+k)=0)) (fun h1=>?_) (fun h1=>?_)
   ·rw [h1] at q;walk_at "wp";exact q
   ·rw [h1] at q;walk_at "wp";exact q
  ·simp only [pickI] at hv
   split at hv
   ·cases hv
    walk_at "wp"
    exact q
   ·cases hv
 generalize hP:(((List.range ((n:Int)-2).toNat).map fun (k:Nat)=>AV.int (2+k)).filterMap (pickI fun a=>decide ((n:Int)%a=0)))=PL
 have hPm:∀ z∈PL,∃ a:Int,z=.int a/\2<=a/\a<n/\(n:Int)%a=0:=by
  intro z hz
  rw [←hP] at hz
  refine x1_4 (pick_mem hz) fun a e h1 h2 h3=>?_
  exact ⟨a,e,h1,by walk_at "om",by simpa using h3⟩
 have hP1:1<=PL.length:=by
  have:AV.int dv∈PL:=by rw [←hP];exact pick_in (by walk_at "om") (by walk_at "om") (by simp;(first|lia|omega))
  exact List.length_pos_of_mem this
 have hPl:PL.length<=20000:=by rw [←hP];refine Nat.le_trans pick_len ?_;simp;(first|lia|omega)
 clear hP
 walk_at "wp"
 refine ⟨by decide,by decide,by walk_at "om",by walk_at "om",?_⟩
 refine comp_pure (pickI fun a=>decide (a*a%n=1)) (by rw [List.length_map,List.length_range];exact szB (by walk_at "om")) trivial (fun y hy=>?_) ?_
 ·refine x1_2 (List.mem_map.mp hy) fun k hk eQ2=>?_
  subst eQ2
  have hk:=List.mem_range.mp hk
  refine ⟨[.int (2+k)],rfl,fun K q=>?_,fun v hv Q' q=>?_⟩
  ·walk_at "wp"
   refine ⟨mulOk_left (by walk_at "om"),by walk_at "om",?_⟩
   simp only [fmod_nn (show (0:Int)<=n by walk_at "om")]
   have:(pickI (fun a=>decide (a*a%(n:Int)=1)) (.int (2+k))).isSome=decide ((2+(k:Int))*(2+k)%n=1):=by
    simp only [pickI]
    split<;>simp_all
   rw [this] at q
   refine sp_b (b:=decide ((2+(k:Int))*(2+k)%n=1)) (fun h1=>?_) (fun h1=>?_)
   ·rw [h1] at q;walk_at "wp";exact q
   ·rw [h1] at q;walk_at "wp";exact q
  ·simp only [pickI] at hv
   split at hv
   ·cases hv
    walk_at "wp"
    exact q
   ·cases hv
 generalize hR:(((List.range ((n:Int)-1-2).toNat).map fun (k:Nat)=>AV.int (2+k)).filterMap (pickI fun a=>decide (a*a%n=1)))=RL
 have hRm:∀ z∈RL,∃ a:Int,z=.int a/\2<=a/\a<n-1/\a*a%n=1:=by
  intro z hz
  rw [←hR] at hz
  refine x1_4 (pick_mem hz) fun a e h1 h2 h3=>?_
  exact ⟨a,e,h1,by walk_at "om",by simpa using h3⟩
 have hRl:RL.length<=20000:=by rw [←hR];refine Nat.le_trans pick_len ?_;simp;(first|lia|omega)
 clear hR
 generalize hH1:H++[AObj.list PL]++[AObj.list RL]=H1
 have hp1:H<+:H1:=by rw [←hH1];exact pre_new.trans pre_new
 have hgP:H1[H.length]?=some (.list PL):=by rw [←hH1];exact pre_at pre_new at_new
 have hgR:H1[(H++[AObj.list PL]).length]?=some (.list RL):=by rw [←hH1];exact at_new
 generalize (H++[AObj.list PL]).length=jR at hgR
 walk_at "go"
 refine len_atB hgP (by walk_at "om") ?_
 walk_at "wp"
 refine ⟨by walk_at "om",?_⟩
 simp only [fmod_nn (show (0:Int)<=PL.length by walk_at "om"),fdiv_nn (show (0:Int)<=4 by walk_at "om"),fmod_nn (show (0:Int)<=4 by walk_at "om")]
 refine idx_anyB hgP (by walk_at "om") (Int.emod_nonneg _ (by walk_at "om")) (Int.emod_lt_of_pos _ (by walk_at "om")) fun z hz=>?_
 refine x1_4 (hPm z hz) fun a eQ1 a2 an ha=>?_
 subst eQ1
 have pwl:wpSs Φ (m_law_parted_row.body.drop 4) [some (.int n),some (.int c),some (.ref H.length),some (.ref jR),some (.int a),none] H1 (endOf Q):=by
  simp only [m_law_parted_row,List.drop]
  walk_at "go"
  (simp only [fmod_nn,fdiv_nn,Int.reduceLE])
  refine sp_d (fun h1=>?_) (fun h1=>?_)
  ·walk_at "wp"
   refine ⟨by walk_at "om",noPyS (by walk_at "om"),by walk_at "sd",by walk_at "sd",?_⟩
   simp only [fdiv_nn (show (0:Int)<=a by walk_at "om")]
   have hmul:(n:Int)=a*((n:Int)/a):=(Int.mul_ediv_cancel' (Int.dvd_of_emod_eq_zero ha)).symm
   have q2:2<=(n:Int)/a:=by
    rcases Int.lt_or_le ((n:Int)/a) 2 with h4|h4
    ·have:a*((n:Int)/a)<=a*1:=Int.mul_le_mul_of_nonneg_left (by walk_at "om") (by walk_at "om")
     (first|lia|omega)
    ·exact h4
   have q3:(n:Int)/a<=n:=Int.ediv_le_self _ (by walk_at "om")
   exact h (.split n a ((n:Int)/a)) ⟨a2,q2,by walk_at "om",by walk_at "om",hmul,by walk_at "om"⟩ ⟨trivial,cc rfl rfl⟩ rfl rfl _ hp1
  ·walk_at "wp"
   have e1:(n:Int)-1=((n-1:Nat):Int):=by (first|lia|omega)
   rw [e1]
   refine ⟨by decide,noPyS (by decide),by walk_at "om",?_⟩
   rw [fdiv_nn (by walk_at "om"),fmod_nn (by walk_at "om")]
   have b0:=Int.emod_nonneg (c/4) (show ((n-1:Nat):Int)≠0 by walk_at "om")
   have b1:=Int.emod_lt_of_pos (c/4) (show 0<((n-1:Nat):Int) by walk_at "om")
   refine s_whl (fun k loc H'=>∃ b:Nat,k=rnd n b a.toNat/\1<=b/\b<n/\H'=H1/\loc=[some (.int n),some (.int c),some (.ref H.length),some (.ref jR),some (.int a),some (.int b)]) _ ⟨(1+c/4%((n-1:Nat):Int)).toNat,rfl,by walk_at "om",by walk_at "om",rfl,by rw [Int.toNat_of_nonneg (by walk_at "om")]⟩ ?_
   rintro k loc H' ⟨b,rfl,bb1,bb2,rfl,rfl⟩
   walk_at "wp"
   refine cp b (n-1) n _ _ (by walk_at "om") (by walk_at "om") (by walk_at "om") (by walk_at "om") (by walk_at "om") ?_
   walk_at "wp"
   refine sp_d (fun h1=>?_) (fun h1=>?_)
   ·walk_at "wp"
    rw [e1]
    refine ⟨by walk_at "om",?_⟩
    rw [fmod_nn (by walk_at "om")]
    have hne:b≠a.toNat:=fun e=>by
     have:((b:Nat):Int)=a:=by (first|lia|omega)
     rw [this] at h1
     exact pow_not_one n2 a2 ha h1
    refine x0_3 (rnd_step n2 bb1 bb2 (show 1<=a.toNat by walk_at "om") (show a.toNat<n by walk_at "om") hne) fun g1 g2 g3=>?_
    exact whl_next _ g3 ⟨b%(n-1)+1,rfl,g1,g2,rfl,by rw [Int.natCast_add,Int.natCast_emod];rfl⟩
   ·walk_at "go"
    exact h (.power n b) ⟨by walk_at "om",by walk_at "om",by walk_at "om",by walk_at "om"⟩ ⟨⟨by show (b:Int)<n;(first|lia|omega),h1⟩,cc rfl rfl⟩ rfl rfl _ hp1
 walk_at "go"
 (simp only [fmod_nn,fdiv_nn,Int.reduceLE])
 refine sp_d (fun h1=>?_) (fun h1=>?_)
 ·walk_at "wp"
  refine len_atB hgR (by walk_at "om") ?_
  walk_at "wp"
  refine sp_d (fun h2=>?_) (fun h2=>?_)
  ·walk_at "go"
   refine len_atB hgR (by walk_at "om") ?_
   walk_at "wp"
   refine ⟨by walk_at "om",?_⟩
   simp only [fmod_nn (show (0:Int)<=RL.length by walk_at "om"),fdiv_nn (show (0:Int)<=4 by walk_at "om")]
   refine idx_anyB hgR (by walk_at "om") (Int.emod_nonneg _ (by walk_at "om")) (Int.emod_lt_of_pos _ (by walk_at "om")) fun z hz=>?_
   refine x1_4 (hRm z hz) fun x eQ1 x2 xn xx=>?_
   subst eQ1
   walk_at "go"
   exact h (.root n x) ⟨by walk_at "om",by walk_at "om",by walk_at "om",by walk_at "om"⟩ ⟨⟨by walk_at "om",xn,xx⟩,cc rfl rfl⟩ rfl rfl _ hp1
  ·simp only [k_ite,k_itef,ss_nil,thenS_next]
   exact pwl
 ·simp only [k_andf,k_ite,k_itef,ss_nil,thenS_next]
  exact pwl
end
section
open PySem
set_option maxHeartbeats 2000000
noncomputable def nxN (n:Nat):List Nat:=(nx n).map Int.toNat
noncomputable def trT:Nat->Nat->Nat
 | 0,_=>0
 | k+1,n=>1+((nxN n).map fun q=>trT k q).sum
noncomputable def tr2:Nat->Nat->Nat
 | 0,_=>0
 | k+1,n=>(if n=2 then 0 else 1)+((nxN n).map fun q=>tr2 k q).sum
noncomputable def T (n:Nat):Nat:=trT 12 n
noncomputable def T2 (n:Nat):Nat:=tr2 12 n
noncomputable def chT (n:Nat):Bool:=Nat.beq (T n) (1+((nxN n).map T).sum)&&Nat.beq (T2 n) ((if Nat.beq n 2 then 0 else 1)+((nxN n).map T2).sum)&&Nat.ble (T n) 20&&Nat.ble (T2 n) 7&&(nxN n).all (fun q=>Nat.ble 2 q&&Nat.ble q 401)&&(nx n).all fun q=>Int.decLe 0 q |>.decide
theorem chT_all:(List.range 402).all chT=true:=by decide +kernel
theorem T_tab {n:Nat}(h:n<=401):T n=1+((nxN n).map T).sum/\T2 n=(if n=2 then 0 else 1)+((nxN n).map T2).sum/\T n<=20/\T2 n<=7/\(∀ q∈nxN n,2<=q/\q<=401)/\∀ q∈nx n,0<=q:=by
 have h:=List.all_eq_true.mp chT_all n (List.mem_range.mpr (by walk_at "om"))
 simp only [chT,Bool.and_eq_true,List.all_eq_true,Nat.ble_eq,decide_eq_true_eq] at h
 refine x0_2 (h) fun qQ0 h6=>?_
 clear h
 obtain ⟨⟨⟨⟨h1,h2⟩,h3⟩,h4⟩,h5⟩:=qQ0
 refine ⟨Nat.eq_of_beq_eq_true h1,?_,h3,h4,h5,h6⟩
 rw [Nat.eq_of_beq_eq_true h2]
 by_cases e:n=2
 ·subst e;rfl
 ·rw [if_neg e,if_neg (by simpa using e)]
noncomputable def qpow:Nat->Nat->Nat->Nat->Nat->Nat
 | 0,_,_,f,m=>f%m
 | k+1,b,e,f,m=>if Nat.beq e 0 then f%m else qpow k (b*b%m) (e/2) (if Nat.beq (e%2) 1 then f*b%m else f) m
theorem qpow_eq:∀ (k b e f m:Nat),e<2^k->qpow k b e f m=f*b^e%m
 | 0,b,e,f,m,h=>by
  have:e=0:=by simpa using h
  subst this;simp [qpow]
 | k+1,b,e,f,m,h=>by
  rw [qpow]
  by_cases h0:e=0
  ·subst h0;simp
  ·rw [if_neg (by simpa using h0),qpow_eq k _ _ _ _ (by rw [Nat.pow_succ] at h;(first|lia|omega))]
   have e2:b^e=(b*b)^(e/2)*b^(e%2):=by
    have:b*b=b^2:=by rw [Nat.pow_two]
    rw [this,←Nat.pow_mul,←Nat.pow_add]
    congr 1;(first|lia|omega)
   have em:∀ x:Nat,x*(b*b%m)^(e/2)%m=x*(b*b)^(e/2)%m:=fun x=>by
    rw [Nat.mul_mod,←Nat.pow_mod,←Nat.mul_mod]
   rw [em,e2]
   by_cases h1:e%2=1
   ·rw [if_pos (by simpa using h1),h1,Nat.pow_one,Nat.mul_mod (f*b%m),Nat.mod_mod,←Nat.mul_mod]
    congr 1
    rw [Nat.mul_comm ((b*b)^(e/2)) b,Nat.mul_assoc]
   ·rw [if_neg (by simpa using h1),show e%2=0 by (first|lia|omega),Nat.pow_zero,Nat.mul_one]
noncomputable def pwN (b e m:Nat):Nat:=qpow 70 b e 1 m
theorem pwN_eq {b e m:Nat}(h:e<2^70):pw (b:Int) (e:Int) (m:Int)=(pwN b e m:Nat):=by
 rw [pw_nat,pwN,qpow_eq _ _ _ _ _ h,Nat.one_mul]
noncomputable def roundQ (n b:Nat) (ps:List (Int×Int)):Bool:=Nat.beq (pwN b (n-1) n) 1&&ps.all fun p=>!Nat.beq (pwN b ((n-1)/p.1.toNat) n) 1
theorem round_q {n b:Nat}{ps:List (Int×Int)}(hn:1<=n) (hn2:n<2^70) (hp:∀ p∈ps,0<=p.1) (h:roundQ n b ps=true):roundB n b ps=true:=by
 simp only [roundQ,Bool.and_eq_true,List.all_eq_true,Bool.not_eq_true'] at h
 simp only [roundB,Bool.and_eq_true,List.all_eq_true,Bool.not_eq_true',decide_eq_true_eq,decide_eq_false_iff_not]
 refine ⟨?_,fun p hpm=>?_⟩
 ·rw [show (n:Int)-1=((n-1:Nat):Int) by (first|lia|omega),pwN_eq (by (first|lia|omega)),Nat.eq_of_beq_eq_true h.1];rfl
 ·have h1:=h.2 p hpm
  have h2:=hp p hpm
  have h3:(n-1)/p.1.toNat<=n-1:=Nat.div_le_self _ _
  rw [show (n:Int)-1=((n-1:Nat):Int) by (first|lia|omega),show p.1=((p.1.toNat:Nat):Int) by (first|lia|omega),←Int.natCast_ediv,pwN_eq (by (first|lia|omega))]
  intro e
  exact Nat.ne_of_beq_eq_false h1 (by (first|lia|omega))
noncomputable def bigR:List (Int×Int×List (Int×Int)):=[(65537,3,[(2,16)]),(998244353,3,[(2,23),(7,1),(17,1)]),(2013265921,31,[(2,27),(3,1),(5,1)]),(4179340454199820289,3,[(2,57),(29,1)])]
noncomputable def NOK (r:Rw):Prop:=(∀ q∈r.needs,2<=q/\q<=401)/\((r.needs.map Int.toNat).map T).sum<=100/\((r.needs.map Int.toNat).map T2).sum<=3
noncomputable def SBig (Φ:Fun):Prop:=∀ (c:Int) (H:Hp) (Q:PQ),0<=c->(∀ r:Rw,r.ok->r.tru->3<=r.num->NOK r->Q r.av H)->Φ "_law_big_row" [.int c] H Q
noncomputable def bigE:List Nat:=[1,11,13,19,23]
theorem big_round:(bigR.all fun x=>bigE.all fun e=>roundQ x.1.toNat (pwN x.2.1.toNat e x.1.toNat) x.2.2)=true:=by decide +kernel
theorem big_true {x:Int×Int×List (Int×Int)}(hx:x∈bigR){e:Nat}(he:e∈bigE):1<=pw x.2.1 e x.1/\(Rw.prime x.1 (pw x.2.1 e x.1) x.2.2).tru:=by
 have h:=List.all_eq_true.mp (List.all_eq_true.mp big_round x hx) e he
 have hb:2<=x.1/\x.1<2^70/\402<x.1/\0<=x.2.1/\prodI x.2.2=x.1-1/\(∀ p∈x.2.2,isPB p.1.toNat=true/\p.1<402)/\∀ p∈x.2.2,0<=p.1:=by
  simp only [bigR,List.mem_cons,List.not_mem_nil,or_false] at hx
  rcases hx with rfl|rfl|rfl|rfl<;>exact ⟨by decide,by decide,by decide,by decide,by decide +kernel,by decide +kernel,by decide⟩
 have he2:e<2^70:=by
  simp only [bigE,List.mem_cons,List.not_mem_nil,or_false] at he
  (first|lia|omega)
 refine x0_6 (hb) fun h1 h2 h3 h4 h5 qQ5=>?_
 clear hb
 obtain ⟨h6,h7⟩:=qQ5
 have e1:pw x.2.1 e x.1=(pwN x.2.1.toNat e x.1.toNat:Nat):=by
  have:=pwN_eq (b:=x.2.1.toNat) (m:=x.1.toNat) he2
  rwa [Int.toNat_of_nonneg h4,Int.toNat_of_nonneg (by (first|lia|omega))] at this
 have hr:roundB x.1 (pw x.2.1 e x.1) x.2.2=true:=by
  have:=round_q (n:=x.1.toNat) (by (first|lia|omega)) (by (first|lia|omega)) h7 h
  rwa [←e1,Int.toNat_of_nonneg (by (first|lia|omega))] at this
 refine ⟨?_,⟨Int.emod_lt_of_pos _ (by (first|lia|omega)),h5,hr,h6⟩,fun c=>absurd c (by show ¬ x.1<=401;(first|lia|omega))⟩
 have b0:0<=pw x.2.1 e x.1:=Int.emod_nonneg _ (by (first|lia|omega))
 rcases Int.lt_or_eq_of_le b0 with q|q
 ·(first|lia|omega)
 ·exfalso
  rw [←q] at hr
  simp only [roundB,Bool.and_eq_true,decide_eq_true_eq] at hr
  have:=hr.1
  unfold pw at this
  obtain ⟨k,hk⟩:∃ k,(x.1-1).toNat=k+1:=⟨(x.1-2).toNat,by (first|lia|omega)⟩
  rw [hk,Int.pow_succ,Int.mul_zero,Int.zero_emod] at this
  (first|lia|omega)
theorem big_row {Φ:Fun}(cp:SPower Φ){c:Int}{H:Hp}{Q:PQ}(c0:0<=c) (h:∀ r:Rw,r.ok->r.tru->3<=r.num->NOK r->∀ H',H<+:H'->Q r.av H'):wpF Φ m_law_big_row [.int c] H Q:=by
 ((refine ⟨rfl,?_⟩;simp only [lst,Nat.reduceSub,Nat.sub_self,List.replicate]))
 simp only [m_law_big_row]
 walk_at "go"
 rw [b_addL (pre_at pre_new at_new) at_new]
 refine ⟨by walk_at "sd",?_⟩
 generalize hL:([AV.tup [AV.int 65537,AV.int 3,AV.tup [AV.tup [AV.int 2,AV.int 16]]],AV.tup [AV.int 998244353,AV.int 3,AV.tup [AV.tup [AV.int 2,AV.int 23],AV.tup [AV.int 7,AV.int 1],AV.tup [AV.int 17,AV.int 1]]]]++[AV.tup [AV.int 2013265921,AV.int 31,AV.tup [AV.tup [AV.int 2,AV.int 27],AV.tup [AV.int 3,AV.int 1],AV.tup [AV.int 5,AV.int 1]]],AV.tup [AV.int 4179340454199820289,AV.int 3,AV.tup [AV.tup [AV.int 2,AV.int 57],AV.tup [AV.int 29,AV.int 1]]]])=L
 have hLm:∀ z∈L,∃ x∈bigR,z=.tup [.int x.1,.int x.2.1,psT x.2.2]:=by
  intro z hz
  rw [←hL] at hz
  simp only [List.cons_append,List.nil_append,List.mem_cons,List.not_mem_nil,or_false] at hz
  rcases hz with rfl|rfl|rfl|rfl
  ·exact ⟨(65537,3,[(2,16)]),by simp [bigR],rfl⟩
  ·exact ⟨(998244353,3,[(2,23),(7,1),(17,1)]),by simp [bigR],rfl⟩
  ·exact ⟨(2013265921,31,[(2,27),(3,1),(5,1)]),by simp [bigR],rfl⟩
  ·exact ⟨(4179340454199820289,3,[(2,57),(29,1)]),by simp [bigR],rfl⟩
 have hL4:L.length=4:=by rw [←hL];rfl
 clear hL
 walk_at "go"
 (simp only [fmod_nn,fdiv_nn,Int.reduceLE])
 refine idx_any at_new (by walk_at "om") (by walk_at "om") (by walk_at "om") fun z hz=>?_
 refine x1_2 (hLm z hz) fun x hx eQ2=>?_
 subst eQ2
 have hxb:3<=x.1/\x.1<10^30/\x.2.1.natAbs<2^200/\∀ b,1<=b->b<=x.1->(Rw.prime x.1 b x.2.2).ok/\NOK (Rw.prime x.1 b x.2.2):=by
  simp only [bigR,List.mem_cons,List.not_mem_nil,or_false] at hx
  rcases hx with rfl|rfl|rfl|rfl <;>
  ·refine ⟨by decide,by decide,by decide,fun b b0 b1=>⟨⟨by decide,by decide,b0,b1,by simp,by simp,by decide,by unfold Ris;decide⟩,by simp only [Rw.needs];decide,?_,?_⟩⟩
   ·simp only [Rw.needs];decide +kernel
   ·simp only [Rw.needs];decide +kernel
 refine x0_4 (hxb) fun x3 x30 xb xok=>?_
 clear hxb
 walk_at "gx"
 (simp only [fmod_nn,fdiv_nn,Int.reduceLE])
 refine idx_any at_new (by (first|exact Nat.le_of_ble_eq_true rfl|simp)) (by walk_at "om") (by (first|exact Int.emod_lt_of_pos _ (by decide)|(simp;omega))) fun z hz=>?_
 have:∃ e:Nat,z=.int e/\e∈bigE/\e<100:=by
  simp only [List.mem_cons,List.not_mem_nil,or_false] at hz
  rcases hz with rfl|rfl|rfl|rfl|rfl
  ·exact ⟨1,rfl,by decide,by decide⟩
  ·exact ⟨11,rfl,by decide,by decide⟩
  ·exact ⟨13,rfl,by decide,by decide⟩
  ·exact ⟨19,rfl,by decide,by decide⟩
  ·exact ⟨23,rfl,by decide,by decide⟩
 refine x1_3 (this) fun e eQ1 e0 e1=>?_
 clear this
 subst eQ1
 walk_at "go"
 refine cp x.2.1 e x.1 _ _ xb (by walk_at "om") (by walk_at "om") (by walk_at "om") (by walk_at "om") ?_
 walk_at "go"
 refine x0_2 (big_true hx e0) fun b0 bt=>?_
 have b1:pw x.2.1 e x.1<x.1:=Int.emod_lt_of_pos _ (by walk_at "om")
 exact h (.prime x.1 (pw x.2.1 e x.1) x.2.2) (xok _ b0 (Int.le_of_lt b1)).1 bt x3 (xok _ b0 (Int.le_of_lt b1)).2 _ (by repeat (first|exact pre_new|refine List.IsPrefix.trans ?_ pre_new))
theorem comp_false {x y:Int}(hx:2<=x) (hy:2<=y):isPB (x*y).toNat=false:=by
 refine x1_1 (Int.eq_ofNat_of_zero_le (show 0<=x by (first|lia|omega))) fun m eQ1=>?_
 subst eQ1
 refine x1_1 (Int.eq_ofNat_of_zero_le (show 0<=y by (first|lia|omega))) fun k eQ1=>?_
 subst eQ1
 rw [←Int.natCast_mul,Int.toNat_natCast]
 have:m*2<=m*k:=Nat.mul_le_mul_left m (by (first|lia|omega))
 exact isPB_false (d:=m) (by (first|lia|omega)) (by (first|lia|omega)) (Nat.mul_mod_right m k)
theorem sq_less (x:Int):(x+1)*(x+1)-1=x*(x+2):=by
 rw [Int.add_mul,Int.mul_add,Int.one_mul,Int.mul_one,Int.mul_add];(first|lia|omega)
theorem great_pow {x y:Int}(hx:2<=x) (hy:2<=y):pw x (x*y-1) (x*y)≠1:=by
 refine x1_1 (Int.eq_ofNat_of_zero_le (show 0<=x*y from Int.mul_nonneg (by (first|lia|omega)) (by (first|lia|omega)))) fun n hn=>?_
 have h2:x*2<=x*y:=Int.mul_le_mul_of_nonneg_left hy (by (first|lia|omega))
 have h3:x*y%x=0:=Int.mul_emod_right x y
 rw [hn] at h2 h3 ⊢
 exact pow_not_one (by (first|lia|omega)) hx h3
noncomputable def SGreat (Φ:Fun):Prop:=∀ (c m:Int) (H:Hp) (Q:PQ),0<=c->c<4294967296->0<=m->m<4294967296->(∀ r:Rw,r.ok->r.tru->3<=r.num->r.needs=[]->Q r.av H)->Φ "_law_great_row" [.int c,.int m] H Q
theorem great_row {Φ:Fun}{c m:Int}{H:Hp}{Q:PQ}(c0:0<=c) (c1:c<4294967296) (m0:0<=m) (m1:m<4294967296) (h:∀ r:Rw,r.ok->r.tru->3<=r.num->r.needs=[]->Q r.av H):wpF Φ m_law_great_row [.int c,.int m] H Q:=by
 have e15:((10:Int)^(Int.toNat 15))=1000000000000000:=by decide
 ((refine ⟨rfl,?_⟩;simp only [lst,Nat.reduceSub,Nat.sub_self,List.replicate]))
 simp only [m_law_great_row]
 walk_at "wp"
 rw [e15]
 refine ⟨mulOk_left (by walk_at "om"),by decide,by decide,by decide,by decide,mulOk_left (by walk_at "om"),by decide,by decide,by decide,by decide,?_⟩
 rw [fmod_nn (by decide),fmod_nn (by decide)]
 have a0:=Int.emod_nonneg (c*2147483647+m) (show (1000000000000000:Int)≠0 by decide)
 have a1:=Int.emod_lt_of_pos (c*2147483647+m) (show (0:Int)<1000000000000000 by decide)
 have b0:=Int.emod_nonneg (m*2147483647+c) (show (1000000000000000-9:Int)≠0 by decide)
 have b1:=Int.emod_lt_of_pos (m*2147483647+c) (show (0:Int)<1000000000000000-9 by decide)
 generalize (c*2147483647+m)%1000000000000000=a at a0 a1
 generalize (m*2147483647+c)%(1000000000000000-9)=b at b0 b1
 have hab:(2+a)*(2+b)<10^30-2000:=Int.lt_of_le_of_lt (Int.mul_le_mul (show 2+a<=1000000000000001 by walk_at "om") (show 2+b<=999999999999992 by walk_at "om") (by walk_at "om") (by walk_at "om")) (by decide)
 have hab2:(2+a)*2<=(2+a)*(2+b):=Int.mul_le_mul_of_nonneg_left (by walk_at "om") (by walk_at "om")
 have hbb:(2+b+1)*(2+b+1)<10^30-2000:=Int.lt_of_le_of_lt (Int.mul_le_mul (show 2+b+1<=999999999999993 by walk_at "om") (show 2+b+1<=999999999999993 by walk_at "om") (by walk_at "om") (by walk_at "om")) (by decide)
 have hbb2:(2+b+1)*3<=(2+b+1)*(2+b+1):=Int.mul_le_mul_of_nonneg_left (by walk_at "om") (by walk_at "om")
 (simp only [fmod_nn,fdiv_nn,Int.reduceLE])
 refine ⟨by decide,?_⟩
 refine sp_d (fun h1=>?_) (fun h1=>?_)
 ·walk_at "wp"
  refine ⟨mulOk_left (by walk_at "om"),by walk_at "sd",by walk_at "sd",?_⟩
  exact h (.split ((2+a)*(2+b)) (2+a) (2+b)) ⟨by walk_at "om",by walk_at "om",by walk_at "om",by walk_at "om",rfl,hab⟩ ⟨trivial,fun _=>(comp_false (by walk_at "om") (by walk_at "om")).symm⟩ (show 3<=(2+a)*(2+b) by walk_at "om") rfl
 ·walk_at "go"
  (simp only [fmod_nn,fdiv_nn,Int.reduceLE])
  refine sp_d (fun h1=>?_) (fun h1=>?_)
  ·walk_at "wp"
   refine ⟨mulOk_left (by walk_at "om"),by walk_at "sd",by walk_at "sd",?_⟩
   exact h (.power ((2+a)*(2+b)) (2+a)) ⟨by walk_at "om",hab,by walk_at "om",by walk_at "om"⟩ ⟨⟨by walk_at "om",great_pow (by walk_at "om") (by walk_at "om")⟩,fun _=>(comp_false (by walk_at "om") (by walk_at "om")).symm⟩ (show 3<=(2+a)*(2+b) by walk_at "om") rfl
  ·walk_at "wp"
   refine ⟨mulOk_left (by walk_at "om"),by walk_at "sd",by walk_at "sd",?_⟩
   have hroot:(2+b+1)*(2+b+1)%((2+b+1)*(2+b+1)-1)=1:=by
    generalize (2+b+1)*(2+b+1)=y at hbb2
    rw [show y=1+(y-1) by (first|lia|omega),show 1+(y-1)-1=y-1 by (first|lia|omega),Int.add_emod_right]
    exact Int.emod_eq_of_lt (by decide) (by (first|lia|omega))
   refine h (.root ((2+b+1)*(2+b+1)-1) (2+b+1)) ⟨by walk_at "om",by walk_at "om",by walk_at "om",by walk_at "om"⟩ ⟨⟨by walk_at "om",by walk_at "om",hroot⟩,fun _=>?_⟩ (show 3<=(2+b+1)*(2+b+1)-1 by walk_at "om") rfl
   have e:=sq_less (2+b)
   show false=isPB ((2+b+1)*(2+b+1)-1).toNat
   rw [e,comp_false (by walk_at "om") (by walk_at "om")]
noncomputable def fstA (y:AV):AV:=match y with|.tup (x::_)=>x|_=>.none
noncomputable def SNeeds (Φ:Fun):Prop:=∀ (r:Rw) (H:Hp) (Q:PQ),r.ok->Q (.ref H.length) (H++[.list (r.needs.map .int)])->Φ "_law_needs" [r.av] H Q
theorem needs {Φ:Fun}{r:Rw}{H:Hp}{Q:PQ}(hr:r.ok) (h:Q (.ref H.length) (H++[.list (r.needs.map .int)])):wpF Φ m_law_needs [r.av] H Q:=by
 cases r with
 | prime n b ps =>
  simp only [Rw.av,psT]
  ((refine ⟨rfl,?_⟩;simp only [lst,Nat.reduceSub,Nat.sub_self,List.replicate]))
  simp only [m_law_needs]
  walk_at "go"
  refine sp_b (fun _=>?_) (fun h1=>absurd h1 (by decide))
  walk_at "go"
  have hl:ps.length<=10:=hr.2.2.2.2.2.1
  refine comp_map fstA (by simp;exact szL (by walk_at "om")) trivial (fun y hy=>?_) ?_
  ·refine x1_2 (List.mem_map.mp hy) fun p hp eQ2=>?_
   subst eQ2
   refine ⟨[.int p.1,.int p.2],rfl,fun Q' q=>?_⟩
   walk_at "wp"
   exact q
  ·walk_at "wp"
   have:(ps.map prAV).map fstA=(Rw.prime n b ps).needs.map .int:=by simp [Rw.needs,prAV,fstA]
   rw [this];exact h
 | first =>
  simp only [Rw.av]
  ((refine ⟨rfl,?_⟩;simp only [lst,Nat.reduceSub,Nat.sub_self,List.replicate]))
  simp only [m_law_needs]
  walk_at "go"
  refine sp_b (fun h1=>absurd h1 (by decide)) (fun _=>?_)
  walk_at "go"
  exact h
 | split n a b =>
  simp only [Rw.av]
  ((refine ⟨rfl,?_⟩;simp only [lst,Nat.reduceSub,Nat.sub_self,List.replicate]))
  simp only [m_law_needs]
  walk_at "go"
  refine sp_b (fun h1=>absurd h1 (by decide)) (fun _=>?_)
  walk_at "go"
  exact h
 | power n b =>
  simp only [Rw.av]
  ((refine ⟨rfl,?_⟩;simp only [lst,Nat.reduceSub,Nat.sub_self,List.replicate]))
  simp only [m_law_needs]
  walk_at "go"
  refine sp_b (fun h1=>absurd h1 (by decide)) (fun _=>?_)
  walk_at "go"
  exact h
 | root n b =>
  simp only [Rw.av]
  ((refine ⟨rfl,?_⟩;simp only [lst,Nat.reduceSub,Nat.sub_self,List.replicate]))
  simp only [m_law_needs]
  walk_at "go"
  refine sp_b (fun h1=>absurd h1 (by decide)) (fun _=>?_)
  walk_at "go"
  exact h
end
section
open PySem
set_option maxHeartbeats 2000000
noncomputable def DOK (P:Rw->Prop) (D:List (Int×AV)):Prop:=∀ e∈D,∃ r:Rw,r.ok/\P r/\r.num=e.1/\e.2=r.av
theorem prs_inj:∀ {ps qs:List (Int×Int)},ps.map prAV=qs.map prAV->ps=qs
 | [],[],_=>rfl
 | p::r,q::s,h=>by
  simp only [List.map_cons,List.cons.injEq,prAV,AV.tup.injEq,AV.int.injEq,and_true] at h
  rw [prs_inj h.2,Prod.ext h.1.1 h.1.2]
theorem psT_inj {ps qs:List (Int×Int)}(h:psT ps=psT qs):ps=qs:=prs_inj (AV.tup.inj h)
theorem needs_inj {r s:Rw}(h:r.av=s.av):r.needs=s.needs:=by
 cases r<;>cases s<;>simp only [Rw.av,AV.tup.injEq,List.cons.injEq,AV.str.injEq,AV.int.injEq,and_true] at h<;>first|rfl|(obtain ⟨_,_,_,h⟩:=h;rw [Rw.needs,Rw.needs,psT_inj h])|exact absurd h.2.1 (by decide)
noncomputable def n2 (D:List (Int×AV)):Nat:=D.countP fun e=>!decide (e.1=2)
noncomputable def o2 (D:List (Int×AV)):Nat:=D.countP fun e=>decide (e.1=2)
theorem d_len (D:List (Int×AV)):D.length=n2 D+o2 D:=by
 induction D with
 | nil=>rfl
 | cons e D ih =>
  simp only [n2,o2,List.countP_cons,List.length_cons] at ih ⊢
  by_cases h:e.1=2<;>simp [h]<;>(first|lia|omega)
theorem dget_none {D:List (Int×AV)}{k:Int}(h:dget D k=none):∀ e∈D,e.1≠k:=by
 intro e he hk
 simp only [dget,Option.map_eq_none_iff,List.find?_eq_none,decide_eq_true_eq] at h
 exact h e he hk
theorem dget_some {D:List (Int×AV)}{k:Int}{v:AV}(h:dget D k=some v):(k,v)∈D:=by
 simp only [dget,Option.map_eq_some_iff] at h
 refine x1_2 (h) fun e h1 eQ2=>?_
 clear h
 subst eQ2
 have h2:=List.find?_some h1
 simp only [decide_eq_true_eq] at h2
 have:=List.mem_of_find?_eq_some h1
 rw [←h2];exact this
theorem dget_mem {D:List (Int×AV)}{e:Int×AV}(h:e∈D):∃ v,dget D e.1=some v:=by
 cases hd:dget D e.1 with
 | some v=>exact ⟨v,rfl⟩
 | none=>exact absurd rfl (dget_none hd e h)
theorem dset_new {D:List (Int×AV)}{k:Int}{v:AV}(h:dget D k=none):dset D k v=D++[(k,v)]:=by
 unfold dset
 rw [if_neg]
 intro h1
 simp only [List.any_eq_true,decide_eq_true_eq] at h1
 refine x1_2 (h1) fun e h2 h3=>?_
 clear h1
 exact dget_none h e h2 h3
theorem dget_new {D:List (Int×AV)}{k:Int}{v:AV}(h:dget D k=none):dget (D++[(k,v)]) k=some v:=by
 simp only [dget,Option.map_eq_none_iff] at h
 simp [dget,List.find?_append,h]
noncomputable def WG (w:Nat):Prop:=2<=w/\(w<=401\/(w<=20000/\isPB w=false))
noncomputable def WOK (W:List Nat):Prop:=∀ w∈W,WG w
theorem T_big {n:Nat}(h:isPB n=false):T n=1/\T2 n=(if n=2 then 0 else 1)/\nxN n=[]/\nx n=[]:=by
 have e:nx n=[]:=by unfold nx;rw [h];rfl
 have e2:nxN n=[]:=by unfold nxN;rw [e];rfl
 exact ⟨by show trT 12 n=1;rw [trT,e2];rfl,by show tr2 12 n=_;rw [tr2,e2];rfl,e2,e⟩
theorem T_all {n:Nat}(h:WG n):T n=1+((nxN n).map T).sum/\T2 n=(if n=2 then 0 else 1)+((nxN n).map T2).sum/\T n<=20/\T2 n<=7/\WOK (nxN n)/\∀ q∈nx n,0<=q:=by
 rcases h.2 with h|⟨_,h⟩
 ·refine x0_6 (T_tab h) fun t1 t2 t3 t4 t5 t6=>?_
  exact ⟨t1,t2,t3,t4,fun w hw=>⟨(t5 w hw).1,.inl (t5 w hw).2⟩,t6⟩
 ·refine x0_4 (T_big h) fun h1 h2 h3 h4=>?_
  rw [h1,h2,h3,h4]
  exact ⟨rfl,rfl,by decide,(by split<;>decide),(fun w hw=>by cases hw),fun q hq=>by cases hq⟩
noncomputable def wI (W:List Nat):List AV:=W.map fun (w:Nat)=>AV.int (w:Int)
structure RsC (P:Rw->Prop) (N:Nat) (rs:List Rw):Prop where
 ne:rs≠[]
 len:rs.length<=N+1
 ok:∀ r∈rs,r.ok
 p:∀ r∈rs,P r
 inc:(rs.map Rw.num).Pairwise (·<·)
 cl:N<=40->∀ r∈rs,∀ q∈r.needs,∃ s∈rs,s.num=q
structure Inv (P:Rw->Prop) (N:Nat) (D:List (Int×AV)) (W:List Nat):Prop where
 d:DOK P D
 o:o2 D<=1
 w:WOK W
 n:n2 D+(W.map T2).sum<=N
 e:D≠[]\/W≠[]
 nd:(D.map (·.1)).Nodup
 cl:N<=40->∀ r:Rw,(r.num,r.av)∈D->∀ q∈r.needs,(∃ v,dget D q=some v)\/∃ w∈W,(w:Int)=q
theorem inc_of {l:List Int}(h:l.Pairwise (·<=·)) (n:l.Nodup):l.Pairwise (·<·):=by
 induction l with
 | nil=>exact .nil
 | cons x r ih =>
  rw [List.pairwise_cons] at h
  rw [List.nodup_cons] at n
  refine List.pairwise_cons.mpr ⟨fun y hy=>?_,ih h.2 n.2⟩
  have:=h.1 y hy
  rcases Int.lt_or_eq_of_le this with q|q
  ·exact q
  ·subst q;exact absurd hy n.1
theorem dget_app {D E:List (Int×AV)}{k:Int}{v:AV}(h:dget D k=some v):∃ u,dget (D++E) k=some u:=by
 refine x1_1 (dget_mem (List.mem_append_left E (dget_some h))) fun u hu=>?_
 exact ⟨u,hu⟩
theorem T_len {W:List Nat}(h:WOK W):W.length<=(W.map T).sum:=by
 induction W with
 | nil=>simp
 | cons w W ih =>
  have h1:=(T_all (h w (by simp))).1
  have:=ih fun x hx=>h x (by simp [hx])
  simp only [List.length_cons,List.map_cons,List.sum_cons]
  (first|lia|omega)
theorem rows_of {P:Rw->Prop}{D:List (Int×AV)}(hd:DOK P D):∀ (ms:List Int),(∀ k∈ms,∃ v,dget D k=some v)->∃ rs:List Rw,(ms.map fun k=>(dget D k).getD .none)=rs.map Rw.av/\rs.map Rw.num=ms/\∀ r∈rs,r.ok/\P r/\(r.num,r.av)∈D
 | [],_=>⟨[],rfl,rfl,fun _ h=>by cases h⟩
 | k::ms,h=>by
  refine x1_1 (h k (by simp)) fun v hv=>?_
  refine x1_4 (hd _ (dget_some hv)) fun r r1 rp r2 r3=>?_
  have rd:(r.num,r.av)∈D:=by rw [r2,←r3];exact dget_some hv
  refine x1_3 (rows_of hd ms fun x hx=>h x (by simp [hx])) fun rs h1 h2 h3=>?_
  refine ⟨r::rs,?_,by simp [h2,r2],fun x hx=>?_⟩
  ·simp only [List.map_cons,h1,hv,Option.getD_some];rw [←r3]
  ·rcases List.mem_cons.mp hx with rfl|hx
   ·exact ⟨r1,rp,rd⟩
   ·exact h3 x hx
noncomputable def getA (D:List (Int×AV)) (y:AV):AV:=match y with|.int k=>(dget D k).getD .none|_=>.none
theorem dic_len {H:Hp}{Q:PQ}{i:Nat}{l:List (Int×AV)}(h:H[i]?=some (.dict l)) (hn:l.length<=1000) (q:Q (.int l.length) H):wpBi .len [.ref i] H Q:=by
 rw [l_dict h];exact ⟨by walk_at "om",q⟩
theorem notin_dic {H:Hp}{Q:PQ}{i:Nat}{l:List (Int×AV)}{k:Int}(h:H[i]?=some (.dict l)) (q:Q (.bool !(dget l k).isSome) H):wpCmp .notIn (.int k) (.ref i) H Q:=by
 have:wpIn (.int k) (.ref i) H (fun b=>Q (.bool !b) H):=by
  simp only [wpIn,h]
  exact ⟨k,rfl,q⟩
 exact this
theorem set_dic {H:Hp}{K:Hp->Prop}{i:Nat}{l:List (Int×AV)}{k:Int}{x:AV}(h:H[i]?=some (.dict l)) (hn:l.length<=1000) (q:K (H.set i (.dict (dset l k x)))):wpSet (.ref i) (.int k) x H K:=by
 simp only [wpSet,asI,h]
 exact ⟨szL hn,q⟩
theorem pop_at {H:Hp}{Q:PQ}{i:Nat}{l:List AV}{x:AV}(h:H[i]?=some (.list (l++[x]))) (hn:l.length<=900) (q:Q x (H.set i (.list l))):wpMt .pop (.ref i) [] H Q:=by
 show onL (.ref i) H _
 rw [onL_ref h]
 exact ⟨szL (by simp;(first|lia|omega)),l,x,rfl,q⟩
theorem ext_at {H:Hp}{Q:PQ}{i j:Nat}{l m:List AV}(h:H[i]?=some (.list l)) (h2:H[j]?=some (.list m)) (hn:l.length+m.length<=1000) (q:Q .none (H.set i (.list (l++m)))):wpMt .extend (.ref i) [.ref j] H Q:=by
 show onL (.ref i) H _
 rw [onL_ref h]
 have:onL (.ref j) H (fun _ m=>l.length+m.length<=1000000/\Q .none (H.set i (.list (l++m)))):=by
  rw [onL_ref h2]
  exact ⟨by walk_at "om",q⟩
 exact this
theorem get_set_ne {H:Hp}{i j:Nat}{o:AObj}(h:i≠j):(H.set i o)[j]?=H[j]?:=List.getElem?_set_ne h
theorem get_set_eq {H:Hp}{i:Nat}{o o':AObj}(h:H[i]?=some o'):(H.set i o)[i]?=some o:=by
 rw [List.getElem?_set_self (List.getElem?_eq_some_iff.mp h).1]
noncomputable def SClosed (Φ:Fun):Prop:=∀ (P:Rw->Prop) (N i j k n:Nat) (D:List (Int×AV)) (W:List Nat) (cs:List Int) (H H0:Hp) (Q:PQ),(∀ r:Rw,r.ok->r.tru->P r)->N<=62->H[i]?=some (.dict D)->H[j]?=some (.list (wI W))->H[k]?=some (.list (cs.map .int))->Cells cs n->1<=n->n<=1000->i≠j->i≠k->j≠k->H0<+:H->H0.length<=i->H0.length<=j->Inv P N D W->(W.map T).sum<=500 ->
 (∀ m rs H' D',H0<+:H'->H0.length<=m->H'[m]?=some (.list (rs.map Rw.av))->RsC P N rs->H'[i]?=some (.dict D')->Inv P N D' []->H'[k]?=some (.list (cs.map .int))->Q (.ref m) H')->Φ "_law_closed" [.ref i,.ref j,.ref k] H Q
theorem closed {Φ:Fun}(c1:SIsP Φ) (c2:SPRow Φ) (c3:SPart Φ) (c4:SNeeds Φ){P:Rw->Prop}{N i j k n:Nat}{D:List (Int×AV)}{W:List Nat}{cs:List Int}{H H0:Hp}{Q:PQ}(hP:∀ r:Rw,r.ok->r.tru->P r) (hN:N<=62) (hi:H[i]?=some (.dict D)) (hj:H[j]?=some (.list (wI W))) (hk:H[k]?=some (.list (cs.map .int))) (hc:Cells cs n) (hn1:1<=n) (hn:n<=1000) (ij:i≠j) (ik:i≠k) (jk:j≠k) (hp:H0<+:H) (i0:H0.length<=i) (j0:H0.length<=j) (inv:Inv P N D W) (hT:(W.map T).sum<=500)
  (h:∀ m rs H' D',H0<+:H'->H0.length<=m->H'[m]?=some (.list (rs.map Rw.av))->RsC P N rs->H'[i]?=some (.dict D')->Inv P N D' []->H'[k]?=some (.list (cs.map .int))->Q (.ref m) H'):wpF Φ m_law_closed [.ref i,.ref j,.ref k] H Q:=by
 ((refine ⟨rfl,?_⟩;simp only [lst,Nat.reduceSub,Nat.sub_self,List.replicate]))
 simp only [m_law_closed]
 walk_at "wp"
 refine s_whl (fun t loc H'=>∃ (D:List (Int×AV)) (W:List Nat) (o1 o2:Option AV),loc=[some (.ref i),some (.ref j),some (.ref k),o1,o2]/\H'[i]?=some (.dict D)/\H'[j]?=some (.list (wI W))/\H'[k]?=some (.list (cs.map .int))/\H0<+:H'/\Inv P N D W/\(W.map T).sum=t/\t<=500) _ ⟨D,W,none,none,rfl,hi,hj,hk,hp,inv,rfl,hT⟩ ?_
 clear hi hj hk hp inv hT D W H
 rintro t loc H ⟨D,W,o1,o2',rfl,hi,hj,hk,hp,inv,hT,ht⟩
 have hWl:=T_len inv.w
 have hDl:=d_len D
 have hD63:D.length<=63:=by have:=inv.o;have:=inv.n;(first|lia|omega)
 walk_at "wp"
 refine len_at hj (by simp [wI];(first|lia|omega)) ?_
 walk_at "wp"
 refine sp_d (fun h1=>?_) (fun h1=>?_)
 ·have hW:W≠[]:=by rintro rfl;simp [wI] at h1
  obtain ⟨W',x,rfl⟩:∃ W' x,W=W'++[x]:=⟨W.dropLast,W.getLast hW,(List.dropLast_concat_getLast hW).symm⟩
  have hx:=inv.w x (by simp)
  refine x0_6 (T_all hx) fun t1 t2 t3 t4 t5 t6=>?_
  have hjj:H[j]?=some (.list (wI W'++[.int x])):=by rw [hj];simp [wI]
  have w':WOK W':=fun w hw=>inv.w w (by simp [hw])
  rw [List.map_append,List.sum_append] at hT
  simp only [List.map_cons,List.map_nil,List.sum_cons,List.sum_nil] at hT
  have hn0:=inv.n
  rw [List.map_append,List.sum_append] at hn0
  simp only [List.map_cons,List.map_nil,List.sum_cons,List.sum_nil] at hn0
  have hWl':=T_len w'
  walk_at "wp"
  refine ⟨isL_ref hjj,?_⟩
  refine pop_at hjj (by simp [wI];(first|lia|omega)) ?_
  generalize hH1:H.set j (.list (wI W'))=H1
  have hi1:H1[i]?=some (.dict D):=by rw [←hH1,get_set_ne (Ne.symm ij)];exact hi
  have hj1:H1[j]?=some (.list (wI W')):=by rw [←hH1];exact get_set_eq hj
  have hk1:H1[k]?=some (.list (cs.map .int)):=by rw [←hH1,get_set_ne jk];exact hk
  have hp1:H0<+:H1:=by rw [←hH1];exact pre_set hp j0
  walk_at "wp"
  refine notin_dic hi1 ?_
  walk_at "wp"
  cases hg:dget D x with
  | some v =>
   simp only [Option.isSome_some]
   walk_at "wp"
   refine whl_next _ (by walk_at "om") ⟨D,W',_,_,rfl,hi1,hj1,hk1,hp1,⟨inv.d,inv.o,w',by walk_at "om",.inl (by rintro rfl;simp [dget] at hg),inv.nd,fun h40 r hr q hq=>?_⟩,rfl,by walk_at "om"⟩
   rcases inv.cl h40 r hr q hq with c|⟨w,hw,e⟩
   ·exact .inl c
   ·rcases List.mem_append.mp hw with hw|hw
    ·exact .inr ⟨w,hw,e⟩
    ·rw [List.mem_singleton.mp hw] at e;subst e;exact .inl ⟨v,hg⟩
  | none =>
   simp only [Option.isSome_none]
   walk_at "wp"
   refine dic_len hi1 (by walk_at "om") ?_
   walk_at "wp"
   have hcl:=hc.len
   refine len_at hk1 (by simp;(first|lia|omega)) ?_
   walk_at "wp"
   refine ⟨by rw [List.length_map];(first|lia|omega),?_⟩
   simp only [List.length_map,hcl]
   rw [fmod_nn (by walk_at "om")]
   refine cel_at hk1 hc hn (Int.emod_nonneg _ (by walk_at "om")) (Int.emod_lt_of_pos _ (by walk_at "om")) fun c c0 c1'=>?_
   walk_at "wp"
   refine c1 x H1 _ hx.1 (by have:=hx.2;(first|lia|omega)) ?_
   have rest:∀ r:Rw,r.ok->r.tru->r.num=x->r.needs=nx x->wpSs Φ [MS.expr (.meth .extend (.loc 1) [.call "_law_needs" [.idx (.loc 0) (.loc 3)]])] [some (.ref i),some (.ref j),some (.ref k),some (.int x),some (.int c)] (H1.set i (.dict (dset D x r.av))) (thenS Φ [] (whlK (fun t loc H'=>∃ (D:List (Int×AV)) (W:List Nat) (o1 o2:Option AV),loc=[some (.ref i),some (.ref j),some (.ref k),o1,o2]/\H'[i]?=some (.dict D)/\H'[j]?=some (.list (wI W))/\H'[k]?=some (.list (cs.map .int))/\H0<+:H'/\Inv P N D W/\(W.map T).sum=t/\t<=500) t (thenS Φ [MS.ret (.comp false 1 (.idx (.loc 0) (.loc 5)) .plain [.bi .sorted [.loc 0]] [])] (endOf Q)))):=by
    intro r hr htru hnum hneed
    rw [dset_new hg]
    generalize hH2:H1.set i (.dict (D++[((x:Int),r.av)]))=H2
    have hi2:H2[i]?=some (.dict (D++[((x:Int),r.av)])):=by rw [←hH2];exact get_set_eq hi1
    have hj2:H2[j]?=some (.list (wI W')):=by rw [←hH2,get_set_ne ij];exact hj1
    have hk2:H2[k]?=some (.list (cs.map .int)):=by rw [←hH2,get_set_ne ik];exact hk1
    have hp2:H0<+:H2:=by rw [←hH2];exact pre_set hp1 i0
    walk_at "wp"
    refine ⟨isL_ref hj2,?_⟩
    rw [i_dict hi2]
    refine ⟨r.av,dget_new hg,?_⟩
    walk_at "wp"
    refine c4 r H2 _ hr ?_
    walk_at "wp"
    have hnl:(nx x).length<=20:=by
     have h1:=T_len t5
     simp only [nxN,List.length_map] at h1
     simp only [nxN] at t1
     (first|lia|omega)
    have ew:wI W'++r.needs.map .int=wI (W'++nxN x):=by
     rw [hneed]
     simp only [wI,List.map_append,nxN,List.map_map,List.append_cancel_left_eq]
     refine List.map_congr_left fun q hq=>?_
     have:=t6 q hq
     simp only [Function.comp]
     congr 1;(first|lia|omega)
    refine ext_at (pre_at pre_new hj2) at_new (by rw [hneed];simp [wI];(first|lia|omega)) ?_
    rw [ew]
    walk_at "wp"
    have hjl:j<H2.length:=(List.getElem?_eq_some_iff.mp hj2).1
    refine whl_next ((W'++nxN x).map T).sum ?_ ⟨D++[((x:Int),r.av)],W'++nxN x,_,_,rfl,?_,?_,?_,?_,⟨?_,?_,?_,?_,?_,?_,?_⟩,rfl,?_⟩
    ·rw [List.map_append,List.sum_append];(first|lia|omega)
    ·rw [get_set_ne (Ne.symm ij)];exact pre_at pre_new hi2
    ·exact get_set_eq (pre_at pre_new hj2)
    ·rw [get_set_ne jk];exact pre_at pre_new hk2
    ·exact pre_set (hp2.trans pre_new) j0
    ·intro e he
     rcases List.mem_append.mp he with he|he
     ·exact inv.d e he
     ·rw [List.mem_singleton.mp he];exact ⟨r,hr,hP r hr htru,hnum,rfl⟩
    ·simp only [o2,List.countP_append]
     by_cases e:(x:Int)=2
     ·have h0:o2 D=0:=by
       simp only [o2,List.countP_eq_zero]
       intro e' he'
       have:=dget_none hg e' he'
       simp;(first|lia|omega)
      simp only [o2] at h0
      simp [h0,List.countP_cons,e]
     ·have:=inv.o
      simp only [o2] at this
      simp [List.countP_cons,e];(first|lia|omega)
    ·intro w hw
     rcases List.mem_append.mp hw with hw|hw
     ·exact w' w hw
     ·exact t5 w hw
    ·simp only [n2,List.countP_append,List.map_append,List.sum_append]
     simp only [n2] at hn0
     by_cases e:x=2
     ·have:(x:Int)=2:=by (first|lia|omega)
      rw [if_pos e] at t2
      simp [List.countP_cons,this];(first|lia|omega)
     ·have:¬ (x:Int)=2:=by (first|lia|omega)
      rw [if_neg e] at t2
      simp [List.countP_cons,this];(first|lia|omega)
    ·exact .inl (by simp)
    ·rw [List.map_append,List.nodup_append]
     refine ⟨inv.nd,by simp,fun a ha b hb=>?_⟩
     refine x1_2 (List.mem_map.mp ha) fun e he eQ2=>?_
     subst eQ2
     simp only [List.map_cons,List.map_nil,List.mem_singleton] at hb
     subst hb
     exact dget_none hg e he
    ·intro h40 s hs q hq
     rcases List.mem_append.mp hs with hs|hs
     ·rcases inv.cl h40 s hs q hq with ⟨v,c⟩|⟨w,hw,e⟩
      ·exact .inl (dget_app c)
      ·rcases List.mem_append.mp hw with hw|hw
       ·exact .inr ⟨w,List.mem_append_left _ hw,e⟩
       ·rw [List.mem_singleton.mp hw] at e;subst e;exact .inl ⟨_,dget_new hg⟩
     ·have e:=congrArg Prod.snd (List.mem_singleton.mp hs)
      rw [needs_inj e,hneed] at hq
      have:=t6 q hq
      exact .inr ⟨q.toNat,List.mem_append_right _ (List.mem_map.mpr ⟨q,hq,rfl⟩),Int.toNat_of_nonneg this⟩
    ·rw [List.map_append,List.sum_append];(first|lia|omega)
   walk_at "wp"
   cases hpx:isPB x with
   | true =>
    walk_at "wp"
    refine c2 x c H1 _ hx.1 (by rcases hx.2 with q|⟨_,q⟩;exact q;rw [q] at hpx;cases hpx) hpx c0 fun r r1 rt r2 r3=>?_
    walk_at "wp"
    refine set_dic hi1 (by walk_at "om") ?_
    simp only [k_sto4,thenS_next,ss_nil]
    exact rest r r1 rt r2 r3
   | false =>
    walk_at "wp"
    refine c3 x c H1 _ hx.1 (by have:=hx.2;(first|lia|omega)) hpx c0 fun r r1 rt r2 r3=>?_
    walk_at "wp"
    refine set_dic hi1 (by walk_at "om") ?_
    simp only [k_sto4,thenS_next,ss_nil]
    exact rest r r1 rt r2 (by rw [r3];simp [nx,hpx])
 ·have hW:W=[]:=by
   cases W with
   | nil=>rfl
   | cons w W=>exact absurd (by simp [wI];try (first|lia|omega)) h1
  subst hW
  have hDn:D≠[]:=by rcases inv.e with h2|h2;exact h2;exact absurd rfl h2
  walk_at "wp"
  refine ⟨D.map (·.1),.inr ⟨i,D,rfl,hi,rfl⟩,by rw [List.length_map];(first|lia|omega),fun ms hperm hsort=>?_⟩
  walk_at "wp"
  rw [r_list at_new]
  have hml:ms.length=D.length:=by rw [hperm.length_eq,List.length_map]
  have hms:∀ y∈ms,∃ v,dget D y=some v:=fun y hy=>by
   refine x1_2 (List.mem_map.mp (hperm.mem_iff.mp hy)) fun e he eQ2=>?_
   subst eQ2
   exact dget_mem he
  refine x1_3 (rows_of inv.d ms hms) fun rs r1 r2 r3=>?_
  refine comp_map (getA D) (by rw [List.length_map];exact szL (by walk_at "om")) at_new (fun y hy=>?_) ?_
  ·refine x1_2 (List.mem_map.mp hy) fun q hq eQ2=>?_
   subst eQ2
   refine x1_1 (hms q hq) fun v hv=>?_
   refine ⟨[.int q],rfl,fun Q' qq=>?_⟩
   walk_at "wp"
   rw [i_dict (pre_at pre_new hi)]
   refine ⟨v,hv,?_⟩
   simp only [getA,hv,Option.getD_some] at qq
   exact qq
  ·walk_at "wp"
   have e:(ms.map AV.int).map (getA D)=rs.map Rw.av:=by
    rw [←r1,List.map_map];rfl
   rw [e]
   have hrl:rs.length=D.length:=by have:=congrArg List.length r2;simp at this;(first|lia|omega)
   have hnd:ms.Nodup:=hperm.nodup_iff.mpr inv.nd
   refine h _ rs _ D (hp.trans (pre_new.trans pre_new)) ?_ at_new ⟨?_,by have:=inv.o;have:=inv.n;simp at this;(first|lia|omega),fun r hr=>(r3 r hr).1,fun r hr=>(r3 r hr).2.1,by rw [r2];exact inc_of hsort hnd,?_⟩ (pre_at (pre_new.trans pre_new) hi) inv (pre_at (pre_new.trans pre_new) hk)
   ·have:=hp.length_le;simp;(first|lia|omega)
   ·rintro rfl
    cases D with
    | nil=>exact hDn rfl
    | cons=>simp at hrl
   ·intro h40 r hr q hq
    rcases inv.cl h40 r (r3 r hr).2.2 q hq with ⟨v,c⟩|⟨w,hw,_⟩
    ·have:q∈ms:=hperm.mem_iff.mpr (List.mem_map.mpr ⟨_,dget_some c,rfl⟩)
     rw [←r2] at this
     refine x1_2 (List.mem_map.mp this) fun s hs e=>?_
     exact ⟨s,hs,e⟩
    ·cases hw
end
section
open PySem
set_option maxHeartbeats 2000000
theorem row_at0 {r:Rw}{H:Hp}{Q:PQ}(q:Q (.int r.num) H):wpIdx r.av (.int 0) H Q:=by
 cases r<;>(simp only [Rw.av,i_tup0];exact ⟨by (first|exact Nat.le_of_ble_eq_true rfl|simp),q⟩)
theorem dset_keys (f:Int->Bool) (D:List (Int×AV)) (k:Int) (v:AV):(dset D k v).countP (fun e=>f e.1)<=D.countP (fun e=>f e.1)+(if f k then 1 else 0):=by
 unfold dset
 split
 ·rw [List.countP_map]
  have:((fun e:Int×AV=>f e.1)∘fun kv=>if kv.1=k then (kv.1,v) else kv)=fun e=>f e.1:=by
   funext e
   simp only [Function.comp]
   split<;>rfl
  rw [this];(first|lia|omega)
 ·rw [List.countP_append]
  simp only [List.countP_cons,List.countP_nil]
  (first|lia|omega)
theorem dset_ok {P:Rw->Prop}{D:List (Int×AV)}(h:DOK P D){r:Rw}(hr:r.ok) (hp:P r):DOK P (dset D r.num r.av):=by
 unfold dset
 split
 ·intro e he
  refine x1_2 (List.mem_map.mp he) fun e' he' eQ2=>?_
  subst eQ2
  split
  ·rename_i h1;exact ⟨r,hr,hp,h1.symm,rfl⟩
  ·exact h e' he'
 ·intro e he
  rcases List.mem_append.mp he with he|he
  ·exact h e he
  ·rw [List.mem_singleton.mp he];exact ⟨r,hr,hp,rfl,rfl⟩
theorem dset_mem {D:List (Int×AV)}{k:Int}{v:AV}{e:Int×AV}(h:e∈dset D k v):e∈D\/e=(k,v):=by
 unfold dset at h
 split at h
 ·refine x1_2 (List.mem_map.mp h) fun e' he' eQ2=>?_
  subst eQ2
  split
  ·rename_i h1;exact .inr (by rw [h1])
  ·exact .inl he'
 ·rcases List.mem_append.mp h with h|h
  ·exact .inl h
  ·exact .inr (List.mem_singleton.mp h)
theorem dset_fst {D:List (Int×AV)}{k:Int}{v:AV}:(dset D k v).map (·.1)=D.map (·.1)\/((dset D k v).map (·.1)=D.map (·.1)++[k]/\k∉D.map (·.1)):=by
 unfold dset
 split
 ·refine .inl ?_
  rw [List.map_map]
  refine List.map_congr_left fun e _=>?_
  simp only [Function.comp]
  split<;>rfl
 ·rename_i h
  refine .inr ⟨by simp,fun hk=>h ?_⟩
  refine x1_2 (List.mem_map.mp hk) fun e he eQ2=>?_
  subst eQ2
  exact List.any_eq_true.mpr ⟨e,he,by simp⟩
theorem dset_nd {D:List (Int×AV)}{k:Int}{v:AV}(h:(D.map (·.1)).Nodup):((dset D k v).map (·.1)).Nodup:=by
 rcases @dset_fst D k v with e|⟨e,hk⟩
 ·rw [e];exact h
 ·rw [e,List.nodup_append]
  exact ⟨h,by simp,fun a ha b hb=>by rw [List.mem_singleton.mp hb];rintro rfl;exact hk ha⟩
theorem dget_key {D:List (Int×AV)}{q:Int}:q∈D.map (·.1)↔∃ v,dget D q=some v:=by
 constructor
 ·intro h
  refine x1_2 (List.mem_map.mp h) fun e he eQ2=>?_
  subst eQ2
  exact dget_mem he
 ·rintro ⟨v,hv⟩
  exact List.mem_map.mpr ⟨_,dget_some hv,rfl⟩
theorem dset_get {D:List (Int×AV)}{k q:Int}{v:AV}(h:(∃ u,dget D q=some u)\/q=k):∃ u,dget (dset D k v) q=some u:=by
 rw [←dget_key] at h ⊢
 rcases @dset_fst D k v with e|⟨e,hk⟩
 ·rw [e]
  rcases h with h|rfl
  ·exact h
  ·have:q∈(dset D q v).map (·.1):=by
    unfold dset
    split
    ·rename_i h1
     refine x1_2 (List.any_eq_true.mp h1) fun x hx hxk=>?_
     have hxk:x.1=q:=by simpa using hxk
     refine List.mem_map.mpr ⟨(x.1,v),List.mem_map.mpr ⟨x,hx,?_⟩,hxk⟩
     rw [if_pos hxk]
    ·simp
   rw [e] at this;exact this
 ·rw [e]
  rcases h with h|rfl
  ·exact List.mem_append_left _ h
  ·exact List.mem_append_right _ (by simp)
theorem dset_ne {D:List (Int×AV)}{k:Int}{v:AV}:dset D k v≠[]:=by
 unfold dset
 split
 ·rename_i h
  cases D with
  | nil=>simp at h
  | cons=>simp
 ·simp
theorem sum_le {W:List Nat}{f:Nat->Nat}{b:Nat}(h:∀ w∈W,f w<=b):(W.map f).sum<=W.length*b:=by
 induction W with
 | nil=>simp
 | cons w W ih =>
  have h1:=h w (by simp)
  have h2:=ih fun x hx=>h x (by simp [hx])
  simp only [List.map_cons,List.sum_cons,List.length_cons,Nat.add_mul,Nat.one_mul]
  (first|lia|omega)
abbrev RsOK (rs:List Rw):Prop:=RsC Rw.tru 40 rs
noncomputable def SRowsBy (Φ:Fun):Prop:=∀ (k n:Nat) (cs:List Int) (H:Hp) (Q:PQ),H[k]?=some (.list (cs.map .int))->Cells cs n->8<=n->n<=1000->(∀ rs,RsOK rs->Q (.ref H.length) (H++[.list (rs.map Rw.av)]))->Φ "_law_rows_by" [.ref k] H Q
theorem rows_by {Φ:Fun}(c1:SBig Φ) (c2:SGreat Φ) (c3:SNeeds Φ) (c4:SClosed Φ){k n:Nat}{cs:List Int}{H:Hp}{Q:PQ}(hk:H[k]?=some (.list (cs.map .int))) (hc:Cells cs n) (n8:8<=n) (hn:n<=1000)
  (h:∀ m rs H',H<+:H'->H.length<=m->H'[m]?=some (.list (rs.map Rw.av))->RsOK rs->Q (.ref m) H'):wpF Φ m_law_rows_by [.ref k] H Q:=by
 have kl:k<H.length:=(List.getElem?_eq_some_iff.mp hk).1
 have r4:∀ (j:Nat) (D:List (Int×AV)) (W:List Nat) (o:Option AV) (H1:Hp),H.length<j->H1[H.length]?=some (.dict D)->H1[j]?=some (.list (wI W))->H<+:H1->Inv Rw.tru 40 D W->(W.map T).sum<=500->wpSs Φ (m_law_rows_by.body.drop 4) [some (.ref k),some (.ref H.length),some (.ref j),o] H1 (endOf Q):=by
  intro j D W o H1 hj g1 g2 hp inv hT
  simp only [m_law_rows_by,List.drop]
  walk_at "wp"
  refine c4 Rw.tru 40 H.length j k n D W cs H1 H _ (fun _ _ t=>t) (by decide) g1 g2 (pre_at hp hk) hc (by walk_at "om") hn (by walk_at "om") (by walk_at "om") (by walk_at "om") hp (Nat.le_refl _) (by walk_at "om") inv hT fun m rs H' D' p1 p2 p3 p4 _ _ _=>?_
  walk_at "wp"
  exact h m rs H' p1 p2 p3 p4
 have r3:∀ (j:Nat) (D:List (Int×AV)) (W:List Nat) (o:Option AV) (H1:Hp),H.length<j->H1[H.length]?=some (.dict D)->H1[j]?=some (.list (wI W))->H<+:H1->Inv Rw.tru 40 D W->n2 D+(W.map T2).sum<=39->(W.map T).sum<=500->wpSs Φ (m_law_rows_by.body.drop 3) [some (.ref k),some (.ref H.length),some (.ref j),o] H1 (endOf Q):=by
  intro j D W o H1 hj g1 g2 hp inv hs hT
  simp only [m_law_rows_by,List.drop]
  walk_at "wp"
  refine cel_at (pre_at hp hk) hc hn (by walk_at "om") (by walk_at "om") fun x x0 x1=>?_
  walk_at "go"
  (simp only [fmod_nn,fdiv_nn,Int.reduceLE])
  refine sp_d (fun _=>?_) (fun _=>?_)
  ·walk_at "wp"
   refine cel_at (pre_at hp hk) hc hn (by walk_at "om") (by walk_at "om") fun x x0 x1=>?_
   walk_at "wp"
   refine cel_at (pre_at hp hk) hc hn (by walk_at "om") (by walk_at "om") fun y y0 y1=>?_
   walk_at "wp"
   refine c2 x y H1 _ x0 x1 y0 y1 fun r hr rt r3 rn=>?_
   walk_at "wp"
   refine row_at0 ?_
   walk_at "wp"
   have hDl:=d_len D
   refine set_dic g1 (by have:=inv.o;(first|lia|omega)) ?_
   have k1:=dset_keys (fun k=>!decide (k=2)) D r.num r.av
   have k2:=dset_keys (fun k=>decide (k=2)) D r.num r.av
   rw [if_neg (by simp;(first|lia|omega))] at k2
   rw [if_pos (by simp;(first|lia|omega))] at k1
   simp only [k_sto4,thenS_next,ss_nil]
   refine r4 j (dset D r.num r.av) W _ _ hj (get_set_eq g1) (by rw [get_set_ne (by walk_at "om")];exact g2) (pre_set hp (Nat.le_refl _)) ⟨dset_ok inv.d hr rt,?_,inv.w,?_,.inl dset_ne,dset_nd inv.nd,fun h40 s hs q hq=>?_⟩ hT
   ·have:=inv.o;simp only [o2] at this ⊢;(first|lia|omega)
   ·simp only [n2] at hs ⊢;(first|lia|omega)
   ·rcases dset_mem hs with hs|hs
    ·rcases inv.cl h40 s hs q hq with c|c
     ·exact .inl (dset_get (.inl c))
     ·exact .inr c
    ·rw [needs_inj (congrArg Prod.snd hs),rn] at hq;cases hq
  ·simp only [k_itef,ss_nil,thenS_next]
   exact r4 j D W o H1 hj g1 g2 hp inv hT
 have r2:∀ (j:Nat) (W:List Nat) (H1:Hp),H.length<j->H1[H.length]?=some (.dict [])->H1[j]?=some (.list (wI W))->H<+:H1->WOK W->1<=W.length->W.length<=5->wpSs Φ (m_law_rows_by.body.drop 2) [some (.ref k),some (.ref H.length),some (.ref j),none] H1 (endOf Q):=by
  intro j W H1 hj g1 g2 hp hw w1 w5
  have s1:(W.map T).sum<=100:=Nat.le_trans (sum_le fun w hw'=>(T_all (hw w hw')).2.2.1) (by walk_at "om")
  have s2:(W.map T2).sum<=35:=Nat.le_trans (sum_le fun w hw'=>(T_all (hw w hw')).2.2.2.1) (by walk_at "om")
  have hne:W≠[]:=by rintro rfl;simp at w1
  simp only [m_law_rows_by,List.drop]
  walk_at "wp"
  refine cel_at (pre_at hp hk) hc hn (by walk_at "om") (by walk_at "om") fun x x0 x1=>?_
  walk_at "go"
  (simp only [fmod_nn,fdiv_nn,Int.reduceLE])
  refine sp_d (fun _=>?_) (fun _=>?_)
  ·walk_at "wp"
   refine cel_at (pre_at hp hk) hc hn (by walk_at "om") (by walk_at "om") fun x x0 x1=>?_
   walk_at "go"
   rw [fdiv_nn (by walk_at "om")]
   refine c1 (x/4) H1 _ (by walk_at "om") fun r hr rt r3' nok=>?_
   walk_at "wp"
   refine row_at0 ?_
   walk_at "wp"
   refine set_dic g1 (by simp) ?_
   have e1:dset [] r.num r.av=[(r.num,r.av)]:=rfl
   rw [e1]
   generalize hH2:H1.set H.length (.dict [(r.num,r.av)])=H2
   have g12:H2[H.length]?=some (.dict [(r.num,r.av)]):=by rw [←hH2];exact get_set_eq g1
   have g22:H2[j]?=some (.list (wI W)):=by rw [←hH2,get_set_ne (by walk_at "om")];exact g2
   have hp2:H<+:H2:=by rw [←hH2];exact pre_set hp (Nat.le_refl _)
   walk_at "wp"
   refine ⟨isL_ref g22,?_⟩
   refine c3 r H2 _ hr ?_
   walk_at "wp"
   refine x0_3 (nok) fun nk1 nk2 nk3=>?_
   clear nok
   have ew:wI W++r.needs.map .int=wI (W++r.needs.map Int.toNat):=by
    simp only [wI,List.map_append,List.map_map,List.append_cancel_left_eq]
    refine List.map_congr_left fun q hq=>?_
    have:=nk1 q hq
    simp only [Function.comp]
    congr 1;(first|lia|omega)
   have hwn:WOK (r.needs.map Int.toNat):=fun w hw=>by
    refine x1_2 (List.mem_map.mp hw) fun q hq eQ2=>?_
    subst eQ2
    have:=nk1 q hq
    exact ⟨by (first|lia|omega),.inl (by (first|lia|omega))⟩
   have hnl:=T_len hwn
   rw [List.length_map] at hnl
   refine ext_at (pre_at pre_new g22) at_new (by simp [wI];(first|lia|omega)) ?_
   rw [ew]
   simp only [k_exp,thenS_next,ss_nil]
   refine r3 j [(r.num,r.av)] (W++r.needs.map Int.toNat) _ _ hj (by rw [get_set_ne (by walk_at "om")];exact pre_at pre_new g12) (get_set_eq (pre_at pre_new g22)) (pre_set (hp2.trans pre_new) (by walk_at "om")) ⟨?_,?_,?_,?_,.inl (by simp),by simp,fun h40 s hs q hq=>?_⟩ ?_ ?_
   ·intro e he;rw [List.mem_singleton.mp he];exact ⟨r,hr,rt,rfl,rfl⟩
   ·simp only [o2,List.countP_cons,List.countP_nil];split<;>(first|lia|omega)
   ·intro w hw'
    rcases List.mem_append.mp hw' with hw'|hw'
    ·exact hw w hw'
    ·exact hwn w hw'
   ·simp only [n2,List.countP_cons,List.countP_nil,List.map_append,List.sum_append];split<;>(first|lia|omega)
   ·rw [needs_inj (congrArg Prod.snd (List.mem_singleton.mp hs))] at hq
    exact .inr ⟨q.toNat,List.mem_append_right _ (List.mem_map.mpr ⟨q,hq,rfl⟩),Int.toNat_of_nonneg (by have:=nk1 q hq;(first|lia|omega))⟩
   ·simp only [n2,List.countP_cons,List.countP_nil,List.map_append,List.sum_append];split<;>(first|lia|omega)
   ·simp only [List.map_append,List.sum_append];(first|lia|omega)
  ·simp only [k_itef,ss_nil,thenS_next]
   exact r3 j [] W none H1 hj g1 g2 hp ⟨(fun e he=>by cases he),by simp [o2],hw,(by simp [n2];(first|lia|omega)),.inr hne,by simp,(fun _ s hs=>by cases hs)⟩ (by simp [n2];(first|lia|omega)) (by walk_at "om")
 ((refine ⟨rfl,?_⟩;simp only [lst,Nat.reduceSub,Nat.sub_self,List.replicate]))
 simp only [m_law_rows_by]
 walk_at "wp"
 refine cel_at (pre_at pre_new hk) hc hn (by walk_at "om") (by walk_at "om") fun x x0 x1=>?_
 walk_at "go"
 (simp only [fmod_nn,fdiv_nn,Int.reduceLE])
 refine ⟨by walk_at "om",by walk_at "om",?_⟩
 refine ⟨by rw [List.length_map,List.length_range];exact szL (by walk_at "om"),fun i l H'=>∃ W:List Nat,l=wI W/\W.length=i/\WOK W/\(H++[AObj.dict []])<+:H',⟨[],rfl,rfl,(fun w hw=>by cases hw),List.prefix_refl _⟩,?_⟩
 rintro i l H' ⟨W,rfl,hi,hw,hp⟩
 have hp0:H<+:H':=pre_new.trans hp
 refine ⟨trivial,fun y hy=>?_,fun hi'=>?_⟩
 ·have hlt:i<(1+x%5).toNat:=by
   have:=(List.getElem?_eq_some_iff.mp hy).1
   simpa using this
  rw [List.getElem?_map,List.getElem?_range (by simpa using hlt)] at hy
  simp only [Option.map_some,Option.some.injEq] at hy
  subst hy
  refine ⟨[.int i],rfl,?_⟩
  rw [cs_nil]
  simp only [if_true]
  walk_at "wp"
  refine cel_at (pre_at hp0 hk) hc hn (by walk_at "om") (by walk_at "om") fun y y0 y1=>?_
  walk_at "go"
  refine cel_at (pre_at (hp0.trans pre_new) hk) hc hn (by walk_at "om") (by walk_at "om") fun z z0 z1=>?_
  walk_at "go"
  (simp only [fmod_nn,fdiv_nn,Int.reduceLE])
  refine idx_any at_new (by (first|exact Nat.le_of_ble_eq_true rfl|simp)) (by walk_at "om") (by (first|exact Int.emod_lt_of_pos _ (by decide)|(simp;omega))) fun u hu=>?_
  have:∃ m:Int,u=.int m/\0<m/\m<=398:=by
   simp only [List.mem_cons,List.not_mem_nil,or_false] at hu
   rcases hu with rfl|rfl<;>exact ⟨_,rfl,by decide,by decide⟩
  refine x1_3 (this) fun m eQ1 m0 m1=>?_
  clear this
  subst eQ1
  walk_at "wp"
  refine ⟨by walk_at "om",?_⟩
  rw [fmod_nn (by walk_at "om")]
  have b0:=Int.emod_nonneg (y/6) (show m≠0 by walk_at "om")
  have b1:=Int.emod_lt_of_pos (y/6) m0
  generalize y/6%m=q at b0 b1
  refine ⟨W++[(2+q).toNat],?_,by simp [hi],fun w hw'=>?_,hp.trans pre_new⟩
  ·simp only [wI,List.map_append,List.map_cons,List.map_nil]
   congr 2
   rw [Int.toNat_of_nonneg (by walk_at "om")]
  ·rcases List.mem_append.mp hw' with hw'|hw'
   ·exact hw w hw'
   ·rw [List.mem_singleton.mp hw'];exact ⟨by (first|lia|omega),.inl (by (first|lia|omega))⟩
 ·have hil:i=(1+x%5).toNat:=by simpa using hi'
  simp only [k_asg,thenS_next,List.set_cons_zero,List.set_cons_succ]
  refine r2 H'.length W _ ?_ (pre_at pre_new (pre_at hp at_new)) at_new (hp0.trans pre_new) hw (by walk_at "om") (by walk_at "om")
  have:=hp.length_le
  simp at this;(first|lia|omega)
theorem cleans_psT (ps:List (Int×Int)):cleans (ps.map prAV)=true:=by
 induction ps with
 | nil=>rfl
 | cons p ps ih=>simp only [List.map_cons,prAV,cleans,clean,ih,Bool.and_self]
theorem av_clean (r:Rw):clean r.av=true:=by
 cases r<;>simp only [Rw.av,psT,clean,cleans,cleans_psT,Bool.and_self]
theorem avs_clean (rs:List Rw):cleans (rs.map Rw.av)=true:=by
 induction rs with
 | nil=>rfl
 | cons r rs ih=>simp only [List.map_cons,cleans,av_clean,ih,Bool.and_self]
theorem psT_clean (ps:List (Int×Int)):clean (psT ps)=true:=by simp only [psT,clean,cleans_psT]
end
section
open PySem
set_option maxHeartbeats 2000000
noncomputable def m_holds:MF:=⟨2,6,
 [.asgT [2,3,4] (.loc 0),
 .ite (.cmp .eq (.loc 3) (.cst (.str "first"))) [.ret (.cmp .eq (.loc 2) (.cst (.int 2)))] [],
 .ite (.cmp .eq (.loc 3) (.cst (.str "prime"))) [.ret (.call "holds_prime" [.loc 2,.idx (.loc 4) (.cst (.int 0)),.idx (.loc 4) (.cst (.int 1)),.loc 1])] [],
 .ite (.cmp .eq (.loc 3) (.cst (.str "split"))) [.ret (.cmp .eq (.bin .mul (.idx (.loc 4) (.cst (.int 0))) (.idx (.loc 4) (.cst (.int 1)))) (.loc 2))] [],
 .asg 5 (.idx (.loc 4) (.cst (.int 0))),
 .ite (.cmp .eq (.loc 3) (.cst (.str "power"))) [.ret (.and2 (.cmp .lt (.loc 5) (.loc 2)) (.cmp .ne (.call "powered" [.loc 5,.bin .sub (.loc 2) (.cst (.int 1)),.loc 2]) (.cst (.int 1))))] [],
 .ret (.and2 (.cmp2 .lt .lt (.cst (.int 1)) (.loc 5) (.bin .sub (.loc 2) (.cst (.int 1)))) (.cmp .eq (.bin .mod (.bin .mul (.loc 5) (.loc 5)) (.loc 2)) (.cst (.int 1))))]⟩
noncomputable def m_law_tells:MF:=⟨1,1,
 [.ret (.or2 (.cmp .eq (.idx (.loc 0) (.cst (.int 1))) (.cst (.str "first"))) (.cmp .eq (.idx (.loc 0) (.cst (.int 1))) (.cst (.str "prime"))))]⟩
inductive Fc where
 | first
 | prime (b:Int) (ps:List (Int×Int))
 | split (a b:Int)
 | power (b:Int)
 | root (b:Int)
noncomputable def Fc.word:Fc->Str
 | .first => "first"
 | .prime _ _ => "prime"
 | .split _ _ => "split"
 | .power _ => "power"
 | .root _ => "root"
noncomputable def Fc.facts:Fc->List AV
 | .first=>[]
 | .prime b ps=>[.int b,psT ps]
 | .split a b=>[.int a,.int b]
 | .power b=>[.int b]
 | .root b=>[.int b]
noncomputable def roA (n:Int) (f:Fc):AV:=.tup [.int n,.str f.word,.tup f.facts]
noncomputable def PsK (k:Nat) (ps:List (Int×Int)):Prop:=ps≠[]/\ps.length<=10+k/\∀ p∈ps,2<=p.1/\p.1<=1000000+10*k/\1<=p.2/\p.2<=100
noncomputable def bK (k:Nat) (b:Int):Prop:=1<=b/\b<=10^30
noncomputable def sK (k:Nat) (b:Int):Prop:=2<=b/\b<=10^16+k
noncomputable def Fc.ok (k:Nat):Fc->Prop
 | .first=>True
 | .prime b ps=>bK k b/\PsK k ps/\Ris ps
 | .split a b=>sK k a/\sK k b
 | .power b=>bK k b
 | .root b=>bK k b
noncomputable def RoK (k:Nat) (n:Int) (f:Fc):Prop:=k<=50/\2<=n/\n<=10^30-2000+k/\f.ok k
noncomputable def Fc.needs:Fc->List Int
 | .prime _ ps=>ps.map (·.1)
 | _=>[]
noncomputable def Fc.tells:Fc->Bool
 | .first=>true
 | .prime _ _=>true
 | _=>false
theorem w_first {f:Fc}(h:(f.word == "first")=true):f=.first:=by
 cases f<;>first|rfl|(simp only [Fc.word] at h;exact absurd h (by decide))
theorem w_prime {f:Fc}(h:(f.word == "prime")=true):∃ b ps,f=.prime b ps:=by
 cases f<;>first|exact ⟨_,_,rfl⟩|(simp only [Fc.word] at h;exact absurd h (by decide))
theorem w_split {f:Fc}(h:(f.word == "split")=true):∃ a b,f=.split a b:=by
 cases f<;>first|exact ⟨_,_,rfl⟩|(simp only [Fc.word] at h;exact absurd h (by decide))
theorem bK_abs {k:Nat}{b:Int}(hk:k<=50) (h:bK k b):b.natAbs<2^200:=by
 refine x0_2 (h) fun h0 h1=>?_
 clear h
 have:b.natAbs<10^32:=by (first|lia|omega)
 exact Nat.lt_of_lt_of_le this (by decide)
theorem sK_abs {k:Nat}{b:Int}(hk:k<=50) (h:sK k b):b.natAbs<2^200:=by
 refine x0_2 (h) fun h0 h1=>?_
 clear h
 have:b.natAbs<10^32:=by (first|lia|omega)
 exact Nat.lt_of_lt_of_le this (by decide)
theorem tells {Φ:Fun}{n:Int}{f:Fc}{H:Hp}{Q:PQ}(h:Q (.bool f.tells) H):wpF Φ m_law_tells [roA n f] H Q:=by
 unfold roA
 ((refine ⟨rfl,?_⟩;simp only [lst,Nat.reduceSub,Nat.sub_self,List.replicate]))
 simp only [m_law_tells]
 walk_at "go"
 refine sp_b (fun h1=>?_) (fun h1=>?_)
 ·rw [w_first h1] at h
  walk_at "wp"
  exact h
 ·walk_at "go"
  have:f.tells=(f.word == "prime"):=by cases f<;>simp only [Fc.word,Fc.tells] at h1 ⊢<;>first|decide|exact absurd h1 (by decide)
  rw [this] at h;exact h
end
section
open PySem
set_option maxHeartbeats 2000000
noncomputable def Fc.holds (n:Int) (pr:List Int):Fc->Bool
 | .first=>decide (n=2)
 | .prime b ps=>(ps.all fun p=>pr.contains p.1)&&(decide (prodI ps=n-1)&&(decide (b<n)&&roundB n b ps))
 | .split a b=>decide (a*b=n)
 | .power b=>decide (b<n)&&!decide (pw b (n-1) n=1)
 | .root b=>(decide (1<b)&&decide (b<n-1))&&decide (b*b%n=1)
noncomputable def SHp (Φ:Fun):Prop:=∀ (k j:Nat) (n b:Int) (ps:List (Int×Int)) (pr:List Int) (H:Hp) (Q:PQ),H[j]?=some (.list (pr.map .int))->RoK k n (.prime b ps)->(∀ H',H<+:H'->Q (.bool ((Fc.prime b ps).holds n pr)) H')->Φ "holds_prime" [.int n,.int b,psT ps,.ref j] H Q
theorem w_two {f:Fc}(h1:(f.word == "first")=false) (h2:(f.word == "prime")=false) (h3:(f.word == "split")=false):(∃ b,f=.power b)\/∃ b,f=.root b:=by
 cases f with
 | power b=>exact .inl ⟨b,rfl⟩
 | root b=>exact .inr ⟨b,rfl⟩
 | first=>exact absurd h1 (by decide)
 | prime=>simp only [Fc.word] at h2;exact absurd h2 (by decide)
 | split=>simp only [Fc.word] at h3;exact absurd h3 (by decide)
theorem holds {Φ:Fun}(c1:SHp Φ) (c2:SPow Φ){k j:Nat}{n:Int}{f:Fc}{pr:List Int}{H:Hp}{Q:PQ}(hj:H[j]?=some (.list (pr.map .int))) (hr:RoK k n f) (h:∀ H',H<+:H'->Q (.bool (f.holds n pr)) H'):wpF Φ m_holds [roA n f,.ref j] H Q:=by
 refine x0_4 (id hr) fun hk n0 n1 hf=>?_
 have hn:n<=10^32:=by (first|lia|omega)
 have h0:=h H (List.prefix_refl _)
 unfold roA
 ((refine ⟨rfl,?_⟩;simp only [lst,Nat.reduceSub,Nat.sub_self,List.replicate]))
 simp only [m_holds]
 walk_at "go"
 refine sp_b (fun h1=>?_) (fun h1=>?_)
 ·obtain rfl:=w_first h1
  walk_at "wp"
  exact h0
 walk_at "wx"
 refine sp_b (fun h2=>?_) (fun h2=>?_)
 ·refine x2_1 (w_prime h2) fun b ps eQ2=>?_
  subst eQ2
  simp only [Fc.facts]
  walk_at "go"
  exact c1 k j n b ps pr H _ hj hr h
 walk_at "wp"
 refine sp_b (fun h3=>?_) (fun h3=>?_)
 ·refine x2_1 (w_split h3) fun a b eQ2=>?_
  subst eQ2
  simp only [Fc.facts]
  walk_at "go"
  refine ⟨mulOk_200 (sK_abs hk hf.1) (sK_abs hk hf.2),?_⟩
  walk_at "wp"
  exact h0
 walk_at "wp"
 rcases w_two h1 h2 h3 with ⟨b,rfl⟩|⟨b,rfl⟩
 ·simp only [Fc.facts,Fc.word]
  walk_at "go"
  refine sp_b (fun h4=>?_) (fun h4=>absurd h4 (by decide))
  walk_at "wp"
  refine sp_d (fun h5=>?_) (fun h5=>?_)
  ·walk_at "wp"
   refine c2 b (n-1) n _ _ (by walk_at "om") (by walk_at "om") hn ?_
   walk_at "wp"
   simp only [Fc.holds,decide_eq_true h5,Bool.true_and] at h0
   exact h0
  ·walk_at "wp"
   simp only [Fc.holds,decide_eq_false h5,Bool.false_and] at h0
   exact h0
 ·simp only [Fc.facts,Fc.word]
  walk_at "go"
  refine sp_b (fun h4=>absurd h4 (by decide)) (fun h4=>?_)
  have kb:=bK_abs hk hf
  walk_at "wp"
  refine sp_d (fun h5=>?_) (fun h5=>?_)
  ·walk_at "wp"
   refine sp_d (fun h6=>?_) (fun h6=>?_)
   ·walk_at "wp"
    refine ⟨mulOk_200 kb kb,by walk_at "om",?_⟩
    simp only [fmod_nn (show (0:Int)<=n by walk_at "om")]
    simp only [Fc.holds,decide_eq_true h5,decide_eq_true h6,Bool.true_and] at h0
    exact h0
   ·walk_at "wp"
    simp only [Fc.holds,decide_eq_false h6,Bool.and_false,Bool.false_and] at h0
    exact h0
  ·walk_at "wp"
   simp only [Fc.holds,decide_eq_false h5,Bool.false_and] at h0
   exact h0
end
section
open PySem
set_option maxHeartbeats 2000000
theorem Fc.up {k:Nat}{f:Fc}(h:f.ok k):f.ok (k+1):=by
 have b1:∀ {b:Int},sK k b->sK (k+1) b:=fun h=>⟨h.1,by have:=h.2;(first|lia|omega)⟩
 cases f with
 | first=>trivial
 | prime b ps=>exact ⟨h.1,⟨h.2.1.1,by have:=h.2.1.2.1;(first|lia|omega),fun p hp=>by have:=h.2.1.2.2 p hp;(first|lia|omega)⟩,h.2.2⟩
 | split a b=>exact ⟨b1 h.1,b1 h.2⟩
 | power b=>exact h
 | root b=>exact h
theorem RoK.up {k:Nat}{n:Int}{f:Fc}(h:RoK k n f) (hk:k<50):RoK (k+1) n f:=⟨by (first|lia|omega),h.2.1,by have:=h.2.2.1;(first|lia|omega),f.up h.2.2.2⟩
theorem wl_at {H:Hp}{j:Nat}{l:List AV}{K:List AV->Prop}(h:H[j]?=some (.list l)) (k:K l):withL (seqL H (.ref j)) K:=by
 rw [show seqL H (.ref j)=some l by simp [seqL,h]];exact k
noncomputable def roP (r:Int×Fc):AV:=roA r.1 r.2
noncomputable def RsK (k:Nat) (rs:List (Int×Fc)):Prop:=rs≠[]/\rs.length<=63/\(∀ r∈rs,RoK k r.1 r.2)/\(rs.map (·.1)).Pairwise (·<·)
end
section
open PySem
set_option maxHeartbeats 2000000
noncomputable def c_BOUND:AV:=.int 1000000000000000000000000000000
noncomputable def c_WORDS:AV:=.tup [.str "first",.str "prime",.str "split",.str "power",.str "root"]
noncomputable def c_MOST_TIMES:AV:=.int 100
noncomputable def m_is_whole:MF:=⟨3,3,
 [.ret (.and2 (.isi (.loc 0) .int) (.and2 (.not (.isi (.loc 0) .bool)) (.cmp2 .le .le (.loc 1) (.loc 0) (.loc 2))))]⟩
noncomputable def m_are_powers:MF:=⟨1,3,
 [.ite (.or2 (.not (.isi (.loc 0) .tuple)) (.cmp .eq (.bi .len [.loc 0]) (.cst (.int 0)))) [.ret (.cst (.bool false))] [],
 .asg 1 (.cst (.int 1)),
 .forr false [2] .plain [.loc 0] [.ite (.or2 (.not (.isi (.loc 2) .tuple)) (.cmp .ne (.bi .len [.loc 2]) (.cst (.int 2)))) [.ret (.cst (.bool false))] [],
  .ite (.or2 (.not (.call "is_whole" [.idx (.loc 2) (.cst (.int 0)),.bin .add (.loc 1) (.cst (.int 1)),.cst c_BOUND])) (.not (.call "is_whole" [.idx (.loc 2) (.cst (.int 1)),.cst (.int 1),.cst c_MOST_TIMES]))) [.ret (.cst (.bool false))] [],
  .asg 1 (.idx (.loc 2) (.cst (.int 0)))],
 .ret (.cst (.bool true))]⟩
noncomputable def m_are_facts:MF:=⟨2,2,
 [.ite (.cmp .eq (.loc 0) (.cst (.str "first"))) [.ret (.cmp .eq (.bi .len [.loc 1]) (.cst (.int 0)))] [],
 .ite (.cmp .eq (.loc 0) (.cst (.str "prime"))) [.ret (.and2 (.cmp .eq (.bi .len [.loc 1]) (.cst (.int 2))) (.and2 (.call "is_whole" [.idx (.loc 1) (.cst (.int 0)),.cst (.int 1),.cst c_BOUND]) (.call "are_powers" [.idx (.loc 1) (.cst (.int 1))])))] [],
 .ite (.cmp .eq (.loc 0) (.cst (.str "split"))) [.ret (.and2 (.cmp .eq (.bi .len [.loc 1]) (.cst (.int 2))) (.and2 (.call "is_whole" [.idx (.loc 1) (.cst (.int 0)),.cst (.int 2),.cst c_BOUND]) (.call "is_whole" [.idx (.loc 1) (.cst (.int 1)),.cst (.int 2),.cst c_BOUND])))] [],
 .ret (.and2 (.cmp .eq (.bi .len [.loc 1]) (.cst (.int 1))) (.call "is_whole" [.idx (.loc 1) (.cst (.int 0)),.cst (.int 1),.cst c_BOUND]))]⟩
noncomputable def m_is_row:MF:=⟨1,1,
 [.ite (.or2 (.not (.isi (.loc 0) .tuple)) (.or2 (.cmp .ne (.bi .len [.loc 0]) (.cst (.int 3))) (.not (.call "is_whole" [.idx (.loc 0) (.cst (.int 0)),.cst (.int 2),.cst c_BOUND])))) [.ret (.cst (.bool false))] [],
 .ite (.or2 (.not (.isi (.idx (.loc 0) (.cst (.int 1))) .str)) (.or2 (.cmp .notIn (.idx (.loc 0) (.cst (.int 1))) (.cst c_WORDS)) (.not (.isi (.idx (.loc 0) (.cst (.int 2))) .tuple)))) [.ret (.cst (.bool false))] [],
 .ret (.call "are_facts" [.idx (.loc 0) (.cst (.int 1)),.idx (.loc 0) (.cst (.int 2))])]⟩
noncomputable def m_law_rising:MF:=⟨1,3,
 [.asg 1 (.cst (.int 1)),
 .forr false [2] .plain [.loc 0] [.ite (.or2 (.not (.isi (.loc 2) .tuple)) (.or2 (.cmp .ne (.bi .len [.loc 2]) (.cst (.int 2))) (.not (.call "_law_within" [.idx (.loc 2) (.cst (.int 0)),.bin .add (.loc 1) (.cst (.int 1)),.bin .pow (.cst (.int 10)) (.cst (.int 30))])))) [.ret (.cst (.bool false))] [],
  .ite (.not (.call "_law_within" [.idx (.loc 2) (.cst (.int 1)),.cst (.int 1),.cst (.int 100)])) [.ret (.cst (.bool false))] [],
  .asg 1 (.idx (.loc 2) (.cst (.int 0)))],
 .ret (.cst (.bool true))]⟩
noncomputable def m_law_within:MF:=⟨3,3,
 [.ret (.and2 (.isi (.loc 0) .int) (.and2 (.not (.isi (.loc 0) .bool)) (.cmp2 .le .le (.loc 1) (.loc 0) (.loc 2))))]⟩
noncomputable def m_law_row_right:MF:=⟨1,2,
 [.ite (.or2 (.not (.isi (.loc 0) .tuple)) (.or2 (.cmp .ne (.bi .len [.loc 0]) (.cst (.int 3))) (.not (.call "_law_within" [.idx (.loc 0) (.cst (.int 0)),.cst (.int 2),.bin .pow (.cst (.int 10)) (.cst (.int 30))])))) [.ret (.cst (.bool false))] [],
 .ite (.or2 (.not (.isi (.idx (.loc 0) (.cst (.int 1))) .str)) (.not (.isi (.idx (.loc 0) (.cst (.int 2))) .tuple))) [.ret (.cst (.bool false))] [],
 .asg 1 (.idx (.loc 0) (.cst (.int 2))),
 .ite (.cmp .eq (.idx (.loc 0) (.cst (.int 1))) (.cst (.str "first"))) [.ret (.cmp .eq (.loc 1) (.tup []))] [],
 .ite (.cmp .eq (.idx (.loc 0) (.cst (.int 1))) (.cst (.str "split"))) [.ret (.and2 (.cmp .eq (.bi .len [.loc 1]) (.cst (.int 2))) (.and2 (.call "_law_within" [.idx (.loc 1) (.cst (.int 0)),.cst (.int 2),.bin .pow (.cst (.int 10)) (.cst (.int 30))]) (.call "_law_within" [.idx (.loc 1) (.cst (.int 1)),.cst (.int 2),.bin .pow (.cst (.int 10)) (.cst (.int 30))])))] [],
 .ite (.or2 (.cmp .eq (.idx (.loc 0) (.cst (.int 1))) (.cst (.str "power"))) (.cmp .eq (.idx (.loc 0) (.cst (.int 1))) (.cst (.str "root")))) [.ret (.and2 (.cmp .eq (.bi .len [.loc 1]) (.cst (.int 1))) (.call "_law_within" [.idx (.loc 1) (.cst (.int 0)),.cst (.int 1),.bin .pow (.cst (.int 10)) (.cst (.int 30))]))] [],
 .ite (.or2 (.cmp .ne (.idx (.loc 0) (.cst (.int 1))) (.cst (.str "prime"))) (.or2 (.cmp .ne (.bi .len [.loc 1]) (.cst (.int 2))) (.not (.call "_law_within" [.idx (.loc 1) (.cst (.int 0)),.cst (.int 1),.bin .pow (.cst (.int 10)) (.cst (.int 30))])))) [.ret (.cst (.bool false))] [],
 .ret (.and2 (.isi (.idx (.loc 1) (.cst (.int 1))) .tuple) (.and2 (.cmp .gt (.bi .len [.idx (.loc 1) (.cst (.int 1))]) (.cst (.int 0))) (.call "_law_rising" [.idx (.loc 1) (.cst (.int 1))])))]⟩
noncomputable def BIG:Int:=1000000000000000000000000000000
noncomputable def whB (v:AV) (a b:Int):Bool:=match v with|.int k=>decide (a<=k)&&decide (k<=b)|_=>false
noncomputable def risB:Int->List AV->Bool
 | _,[]=>true
 | a,.tup [.int q,t]::r=>whB (.int q) (a+1) BIG&&whB t 1 100&&risB q r
 | _,_=>false
noncomputable def powB (v:AV):Bool:=match v with|.tup (x::r)=>risB 1 (x::r)|_=>false
noncomputable def facB (w:Str) (f:List AV):Bool :=
 if w == "first" then decide ((f.length:Int)=0)
 else if w == "prime" then (match f with|[a,p]=>whB a 1 BIG&&powB p|_=>false)
 else if w == "split" then (match f with|[a,b]=>whB a 2 BIG&&whB b 2 BIG|_=>false)
 else (match f with|[a]=>whB a 1 BIG|_=>false)
noncomputable def wordsL:List Str:=["first", "prime", "split", "power", "root"]
noncomputable def rowB (v:AV):Bool:=match v with|.tup [n,.str w,.tup f]=>whB n 2 BIG&&wordsL.contains w&&facB w f|_=>false
inductive Gd (H:Hp):Nat->AV->Prop
 | none {n}:Gd H n .none
 | int {n k}:Gd H n (.int k)
 | bool {n b}:Gd H n (.bool b)
 | str {n x}:Gd H n (.str x)
 | tup {n l}:l.length<=10000000->(∀ x∈l,Gd H n x)->Gd H (n+1) (.tup l)
 | ref {n i l}:H[i]?=some (.list l)->(∀ x∈l,Gd H n x)->Gd H (n+1) (.ref i)
theorem Gd.up {H:Hp}{n:Nat}{v:AV}(g:Gd H n v):∀ {m},n<=m->Gd H m v:=by
 induction g with
 | none=>intros;exact .none
 | int=>intros;exact .int
 | bool=>intros;exact .bool
 | str=>intros;exact .str
 | tup h _ ih=>intro m hm;obtain ⟨k,rfl⟩:∃ k,m=k+1:=⟨m-1,by walk_at "om"⟩;exact .tup h fun x hx=>ih x hx (by walk_at "om")
 | ref h _ ih=>intro m hm;obtain ⟨k,rfl⟩:∃ k,m=k+1:=⟨m-1,by walk_at "om"⟩;exact .ref h fun x hx=>ih x hx (by walk_at "om")
theorem Gd.grow {H H':Hp}{n:Nat}{v:AV}(p:H<+:H') (g:Gd H n v):Gd H' n v:=by
 induction g with
 | none=>exact .none
 | int=>exact .int
 | bool=>exact .bool
 | str=>exact .str
 | tup h _ ih=>exact .tup h ih
 | ref h _ ih=>exact .ref (pre_at p h) ih
theorem Gd.len {H:Hp}{n:Nat}{l:List AV}(g:Gd H n (.tup l)):l.length<=10000000:=by cases g;assumption
theorem Gd.mem {H:Hp}{n:Nat}{l:List AV}(g:Gd H (n+1) (.tup l)):∀ x∈l,Gd H n x:=by cases g;assumption
theorem datRs_all {ρ:Nat->Option PyData}{n:Nat}:∀ {l:List AV},(∀ x∈l,∃ d,datR ρ x=some d/\d.depth<=n)->∃ ds,datRs ρ l=some ds/\PyData.depthAll ds<=n
 | [],_=>⟨[],rfl,Nat.zero_le _⟩
 | x::l,h=>by
  refine x1_2 (h x (by simp)) fun d h1 h2=>?_
  refine x1_2 (datRs_all (l:=l) fun y hy=>h y (by simp [hy])) fun ds h3 h4=>?_
  exact ⟨d::ds,by simp [datRs,h1,h3],by simp only [PyData.depthAll];(first|lia|omega)⟩
theorem Gd.dat {H:Hp}{n:Nat}{v:AV}(g:Gd H n v):∀ {m},n<=m->∃ d,datR (rho H m) v=some d/\d.depth<=n:=by
 induction g with
 | none=>intros;exact ⟨.none,rfl,by simp [PyData.depth]⟩
 | int=>intros;exact ⟨.int _,rfl,by simp [PyData.depth]⟩
 | bool=>intros;exact ⟨.bool _,rfl,by simp [PyData.depth]⟩
 | str=>intros;exact ⟨.str _,rfl,by simp [PyData.depth]⟩
 | tup h _ ih =>
  intro m hm
  refine x1_2 (datRs_all fun x hx=>ih x hx (m:=m) (by walk_at "om")) fun ds h1 h2=>?_
  exact ⟨.tuple ds,by simp [datR,h1],by simp only [PyData.depth];(first|lia|omega)⟩
 | ref h _ ih =>
  intro m hm
  obtain ⟨k,rfl⟩:∃ k,m=k+1:=⟨m-1,by walk_at "om"⟩
  refine x1_2 (datRs_all fun x hx=>ih x hx (m:=k) (by walk_at "om")) fun ds h1 h2=>?_
  exact ⟨.list ds,by simp [datR,rho,h,h1],by simp only [PyData.depth];(first|lia|omega)⟩
noncomputable def SWh (f:Str) (Φ:Fun):Prop:=∀ (v:AV) (a b:Int) (H:Hp) (Q:PQ),Q (.bool (whB v a b)) H->Φ f [v,.int a,.int b] H Q
theorem is_whole {Φ:Fun}{v:AV}{a b:Int}{H:Hp}{Q:PQ}(h:Q (.bool (whB v a b)) H):wpF Φ m_is_whole [v,.int a,.int b] H Q:=by
 ((refine ⟨rfl,?_⟩;simp only [lst,Nat.reduceSub,Nat.sub_self,List.replicate]))
 simp only [m_is_whole]
 walk_at "wp"
 cases v with
 | int k =>
  simp only [isi]
  walk_at "wp"
  simp only [isi]
  walk_at "wp"
  refine sp_d (fun h1=>?_) (fun h1=>?_)
  ·walk_at "wp"
   simpa [whB,h1] using h
  ·walk_at "wp"
   simpa [whB,h1] using h
 | bool k =>
  simp only [isi]
  walk_at "wp"
  simp only [isi]
  walk_at "wp"
  exact h
 | _ =>
  simp only [isi]
  walk_at "wp"
  exact h
theorem within {Φ:Fun}{v:AV}{a b:Int}{H:Hp}{Q:PQ}(h:Q (.bool (whB v a b)) H):wpF Φ m_law_within [v,.int a,.int b] H Q:=is_whole h
theorem drop_at {l:List AV}{i:Nat}{y:AV}(h:l[i]?=some y):l.drop i=y::l.drop (i+1):=by
 refine x1_1 (List.getElem?_eq_some_iff.mp h) fun hi e=>?_
 rw [List.drop_eq_getElem_cons hi,e]
theorem risB_no {a:Int}{r:List AV}{y:AV}(h:∀ q t,y≠.tup [q,t]):risB a (y::r)=false:=by
 cases y with
 | tup p =>
  match p,h with
  | [],_=>rfl
  | [x],_=>cases x<;>rfl
  | [q,t],h=>exact absurd rfl (h q t)
  | x::_::_::_,_=>cases x<;>rfl
 | _=>rfl
theorem risB_two {a k:Int}{r:List AV}{t:AV}:risB a (.tup [.int k,t]::r)=(whB (.int k) (a+1) BIG&&whB t 1 100&&risB k r):=rfl
theorem risB_nint {a:Int}{r:List AV}{q t:AV}(h:∀ k,q≠.int k):risB a (.tup [q,t]::r)=false:=by
 cases q<;>first|rfl|exact absurd rfl (h _)
theorem two_or (y:AV):(∃ q t,y=.tup [q,t])\/((∀ q t,y≠.tup [q,t])/\((∃ p,y=.tup p/\p.length≠2)\/∀ H,isi H y .tuple=false)):=by
 cases y with
 | tup p =>
  match p with
  | [q,t]=>exact .inl ⟨q,t,rfl⟩
  | []=>exact .inr ⟨fun _ _ e=>(by cases e),.inl ⟨_,rfl,by simp⟩⟩
  | [_]=>exact .inr ⟨fun _ _ e=>(by cases e),.inl ⟨_,rfl,by simp⟩⟩
  | _::_::_::r=>exact .inr ⟨fun _ _ e=>(by cases e),.inl ⟨_,rfl,by simp⟩⟩
 | _=>exact .inr ⟨fun _ _ e=>(by cases e),.inr fun _=>rfl⟩
theorem whB_int {q:AV}{a b:Int}(h:whB q a b=true):∃ k,q=.int k:=by
 cases q<;>first|exact ⟨_,rfl⟩|cases h
noncomputable def SPw (f:Str) (Φ:Fun):Prop:=∀ (v:AV) (n:Nat) (H:Hp) (Q:PQ),Gd H n v->Q (.bool (powB v)) H->Φ f [v] H Q
theorem are_powers {Φ:Fun}(c:SWh "is_whole" Φ){v:AV}{n:Nat}{H:Hp}{Q:PQ}(g:Gd H n v) (h:Q (.bool (powB v)) H):wpF Φ m_are_powers [v] H Q:=by
 ((refine ⟨rfl,?_⟩;simp only [lst,Nat.reduceSub,Nat.sub_self,List.replicate]))
 simp only [m_are_powers]
 walk_at "wp"
 cases v with
 | tup l =>
  simp only [isi]
  walk_at "wp"
  refine ⟨by have:=g.len;(first|lia|omega),?_⟩
  refine sp_d (fun h0=>?_) (fun h0=>?_)
  ·walk_at "wp"
   have:l=[]:=List.length_eq_zero_iff.mp (by walk_at "om")
   subst this;exact h
  ·walk_at "wp"
   have hp:powB (.tup l)=risB 1 l:=by cases l with|nil=>simp at h0|cons=>rfl
   rw [hp] at h
   refine for_intro (fun i loc H'=>∃ (a:Int) (o:Option AV),H'=H/\loc=[some (.tup l),some (.int a),o]/\risB a (l.drop i)=risB 1 l) ⟨1,none,rfl,rfl,by simp⟩ ?_
   rintro i loc H' ⟨a,o,rfl,rfl,hr⟩
   refine ⟨trivial,fun y hy=>?_,fun hi=>?_⟩
   ·rw [drop_at hy] at hr
    refine ⟨[y],rfl,?_⟩
    have gy:y∈l:=List.mem_of_getElem? hy
    rcases two_or y with ⟨q,t,rfl⟩|⟨hn,hh⟩
    ·walk_at "wp"
     simp only [isi]
     walk_at "wp"
     refine ⟨by (first|exact Nat.le_of_ble_eq_true rfl|simp),?_⟩
     refine sp_n (fun hc=>absurd rfl hc) (fun _=>?_)
     walk_at "wp"
     refine ⟨by (first|exact Nat.le_of_ble_eq_true rfl|simp),?_⟩
     refine c q (a+1) BIG H' _ ?_
     walk_at "wp"
     refine sp_b (b:=!whB q (a+1) BIG) (fun hq=>?_) (fun hq=>?_)
     ·walk_at "wp"
      have:risB a (.tup [q,t]::l.drop (i+1))=false:=by
       by_cases hk:∃ k,q=.int k
       ·refine x1_1 (hk) fun k eQ1=>?_
        clear hk
        subst eQ1
        rw [risB_two]
        simp only [Bool.not_eq_true'] at hq
        simp [hq]
       ·exact risB_nint fun k e=>hk ⟨k,e⟩
      rw [this] at hr
      rw [←hr] at h;exact h
     ·walk_at "wp"
      refine ⟨by (first|exact Nat.le_of_ble_eq_true rfl|simp),?_⟩
      refine c t 1 100 H' _ ?_
      walk_at "wp"
      simp only [Bool.not_eq_false'] at hq
      refine x1_1 (whB_int hq) fun k eQ1=>?_
      subst eQ1
      rw [risB_two,hq] at hr
      refine sp_b (b:=!whB t 1 100) (fun ht=>?_) (fun ht=>?_)
      ·walk_at "wp"
       simp only [Bool.not_eq_true'] at ht
       rw [ht] at hr
       rw [←hr] at h;exact h
      ·walk_at "wp"
       simp only [Bool.not_eq_false'] at ht
       refine ⟨by (first|exact Nat.le_of_ble_eq_true rfl|simp),?_⟩
       refine for_next ⟨k,_,rfl,rfl,?_⟩
       rw [ht] at hr
       simpa using hr
    ·rw [risB_no hn] at hr
     rw [←hr] at h
     rcases hh with ⟨p,rfl,hp2⟩|hno
     ·walk_at "wp"
      simp only [isi]
      walk_at "wp"
      have:=g
      refine ⟨by cases g with|tup h1 h2=>have:=(h2 _ gy).len;(first|lia|omega),?_⟩
      refine sp_n (fun hc=>?_) (fun hc=>absurd (by walk_at "om") hp2)
      walk_at "wp"
      exact h
     ·walk_at "wp"
      simp only [hno]
      walk_at "wp"
      exact h
   ·walk_at "wp"
    have:l.drop i=[]:=by rw [hi];simp
    rw [this] at hr
    rw [←hr] at h;exact h
 | _ =>
  simp only [isi]
  walk_at "wp"
  exact h
noncomputable def SRis (Φ:Fun):Prop:=∀ (l:List AV) (n:Nat) (H:Hp) (Q:PQ),Gd H n (.tup l)->Q (.bool (risB 1 l)) H->Φ "_law_rising" [.tup l] H Q
theorem ten30:((10:Int)^(Int.toNat 30))=BIG:=by decide
theorem rising {Φ:Fun}(c:SWh "_law_within" Φ){l:List AV}{n:Nat}{H:Hp}{Q:PQ}(g:Gd H n (.tup l)) (h:Q (.bool (risB 1 l)) H):wpF Φ m_law_rising [.tup l] H Q:=by
 ((refine ⟨rfl,?_⟩;simp only [lst,Nat.reduceSub,Nat.sub_self,List.replicate]))
 simp only [m_law_rising]
 walk_at "wp"
 refine for_intro (fun i loc H'=>∃ (a:Int) (o:Option AV),H'=H/\loc=[some (.tup l),some (.int a),o]/\risB a (l.drop i)=risB 1 l) ⟨1,none,rfl,rfl,by simp⟩ ?_
 rintro i loc H' ⟨a,o,rfl,rfl,hr⟩
 refine ⟨trivial,fun y hy=>?_,fun hi=>?_⟩
 ·rw [drop_at hy] at hr
  refine ⟨[y],rfl,?_⟩
  have gy:y∈l:=List.mem_of_getElem? hy
  rcases two_or y with ⟨q,t,rfl⟩|⟨hn,hh⟩
  ·walk_at "wp"
   simp only [isi]
   walk_at "wp"
   refine ⟨by (first|exact Nat.le_of_ble_eq_true rfl|simp),?_⟩
   refine sp_n (fun hc=>absurd rfl hc) (fun _=>?_)
   walk_at "wp"
   refine ⟨by simp,by decide,by decide,by decide,?_⟩
   rw [ten30]
   refine c q (a+1) BIG H' _ ?_
   walk_at "wp"
   refine sp_b (b:=!whB q (a+1) BIG) (fun hq=>?_) (fun hq=>?_)
   ·walk_at "wp"
    have:risB a (.tup [q,t]::l.drop (i+1))=false:=by
     by_cases hk:∃ k,q=.int k
     ·refine x1_1 (hk) fun k eQ1=>?_
      clear hk
      subst eQ1
      rw [risB_two]
      simp only [Bool.not_eq_true'] at hq
      simp [hq]
     ·exact risB_nint fun k e=>hk ⟨k,e⟩
    rw [this] at hr
    rw [←hr] at h;exact h
   ·walk_at "wp"
    refine ⟨by (first|exact Nat.le_of_ble_eq_true rfl|simp),?_⟩
    refine c t 1 100 H' _ ?_
    walk_at "wp"
    simp only [Bool.not_eq_false'] at hq
    refine x1_1 (whB_int hq) fun k eQ1=>?_
    subst eQ1
    rw [risB_two,hq] at hr
    refine sp_b (b:=!whB t 1 100) (fun ht=>?_) (fun ht=>?_)
    ·walk_at "wp"
     simp only [Bool.not_eq_true'] at ht
     rw [ht] at hr
     rw [←hr] at h;exact h
    ·walk_at "wp"
     simp only [Bool.not_eq_false'] at ht
     refine ⟨by (first|exact Nat.le_of_ble_eq_true rfl|simp),?_⟩
     refine for_next ⟨k,_,rfl,rfl,?_⟩
     rw [ht] at hr
     simpa using hr
  ·rw [risB_no hn] at hr
   rw [←hr] at h
   rcases hh with ⟨p,rfl,hp2⟩|hno
   ·walk_at "wp"
    simp only [isi]
    walk_at "wp"
    refine ⟨by cases g with|tup h1 h2=>have:=(h2 _ gy).len;(first|lia|omega),?_⟩
    refine sp_n (fun hc=>?_) (fun hc=>absurd (by walk_at "om") hp2)
    walk_at "wp"
    exact h
   ·walk_at "wp"
    simp only [hno]
    walk_at "wp"
    exact h
 ·walk_at "wp"
  have:l.drop i=[]:=by rw [hi];simp
  rw [this] at hr
  rw [←hr] at h;exact h
noncomputable def SFac (Φ:Fun):Prop:=∀ (w:Str) (f:List AV) (n:Nat) (H:Hp) (Q:PQ),Gd H (n+1) (.tup f)->Q (.bool (facB w f)) H->Φ "are_facts" [.str w,.tup f] H Q
theorem are_facts {Φ:Fun}(c:SWh "is_whole" Φ) (cp:SPw "are_powers" Φ){w:Str}{f:List AV}{n:Nat}{H:Hp}{Q:PQ}(g:Gd H (n+1) (.tup f)) (h:Q (.bool (facB w f)) H):wpF Φ m_are_facts [.str w,.tup f] H Q:=by
 have hl:=g.len
 unfold facB at h
 ((refine ⟨rfl,?_⟩;simp only [lst,Nat.reduceSub,Nat.sub_self,List.replicate]))
 simp only [m_are_facts]
 walk_at "wp"
 refine sp_b (fun h1=>?_) (fun h1=>?_)
 ·rw [if_pos h1] at h
  walk_at "wp"
  exact ⟨by walk_at "om",h⟩
 rw [if_neg (by rw [h1];exact Bool.false_ne_true)] at h
 walk_at "wx"
 refine sp_b (fun h2=>?_) (fun h2=>?_)
 ·rw [if_pos h2] at h
  walk_at "wp"
  refine ⟨by walk_at "om",?_⟩
  clear h1 h2
  match f,g,h with
  | [a,p],g,h =>
   refine sp_d (fun h3=>?_) (fun h3=>absurd rfl h3)
   walk_at "wp"
   refine ⟨by (first|exact Nat.le_of_ble_eq_true rfl|simp),?_⟩
   refine c a 1 BIG H _ ?_
   walk_at "wp"
   refine sp_b (fun h4=>?_) (fun h4=>?_)
   ·walk_at "wp"
    refine ⟨by (first|exact Nat.le_of_ble_eq_true rfl|simp),?_⟩
    refine cp p _ H _ (g.mem p (by simp)) ?_
    have h:Q (.bool (_&&_)) H:=h
    rw [h4,Bool.true_and] at h;exact h
   ·walk_at "wp"
    have h:Q (.bool (_&&_)) H:=h
    rw [h4,Bool.false_and] at h;exact h
  | [],g,h =>
   refine sp_d (fun h3=>by simp at h3) (fun h3=>?_)
   walk_at "wp"
   exact h
  | [_],g,h =>
   refine sp_d (fun h3=>by simp at h3) (fun h3=>?_)
   walk_at "wp"
   exact h
  | _::_::_::r,g,h =>
   refine sp_d (fun h3=>by simp at h3;(first|lia|omega)) (fun h3=>?_)
   walk_at "wp"
   exact h
 rw [if_neg (by rw [h2];exact Bool.false_ne_true)] at h
 walk_at "wp"
 refine sp_b (fun h3=>?_) (fun h3=>?_)
 ·rw [if_pos h3] at h
  walk_at "wp"
  refine ⟨by walk_at "om",?_⟩
  clear h1 h2 h3
  match f,g,h with
  | [a,p],g,h =>
   refine sp_d (fun h3=>?_) (fun h3=>absurd rfl h3)
   walk_at "wp"
   refine ⟨by (first|exact Nat.le_of_ble_eq_true rfl|simp),?_⟩
   refine c a 2 BIG H _ ?_
   walk_at "wp"
   refine sp_b (fun h4=>?_) (fun h4=>?_)
   ·walk_at "wp"
    refine ⟨by (first|exact Nat.le_of_ble_eq_true rfl|simp),?_⟩
    refine c p 2 BIG H _ ?_
    have h:Q (.bool (_&&_)) H:=h
    rw [h4,Bool.true_and] at h;exact h
   ·walk_at "wp"
    have h:Q (.bool (_&&_)) H:=h
    rw [h4,Bool.false_and] at h;exact h
  | [],g,h =>
   refine sp_d (fun h3=>by simp at h3) (fun h3=>?_)
   walk_at "wp"
   exact h
  | [_],g,h =>
   refine sp_d (fun h3=>by simp at h3) (fun h3=>?_)
   walk_at "wp"
   exact h
  | _::_::_::r,g,h =>
   refine sp_d (fun h3=>by simp at h3;(first|lia|omega)) (fun h3=>?_)
   walk_at "wp"
   exact h
 rw [if_neg (by rw [h3];exact Bool.false_ne_true)] at h
 walk_at "wp"
 refine ⟨by walk_at "om",?_⟩
 clear h1 h2 h3
 match f,g,h with
 | [a],g,h =>
  refine sp_d (fun h3=>?_) (fun h3=>absurd rfl h3)
  walk_at "wp"
  refine ⟨by (first|exact Nat.le_of_ble_eq_true rfl|simp),?_⟩
  exact c a 1 BIG H _ h
 | [],g,h =>
  refine sp_d (fun h3=>by simp at h3) (fun h3=>?_)
  walk_at "wp"
  exact h
 | _::_::r,g,h =>
  refine sp_d (fun h3=>by simp at h3;(first|lia|omega)) (fun h3=>?_)
  walk_at "wp"
  exact h
theorem three_or (y:AV):(∃ a b c,y=.tup [a,b,c])\/(rowB y=false/\((∃ p,y=.tup p/\p.length≠3)\/∀ H,isi H y .tuple=false)):=by
 cases y with
 | tup p =>
  match p with
  | [a,b,c]=>exact .inl ⟨a,b,c,rfl⟩
  | []=>exact .inr ⟨rfl,.inl ⟨_,rfl,by simp⟩⟩
  | [_]=>exact .inr ⟨rfl,.inl ⟨_,rfl,by simp⟩⟩
  | [_,b]=>exact .inr ⟨by cases b<;>rfl,.inl ⟨_,rfl,by simp⟩⟩
  | _::b::c::_::r=>exact .inr ⟨by cases b<;>first|rfl|(cases c<;>rfl),.inl ⟨_,rfl,by simp⟩⟩
 | _=>exact .inr ⟨rfl,.inr fun _=>rfl⟩
theorem str_or (y:AV):(∃ w,y=.str w)\/((∀ a c,rowB (.tup [a,y,c])=false)/\∀ H,isi H y .str=false):=by
 cases y<;>first|exact .inl ⟨_,rfl⟩|exact .inr ⟨fun _ _=>rfl,fun _=>rfl⟩
theorem tup_or (y:AV):(∃ f,y=.tup f)\/((∀ a w,rowB (.tup [a,.str w,y])=false)/\∀ H,isi H y .tuple=false):=by
 cases y<;>first|exact .inl ⟨_,rfl⟩|exact .inr ⟨fun _ _=>rfl,fun _=>rfl⟩
theorem rowB_at {a:AV}{w:Str}{f:List AV}:rowB (.tup [a,.str w,.tup f])=(whB a 2 BIG&&wordsL.contains w&&facB w f):=rfl
theorem rowB_n {a b c:AV}(h:whB a 2 BIG=false):rowB (.tup [a,b,c])=false:=by
 cases b<;>first|rfl|(cases c<;>first|rfl|(rw [rowB_at,h];rfl))
theorem in_words {H:Hp}{w:Str}{K:Bool->Prop}(h:K (wordsL.contains w)):wpIn (.str w) c_WORDS H K:=by
 refine ⟨.str w,wordsL.map .str,rfl,rfl,by simp [PyData.depth],?_⟩
 have:(List.any (wordsL.map PyData.str) fun z=>PyData.eqv z (.str w))=wordsL.contains w:=by
  simp only [wordsL,List.map_cons,List.map_nil,List.any_cons,List.any_nil,PyData.eqv,List.contains_cons,List.contains_nil,Bool.or_false]
  simp only [Bool.beq_comm,BEq.comm]
 rw [this];exact h
theorem notin_words {H:Hp}{w:Str}{Q:PQ}(h:Q (.bool !(wordsL.contains w)) H):wpCmp .notIn (.str w) c_WORDS H Q:=in_words (K:=fun b=>Q (.bool !b) H) h
noncomputable def RG (H:Hp) (v:AV):Prop:=(∃ n,Gd H n v)/\∀ a w f,v=.tup [a,.str w,.tup f]->Gd H 4 (.tup f)
noncomputable def SRow (f:Str) (Φ:Fun):Prop:=∀ (v:AV) (H:Hp) (Q:PQ),RG H v->Q (.bool (rowB v)) H->Φ f [v] H Q
theorem is_row {Φ:Fun}(c:SWh "is_whole" Φ) (cf:SFac Φ){v:AV}{H:Hp}{Q:PQ}(g:RG H v) (h:Q (.bool (rowB v)) H):wpF Φ m_is_row [v] H Q:=by
 ((refine ⟨rfl,?_⟩;simp only [lst,Nat.reduceSub,Nat.sub_self,List.replicate]))
 simp only [m_is_row]
 walk_at "wp"
 rcases three_or v with ⟨a,b,t,rfl⟩|⟨hn,hh⟩
 ·simp only [isi]
  walk_at "wp"
  refine ⟨by (first|exact Nat.le_of_ble_eq_true rfl|simp),?_⟩
  refine sp_n (fun hc=>absurd rfl hc) (fun _=>?_)
  walk_at "wp"
  refine ⟨by (first|exact Nat.le_of_ble_eq_true rfl|simp),?_⟩
  refine c a 2 BIG H _ ?_
  walk_at "wp"
  refine sp_b (b:=!whB a 2 BIG) (fun hq=>?_) (fun hq=>?_)
  ·walk_at "wp"
   rw [rowB_n (by simpa using hq)] at h;exact h
  ·walk_at "wp"
   refine ⟨by (first|exact Nat.le_of_ble_eq_true rfl|simp),?_⟩
   rcases str_or b with ⟨w,rfl⟩|⟨hn,hno⟩
   ·simp only [isi]
    walk_at "wp"
    refine ⟨by (first|exact Nat.le_of_ble_eq_true rfl|simp),?_⟩
    refine notin_words ?_
    walk_at "wp"
    refine sp_b (b:=!wordsL.contains w) (fun hw=>?_) (fun hw=>?_)
    ·walk_at "wp"
     rcases tup_or t with ⟨f,rfl⟩|⟨hn,hno⟩
     ·rw [rowB_at,show wordsL.contains w=false by simpa using hw,Bool.and_false,Bool.false_and] at h;exact h
     ·rw [hn] at h;exact h
    ·walk_at "wp"
     refine ⟨by (first|exact Nat.le_of_ble_eq_true rfl|simp),?_⟩
     rcases tup_or t with ⟨f,rfl⟩|⟨hn,hno⟩
     ·simp only [isi]
      walk_at "wp"
      refine ⟨by simp,by simp,?_⟩
      refine cf w f 3 H _ (g.2 _ _ _ rfl) ?_
      rw [rowB_at,show wordsL.contains w=true by simpa using hw,show whB a 2 BIG=true by simpa using hq,Bool.and_true,Bool.true_and] at h;exact h
     ·simp only [hno]
      walk_at "wp"
      rw [hn] at h;exact h
   ·simp only [hno]
    walk_at "wp"
    rw [hn] at h;exact h
 ·rw [hn] at h
  rcases hh with ⟨p,rfl,hp⟩|hno
  ·simp only [isi]
   walk_at "wp"
   refine ⟨by obtain ⟨n,g1⟩:=g.1;have:=g1.len;(first|lia|omega),?_⟩
   refine sp_n (fun hc=>?_) (fun hc=>absurd (by walk_at "om") hp)
   walk_at "wp"
   exact h
  ·simp only [hno]
   walk_at "wp"
   exact h
theorem eq_nil {f:List AV}{n:Nat}{H:Hp}{Q:PQ}(g:Gd H n (.tup f)) (hn:n<=4) (h:Q (.bool (decide ((f.length:Int)=0))) H):wpCmp .eq (.tup f) (.tup []) H Q:=by
 refine x1_2 (g.dat hn) fun d h1 h2=>?_
 refine ⟨d,.tuple [],h1,rfl,by walk_at "om",?_⟩
 have:PyData.eqv d (.tuple [])=decide ((f.length:Int)=0):=by
  cases f with
  | nil=>cases h1;rfl
  | cons x r =>
   simp only [datR,datRs,Option.map_eq_some_iff,Option.bind_eq_some_iff] at h1
   refine x1_2 (h1) fun ds qQ1 eQ2=>?_
   clear h1
   obtain ⟨y,_,z,_,rfl⟩:=qQ1
   subst eQ2
   simp [PyData.eqv,PyData.eqvAll]
   (first|lia|omega)
 rw [this];exact h
noncomputable def oneB (f:List AV):Bool:=match f with|[a]=>whB a 1 BIG|_=>false
theorem fac_pow {f:List AV}:(wordsL.contains "power" && facB "power" f)=oneB f:=rfl
theorem fac_root {f:List AV}:(wordsL.contains "root" && facB "root" f)=oneB f:=rfl
theorem row_right {Φ:Fun}(c:SWh "_law_within" Φ) (cr:SRis Φ){v:AV}{H:Hp}{Q:PQ}(g:RG H v) (h:Q (.bool (rowB v)) H):wpF Φ m_law_row_right [v] H Q:=by
 ((refine ⟨rfl,?_⟩;simp only [lst,Nat.reduceSub,Nat.sub_self,List.replicate]))
 simp only [m_law_row_right]
 walk_at "wp"
 rcases three_or v with ⟨a,b,t,rfl⟩|⟨hn,hh⟩
 ·simp only [isi]
  walk_at "wp"
  refine ⟨by (first|exact Nat.le_of_ble_eq_true rfl|simp),?_⟩
  refine sp_n (fun hc=>absurd rfl hc) (fun _=>?_)
  walk_at "wp"
  refine ⟨by simp,by decide,by decide,by decide,?_⟩
  rw [ten30]
  refine c a 2 BIG H _ ?_
  walk_at "wp"
  refine sp_b (b:=!whB a 2 BIG) (fun hq=>?_) (fun hq=>?_)
  ·walk_at "wp"
   rw [rowB_n (by simpa using hq)] at h;exact h
  walk_at "wp"
  refine ⟨by (first|exact Nat.le_of_ble_eq_true rfl|simp),?_⟩
  rcases str_or b with ⟨w,rfl⟩|⟨hn,hno⟩
  rotate_left
  ·simp only [hno]
   walk_at "wp"
   rw [hn] at h;exact h
  simp only [isi]
  walk_at "wp"
  refine ⟨by (first|exact Nat.le_of_ble_eq_true rfl|simp),?_⟩
  rcases tup_or t with ⟨f,rfl⟩|⟨hn,hno⟩
  rotate_left
  ·simp only [hno]
   walk_at "wp"
   rw [hn] at h;exact h
  simp only [isi]
  walk_at "wp"
  refine ⟨by simp,by simp,?_⟩
  have gf:Gd H 4 (.tup f):=g.2 _ _ _ rfl
  have hl:=gf.len
  rw [rowB_at,show whB a 2 BIG=true by simpa using hq,Bool.true_and] at h
  refine sp_b (fun h1=>?_) (fun h1=>?_)
  ·walk_at "wp"
   have:=beq_iff_eq.mp h1
   subst this
   refine ⟨by walk_at "sd",eq_nil gf (by walk_at "om") ?_⟩
   exact h
  walk_at "wp"
  refine ⟨by (first|exact Nat.le_of_ble_eq_true rfl|simp),?_⟩
  refine sp_b (fun h2=>?_) (fun h2=>?_)
  ·have:=beq_iff_eq.mp h2
   subst this
   walk_at "wp"
   refine ⟨by walk_at "om",?_⟩
   match f,gf,h with
   | [x,y],gf,h =>
    refine sp_d (fun _=>?_) (fun h3=>absurd rfl h3)
    walk_at "wp"
    refine ⟨by simp,by decide,by decide,by decide,?_⟩
    rw [ten30]
    refine c x 2 BIG H _ ?_
    have e:(wordsL.contains "split" && facB "split" [x,y])=(whB x 2 BIG&&whB y 2 BIG):=rfl
    rw [e] at h
    walk_at "wp"
    refine sp_b (fun h4=>?_) (fun h4=>?_)
    ·walk_at "wp"
     refine ⟨by simp,by decide,by decide,by decide,?_⟩
     rw [ten30]
     refine c y 2 BIG H _ ?_
     rw [h4,Bool.true_and] at h;exact h
    ·walk_at "wp"
     rw [h4,Bool.false_and] at h;exact h
   | [],_,h =>
    refine sp_d (fun h3=>by simp at h3) (fun h3=>?_)
    walk_at "wp"
    exact h
   | [_],_,h =>
    refine sp_d (fun h3=>by simp at h3) (fun h3=>?_)
    walk_at "wp"
    exact h
   | _::_::_::r,_,h =>
    refine sp_d (fun h3=>by simp at h3;(first|lia|omega)) (fun h3=>?_)
    walk_at "wp"
    exact h
  walk_at "wp"
  refine ⟨by (first|exact Nat.le_of_ble_eq_true rfl|simp),?_⟩
  have pr:∀ {Q':PQ},(w == "power")=true\/(w == "root")=true->Q' (.bool (wordsL.contains w&&facB w f)) H->((f.length:Int)=1->∃ x,f=[x]/\∀ b,b=whB x 1 BIG->Q' (.bool b) H)/\(¬ (f.length:Int)=1->Q' (.bool false) H):=by
   intro Q' hw hq
   have e:(wordsL.contains w&&facB w f)=oneB f:=by
    rcases hw with hw|hw
    ·have:=beq_iff_eq.mp hw;subst this;exact fac_pow
    ·have:=beq_iff_eq.mp hw;subst this;exact fac_root
   rw [e] at hq
   match f,hq with
   | [x],hq=>exact ⟨fun _=>⟨x,rfl,fun b hb=>by rw [hb];exact hq⟩,fun h=>absurd rfl h⟩
   | [],hq=>exact ⟨fun h=>by simp at h,fun _=>hq⟩
   | _::_::r,hq=>exact ⟨fun h=>by simp at h;(first|lia|omega),fun _=>hq⟩
  refine sp_b (fun h3=>?_) (fun h3=>?_)
  ·walk_at "wp"
   refine x0_2 (pr (.inl h3) h) fun p1 p2=>?_
   refine ⟨by walk_at "om",?_⟩
   refine sp_d (fun h4=>?_) (fun h4=>?_)
   ·refine x1_2 (p1 h4) fun x eQ1 hx=>?_
    subst eQ1
    walk_at "wp"
    refine ⟨by simp,by decide,by decide,by decide,?_⟩
    rw [ten30]
    exact c x 1 BIG H _ (hx _ rfl)
   ·walk_at "wp"
    exact p2 h4
  walk_at "wp"
  refine ⟨by (first|exact Nat.le_of_ble_eq_true rfl|simp),?_⟩
  refine sp_b (fun h4=>?_) (fun h4=>?_)
  ·walk_at "wp"
   refine x0_2 (pr (.inr h4) h) fun p1 p2=>?_
   refine ⟨by walk_at "om",?_⟩
   refine sp_d (fun h4=>?_) (fun h4=>?_)
   ·refine x1_2 (p1 h4) fun x eQ1 hx=>?_
    subst eQ1
    walk_at "wp"
    refine ⟨by simp,by decide,by decide,by decide,?_⟩
    rw [ten30]
    exact c x 1 BIG H _ (hx _ rfl)
   ·walk_at "wp"
    exact p2 h4
  walk_at "wp"
  refine ⟨by (first|exact Nat.le_of_ble_eq_true rfl|simp),?_⟩
  refine sp_b (b:=!(w == "prime")) (fun h5=>?_) (fun h5=>?_)
  ·walk_at "wp"
   have e:wordsL.contains w=false:=by
    simp only [Bool.not_eq_true'] at h5
    simp only [wordsL,List.contains_cons,List.contains_nil,Bool.or_false,h1,h2,h3,h4,h5]
   rw [e,Bool.false_and] at h;exact h
  have:=beq_iff_eq.mp (show (w == "prime")=true by simpa using h5)
  subst this
  walk_at "wp"
  refine ⟨by walk_at "om",?_⟩
  match f,gf,h with
  | [x,y],gf,h =>
   refine sp_n (fun h3=>absurd rfl h3) (fun _=>?_)
   walk_at "wp"
   refine ⟨by simp,by decide,by decide,by decide,?_⟩
   rw [ten30]
   refine c x 1 BIG H _ ?_
   have e:(wordsL.contains "prime" && facB "prime" [x,y])=(whB x 1 BIG&&powB y):=rfl
   rw [e] at h
   walk_at "wp"
   refine sp_b (b:=!whB x 1 BIG) (fun h4=>?_) (fun h4=>?_)
   ·walk_at "wp"
    rw [show whB x 1 BIG=false by simpa using h4] at h;exact h
   rw [show whB x 1 BIG=true by simpa using h4,Bool.true_and] at h
   walk_at "wp"
   refine ⟨by (first|exact Nat.le_of_ble_eq_true rfl|simp),?_⟩
   rcases tup_or y with ⟨p,rfl⟩|⟨hn,hno⟩
   ·simp only [isi]
    walk_at "wp"
    have gp:Gd H 3 (.tup p):=gf.mem _ (by simp)
    refine ⟨by simp,by have:=gp.len;(first|lia|omega),?_⟩
    cases p with
    | nil =>
     refine sp_d (fun h3=>by simp at h3) (fun h3=>?_)
     walk_at "wp"
     exact h
    | cons z r =>
     refine sp_d (fun h3=>?_) (fun h3=>absurd (by simp;try (first|lia|omega)) h3)
     walk_at "wp"
     refine ⟨by (first|exact Nat.le_of_ble_eq_true rfl|simp),?_⟩
     exact cr _ _ H _ gp h
   ·simp only [hno]
    walk_at "wp"
    have:powB y=false:=by cases y<;>first|rfl|simp [isi] at hno
    rw [this] at h;exact h
  | [],_,h =>
   refine sp_n (fun h3=>?_) (fun h3=>by simp at h3)
   walk_at "wp"
   exact h
  | [_],_,h =>
   refine sp_n (fun h3=>?_) (fun h3=>by simp at h3)
   walk_at "wp"
   exact h
  | _::_::_::r,_,h =>
   refine sp_n (fun h3=>?_) (fun h3=>by simp at h3;try (first|lia|omega))
   walk_at "wp"
   exact h
 ·rw [hn] at h
  rcases hh with ⟨p,rfl,hp⟩|hno
  ·simp only [isi]
   walk_at "wp"
   refine ⟨by obtain ⟨n,g1⟩:=g.1;have:=g1.len;(first|lia|omega),?_⟩
   refine sp_n (fun hc=>?_) (fun hc=>absurd (by walk_at "om") hp)
   walk_at "wp"
   exact h
  ·simp only [hno]
   walk_at "wp"
   exact h
end
section
open PySem
set_option maxHeartbeats 2000000
noncomputable def c_MOST_ROWS:AV:=.int 200
noncomputable def m_is_slip:MF:=⟨1,3,
 [.ite (.or2 (.not (.isi (.loc 0) .tuple)) (.not (.cmp2 .le .le (.cst (.int 1)) (.bi .len [.loc 0]) (.cst c_MOST_ROWS)))) [.ret (.cst (.bool false))] [],
 .asg 1 (.cst (.int 0)),
 .forr false [2] .plain [.loc 0] [.ite (.or2 (.not (.call "is_row" [.loc 2])) (.cmp .le (.idx (.loc 2) (.cst (.int 0))) (.loc 1))) [.ret (.cst (.bool false))] [],
  .asg 1 (.idx (.loc 2) (.cst (.int 0)))],
 .ret (.cst (.bool true))]⟩
noncomputable def numA (v:AV):Int:=match v with|.tup (.int n::_)=>n|_=>0
noncomputable def incB:Int->List AV->Bool
 | _,[]=>true
 | a,v::r=>rowB v&&(decide (a<numA v)&&incB (numA v) r)
noncomputable def adjL:List AV->Bool
 | x::y::r=>decide (numA x<numA y)&&adjL (y::r)
 | _=>true
noncomputable def lenB (l:List AV):Bool:=decide ((1:Int)<=l.length)&&decide ((l.length:Int)<=200)
noncomputable def slipB (v:AV):Bool:=match v with|.tup l=>lenB l&&incB 0 l|_=>false
theorem rowB_shape {v:AV}(h:rowB v=true):∃ n w f,v=.tup [.int n,.str w,.tup f]/\2<=n:=by
 rcases three_or v with ⟨a,b,t,rfl⟩|⟨hn,_⟩
 ·rcases str_or b with ⟨w,rfl⟩|⟨hn,_⟩
  ·rcases tup_or t with ⟨f,rfl⟩|⟨hn,_⟩
   ·rw [rowB_at,Bool.and_eq_true,Bool.and_eq_true] at h
    refine x1_1 (whB_int h.1.1) fun k eQ1=>?_
    subst eQ1
    simp only [whB,Bool.and_eq_true,decide_eq_true_eq] at h
    exact ⟨k,w,f,rfl,h.1.1.1⟩
   ·rw [hn] at h;cases h
  ·rw [hn] at h;cases h
 ·rw [hn] at h;cases h
noncomputable def chain (a:Int) (l:List AV):Bool:=match l with|[]=>true|x::r=>decide (a<numA x)&&adjL (x::r)
theorem inc_chain:∀ (l:List AV) (a:Int),incB a l=(l.all rowB&&chain a l)
 | [],_=>rfl
 | x::r,a=>by
  rw [incB,inc_chain r (numA x)]
  have:chain a (x::r)=(decide (a<numA x)&&chain (numA x) r):=by
   cases r with
   | nil=>simp [chain,adjL]
   | cons y r=>rfl
  rw [this,List.all_cons]
  cases rowB x<;>cases decide (a<numA x)<;>cases r.all rowB<;>rfl
theorem slip_due (l:List AV):slipB (.tup l)=(lenB l&&(l.all rowB&&adjL l)):=by
 show (lenB l&&incB 0 l)=_
 rw [inc_chain]
 cases l with
 | nil=>rfl
 | cons x r =>
  cases hx:rowB x with
  | false=>simp [hx]
  | true =>
   refine x3_2 (rowB_shape hx) fun n w f eQ3 h2=>?_
   subst eQ3
   have:chain 0 (.tup [.int n,.str w,.tup f]::r)=adjL (.tup [.int n,.str w,.tup f]::r):=by
    show (decide ((0:Int)<n)&&_)=_
    rw [show decide ((0:Int)<n)=true by simp;(first|lia|omega),Bool.true_and]
   rw [this]
theorem RG_of {H:Hp}{v:AV}(g:Gd H 5 v):RG H v:=⟨⟨5,g⟩,fun a w f e=>by subst e;exact g.mem _ (by simp)⟩
noncomputable def SlG (H:Hp) (v:AV):Prop:=∀ l,v=.tup l->l.length<=10000000/\∀ x∈l,Gd H 5 x
noncomputable def SSlip (Φ:Fun):Prop:=∀ (v:AV) (H:Hp) (Q:PQ),SlG H v->Q (.bool (slipB v)) H->Φ "is_slip" [v] H Q
theorem is_slip {Φ:Fun}(c:SRow "is_row" Φ){v:AV}{H:Hp}{Q:PQ}(g:SlG H v) (h:Q (.bool (slipB v)) H):wpF Φ m_is_slip [v] H Q:=by
 ((refine ⟨rfl,?_⟩;simp only [lst,Nat.reduceSub,Nat.sub_self,List.replicate]))
 simp only [m_is_slip]
 walk_at "wp"
 rcases tup_or v with ⟨l,rfl⟩|⟨_,hno⟩
 ·refine x0_2 (g l rfl) fun hl hg=>?_
  simp only [isi]
  walk_at "wp"
  refine ⟨by walk_at "om",?_⟩
  have body:lenB l=true->wpSs Φ (m_is_slip.body.drop 1) [some (.tup l),none,none] H (endOf Q):=by
   intro hlb
   have h:Q (.bool (lenB l&&incB 0 l)) H:=h
   rw [hlb,Bool.true_and] at h
   simp only [m_is_slip,List.drop]
   walk_at "wp"
   refine for_intro (fun i loc H'=>∃ (a:Int) (o:Option AV),H'=H/\loc=[some (.tup l),some (.int a),o]/\incB a (l.drop i)=incB 0 l) ⟨0,none,rfl,rfl,by simp⟩ ?_
   rintro i loc H' ⟨a,o,rfl,rfl,hr⟩
   refine ⟨trivial,fun y hy=>?_,fun hi=>?_⟩
   ·rw [drop_at hy,incB] at hr
    refine ⟨[y],rfl,?_⟩
    walk_at "wp"
    refine c y H' _ (RG_of (hg y (List.mem_of_getElem? hy))) ?_
    walk_at "wp"
    cases hb:rowB y with
    | false =>
     simp only [Bool.not_false]
     walk_at "wp"
     rw [hb,Bool.false_and] at hr
     rw [←hr] at h;exact h
    | true =>
     refine x3_2 (rowB_shape hb) fun n w f eQ3 n2'=>?_
     subst eQ3
     have hr:(decide (a<n)&&incB n (l.drop (i+1)))=incB 0 l:=by rw [hb,Bool.true_and] at hr;exact hr
     simp only [Bool.not_true]
     walk_at "wp"
     refine ⟨by (first|exact Nat.le_of_ble_eq_true rfl|simp),?_⟩
     refine sp_d (fun h1=>?_) (fun h1=>?_)
     ·walk_at "wp"
      rw [show decide (a<n)=false by simp;(first|lia|omega),Bool.false_and] at hr
      rw [←hr] at h;exact h
     ·walk_at "wp"
      refine ⟨by (first|exact Nat.le_of_ble_eq_true rfl|simp),?_⟩
      rw [show decide (a<n)=true by simp;(first|lia|omega),Bool.true_and] at hr
      exact for_next ⟨n,_,rfl,rfl,hr⟩
   ·walk_at "wp"
    have:l.drop i=[]:=by rw [hi];simp
    rw [this] at hr
    rw [←hr] at h;exact h
  refine sp_d (fun h1=>?_) (fun h1=>?_)
  ·walk_at "wp"
   refine sp_n (K:=fun b=>kIteB Φ _ _ _ _ _ b) (fun h2=>?_) (fun h2=>?_)
   ·walk_at "wp"
    have:slipB (.tup l)=false:=by
     show (lenB l&&_)=false
     rw [show lenB l=false by simp only [lenB];rw [show decide ((l.length:Int)<=200)=false from decide_eq_false h2,Bool.and_false],Bool.false_and]
    rw [this] at h;exact h
   ·simp only [k_itef,ss_nil,thenS_next]
    exact body (by simp only [lenB];rw [decide_eq_true h1,show decide ((l.length:Int)<=200)=true from decide_eq_true h2];rfl)
  ·walk_at "wp"
   have:slipB (.tup l)=false:=by
    show (lenB l&&_)=false
    rw [show lenB l=false by simp only [lenB];rw [decide_eq_false h1,Bool.false_and],Bool.false_and]
   rw [this] at h;exact h
 ·simp only [hno]
  walk_at "wp"
  have:slipB v=false:=by cases v<;>first|rfl|simp [isi] at hno
  rw [this] at h;exact h
theorem ris_form:∀ {ps:List (Int×Int)}{a:Int},Ris ps->(∀ p∈ps,a<p.1/\p.1<=BIG/\1<=p.2/\p.2<=100)->risB a (ps.map prAV)=true
 | [],_,_,_=>rfl
 | p::r,a,hr,h=>by
  refine x0_4 (h p (List.mem_cons_self ..)) fun h1 h2 h3 h4=>?_
  have hr:=List.pairwise_cons.mp hr
  show (whB (.int p.1) (a+1) BIG&&whB (.int p.2) 1 100&&risB p.1 (r.map prAV))=true
  rw [ris_form hr.2 fun q hq=>⟨hr.1 q hq,(h q (List.mem_cons_of_mem _ hq)).2⟩]
  simp only [whB,Bool.and_true,Bool.and_eq_true,decide_eq_true_eq]
  exact ⟨⟨by (first|lia|omega),h2⟩,h3,h4⟩
theorem wh_true {k a b:Int}(h1:a<=k) (h2:k<=b):whB (.int k) a b=true:=by simp only [whB,Bool.and_eq_true,decide_eq_true_eq];exact ⟨h1,h2⟩
theorem adj_inc:∀ {rs:List (Int×Fc)},(rs.map (·.1)).Pairwise (·<·)->adjL (rs.map roP)=true
 | [],_=>rfl
 | [_],_=>rfl
 | x::y::r,h=>by
  have h:=List.pairwise_cons.mp h
  show (decide (x.1<y.1)&&adjL ((y::r).map roP))=true
  rw [adj_inc h.2,decide_eq_true (h.1 y.1 (by simp))];rfl
theorem gdI {H:Hp}{n:Nat}{l:List Int}(h:l.length<=10000000):Gd H (n+1) (.tup (l.map .int)):=.tup (by simpa using h) fun x hx=>by
 obtain ⟨k,_,rfl⟩:=List.mem_map.mp hx;exact .int
theorem gd_3 {H:Hp}{n:Nat}{a b c:AV}(ha:Gd H n a) (hb:Gd H n b) (hc:Gd H n c):Gd H (n+1) (.tup [a,b,c]):=.tup (by simp) fun x hx=>by
 simp only [List.mem_cons,List.not_mem_nil,or_false] at hx
 rcases hx with rfl|rfl|rfl<;>assumption
noncomputable def wr:Nat->List Int->List (Int×Fc)->Option Nat
 | _,_,[]=>none
 | k,pr,r::rs=>if r.2.holds r.1 pr then wr (k+1) (if r.2.tells then pr++[r.1] else pr) rs else some k
noncomputable def optA:Option Nat->AV
 | none=>.none
 | some k=>.int k
theorem ro_at0 {n:Int}{f:Fc}{H:Hp}{Q:PQ}(q:Q (.int n) H):wpIdx (roA n f) (.int 0) H Q:=by
 unfold roA;rw [i_tup0];exact ⟨su3,q⟩
theorem app_at {H:Hp}{Q:PQ}{i:Nat}{l:List AV}{x:AV}(h:H[i]?=some (.list l)) (hn:l.length<=10000000) (q:Q .none (H.set i (.list (l++[x])))):wpMt .append (.ref i) [x] H Q:=by
 rw [m_append h];exact ⟨Nat.le_trans hn (by decide),q⟩
theorem is_none {o:Option Nat}{H:Hp}{Q:PQ}(q:Q (.bool o.isNone) H):wpCmp .is (optA o) .none H Q:=by
 cases o with
 | none=>exact ⟨true,rfl,q⟩
 | some k=>exact ⟨false,rfl,q⟩
end
section
open PySem
set_option maxHeartbeats 2000000
noncomputable def Rw.ro:Rw->Int×Fc
 | .first=>(2,.first)
 | .prime n b ps=>(n,.prime b ps)
 | .split n a b=>(n,.split a b)
 | .power n b=>(n,.power b)
 | .root n b=>(n,.root b)
theorem ro_av (r:Rw):roP r.ro=r.av:=by cases r<;>rfl
theorem ros_av (rs:List Rw):(rs.map Rw.ro).map roP=rs.map Rw.av:=by
 rw [List.map_map];exact List.map_congr_left fun r _=>ro_av r
theorem ro_num (r:Rw):r.ro.1=r.num:=by cases r<;>rfl
theorem ros_num (rs:List Rw):(rs.map Rw.ro).map (·.1)=rs.map Rw.num:=by
 rw [List.map_map];exact List.map_congr_left fun r _=>ro_num r
theorem ro_ok {r:Rw}(h:r.ok):RoK 0 r.ro.1 r.ro.2:=by
 cases r with
 | first=>exact ⟨by decide,by decide,by decide,trivial⟩
 | prime n b ps =>
  refine x0_6 (h) fun h1 h2 h3 h4 h5 qQ5=>?_
  clear h
  obtain ⟨h6,h7,h8⟩:=qQ5
  exact ⟨by decide,by show 2<=n;(first|lia|omega),by show n<=_;(first|lia|omega),⟨h3,by (first|lia|omega)⟩,⟨h5,by (first|lia|omega),fun p hp=>by have:=h7 p hp;(first|lia|omega)⟩,h8⟩
 | split n a b =>
  refine x0_6 (h) fun h1 h2 h3 h4 h5 h6=>?_
  clear h
  have:2*2<=a*b:=Int.mul_le_mul h1 h2 (by decide) (by (first|lia|omega))
  exact ⟨by decide,by show 2<=n;(first|lia|omega),by show n<=_;(first|lia|omega),⟨h1,by (first|lia|omega)⟩,h2,by (first|lia|omega)⟩
 | power n b =>
  refine x0_4 (h) fun h1 h2 h3 h4=>?_
  clear h
  exact ⟨by decide,h1,by show n<=_;(first|lia|omega),h3,by (first|lia|omega)⟩
 | root n b =>
  refine x0_4 (h) fun h1 h2 h3 h4=>?_
  clear h
  exact ⟨by decide,h1,by show n<=_;(first|lia|omega),h3,by (first|lia|omega)⟩
theorem ros_ok {P:Rw->Prop}{N:Nat}{rs:List Rw}(hN:N<=62) (h:RsC P N rs):RsK 0 (rs.map Rw.ro) :=
 ⟨fun e=>h.ne (List.map_eq_nil_iff.mp e),by rw [List.length_map];have:=h.len;(first|lia|omega),fun x hx=>by
  refine x1_2 (List.mem_map.mp hx) fun r hr eQ2=>?_
  subst eQ2
  exact ro_ok (h.ok r hr),by rw [ros_num];exact h.inc⟩
end
section
open PySem PySem.W PyProof.Rows
noncomputable def powT (p:Int×Int):Str:=numI p.1 ++ "^" ++ numI p.2
noncomputable def Fc.txt:Fc->List Str
 | .first=>[]
 | .prime b ps=>numI b::ps.map powT
 | .split a b=>[numI a,numI b]
 | .power b=>[numI b]
 | .root b=>[numI b]
noncomputable def rowW (n:Int) (f:Fc):List Str:=numI n::f.word::f.txt
noncomputable def lineT (n:Int) (f:Fc):Str:=Str.join " " (rowW n f)
noncomputable def lineP (r:Int×Fc):Str:=lineT r.1 r.2
noncomputable def textT (rs:List (Int×Fc)):Str:=Str.join "\n" (rs.map lineP)
noncomputable def In30 (b:Int):Prop:=0<=b/\b<=10^30
noncomputable def Fc.okT:Fc->Prop
 | .first=>True
 | .prime b ps=>(1<=b/\b<=10^30)/\ps≠[]/\(∀ p∈ps,2<=p.1/\p.1<=10^30/\1<=p.2/\p.2<=100)/\Ris ps
 | .split a b=>(2<=a/\a<=10^30)/\2<=b/\b<=10^30
 | .power b=>1<=b/\b<=10^30
 | .root b=>1<=b/\b<=10^30
noncomputable def RoT (n:Int) (f:Fc):Prop:=(2<=n/\n<=10^30)/\f.okT/\(lineT n f).length<=4000000
noncomputable def RsT (rs:List (Int×Fc)):Prop:=rs≠[]/\rs.length<=200/\(∀ r∈rs,RoT r.1 r.2)/\(rs.map (·.1)).Pairwise (·<·)/\(textT rs).length<=4000000
theorem plain_facts {f:Fc}(hf:f.okT) (hw:(f.word == "prime")=false):∃ ns:List Int,f.facts=ns.map .int/\f.txt=ns.map numI/\ns.length<=2/\∀ k∈ns,In30 k:=by
 cases f with
 | first=>exact ⟨[],rfl,rfl,by simp,fun k hk=>by cases hk⟩
 | prime b ps=>exact absurd hw (by simp only [Fc.word];decide)
 | split a b =>
  obtain ⟨⟨a0,a1⟩,b0,b1⟩:=hf
  refine ⟨[a,b],rfl,rfl,by simp,fun k hk=>?_⟩
  simp only [List.mem_cons,List.not_mem_nil,or_false] at hk
  rcases hk with rfl|rfl
  ·exact ⟨by (first|lia|omega),a1⟩
  ·exact ⟨by (first|lia|omega),b1⟩
 | power b =>
  obtain ⟨b0,b1⟩:=hf
  exact ⟨[b],rfl,rfl,by simp,fun k hk=>by rw [List.mem_singleton.mp hk];exact ⟨by (first|lia|omega),b1⟩⟩
 | root b =>
  obtain ⟨b0,b1⟩:=hf
  exact ⟨[b],rfl,rfl,by simp,fun k hk=>by rw [List.mem_singleton.mp hk];exact ⟨by (first|lia|omega),b1⟩⟩
theorem sp1:(" " : Str)=⟨#[32]⟩:=by decide
theorem nl1:("\n" : Str)=⟨#[10]⟩:=by decide
theorem ct1:("^" : Str)=⟨#[94]⟩:=by decide
noncomputable def Wd (w:Str):Prop:=w.length<=64/\∀ c∈w.cps.toList,c≠32/\c≠10
theorem numI_len {k:Int}(h:In30 k):1<=(numI k).length/\(numI k).length<=31:=numT_len (by decide) (Nat.lt_of_le_of_lt (show k.toNat<=10^30 by have:=h.2;(first|lia|omega)) (by decide))
theorem numI_wd {k:Int}(h:In30 k):Wd (numI k):=⟨by have:=(numI_len h).2;(first|lia|omega),fun c hc=>by have:=numT_digits _ c hc;(first|lia|omega)⟩
theorem powT_wd {p:Int×Int}(h:In30 p.1) (h':In30 p.2):Wd (powT p):=by
 have l1:=(numI_len h).2
 have l2:=(numI_len h').2
 refine ⟨?_,fun c hc=>?_⟩
 ·have e1:(powT p).length=(numI p.1 ++ "^").length+(numI p.2).length:=Str.length_append _ _
  have e2:(numI p.1++("^" : Str)).length=(numI p.1).length+1:=Str.length_append _ _
  (first|lia|omega)
 ·unfold powT at hc
  rw [ct1,Str.cps_append,Str.cps_append,Array.toList_append,Array.toList_append] at hc
  simp only [List.mem_append,List.mem_singleton] at hc
  rcases hc with (hc|hc)|hc
  ·exact (numI_wd h).2 c hc
  ·(first|lia|omega)
  ·exact (numI_wd h').2 c hc
theorem word_wd (f:Fc):Wd f.word:=by
 unfold Wd
 cases f<;>(simp only [Fc.word];decide)
theorem txt_wd {f:Fc}(h:f.okT):∀ w∈f.txt,Wd w:=by
 cases hw:(f.word == "prime") with
 | false =>
  obtain ⟨ns,_,e,_,q⟩:=plain_facts h hw
  rw [e]
  intro w hx
  obtain ⟨k,hk,rfl⟩:=List.mem_map.mp hx
  exact numI_wd (q k hk)
 | true =>
  obtain ⟨b,ps,rfl⟩:=w_prime hw
  obtain ⟨⟨b0,b1⟩,_,hp,_⟩:=h
  intro w hx
  rcases List.mem_cons.mp hx with rfl|hx
  ·exact numI_wd ⟨by (first|lia|omega),b1⟩
  ·obtain ⟨p,hp',rfl⟩:=List.mem_map.mp hx
   have:=hp p hp'
   exact powT_wd ⟨by (first|lia|omega),by (first|lia|omega)⟩ ⟨by (first|lia|omega),by (first|lia|omega)⟩
theorem rowW_wd {n:Int}{f:Fc}(h:RoT n f):∀ w∈rowW n f,Wd w:=fun w hw=>by
 rcases List.mem_cons.mp hw with rfl|hw
 ·exact numI_wd ⟨by have:=h.1.1;(first|lia|omega),h.1.2⟩
 ·rcases List.mem_cons.mp hw with rfl|hw
  ·exact word_wd f
  ·exact txt_wd h.2.1 w hw
theorem join_snoc {sep:Str}:∀ {xs:List Str}{y:Str},xs≠[]->Str.join sep (xs++[y])=Str.join sep xs++sep++y
 | [],_,h=>absurd rfl h
 | [x],y,_=>rfl
 | x::z::r,y,_=>by
  have ih:=join_snoc (sep:=sep) (xs:=z::r) (y:=y) (by simp)
  show x++sep++Str.join sep ((z::r)++[y])=x++sep++Str.join sep (z::r)++sep++y
  rw [ih];simp only [Str.append_assoc]
theorem join_len {sep:Str}{B:Nat}:∀ {xs:List Str},(∀ x∈xs,x.length<=B)->(Str.join sep xs).length<=xs.length*(B+sep.length)
 | [],_=>Nat.zero_le _
 | [x],h=>by have:=h x (by simp);show x.length<=1*_;(first|lia|omega)
 | x::z::r,h=>by
  have ih:=join_len (sep:=sep) (xs:=z::r) (fun y hy=>h y (List.mem_cons_of_mem _ hy))
  have h1:=h x (by simp)
  show (x++sep++Str.join sep (z::r)).length<=((z::r).length+1)*_
  rw [Str.length_append,Str.length_append,Nat.succ_mul];(first|lia|omega)
theorem fold_len {s B:Nat}:∀ {xs:List Str}{a:Nat},(∀ x∈xs,x.length<=B)->xs.foldl (fun a x=>a+x.length+s) a<=a+xs.length*(B+s)
 | [],a,_=>by simp
 | x::r,a,h=>by
  have ih:=fold_len (s:=s) (xs:=r) (a:=a+x.length+s) (fun y hy=>h y (List.mem_cons_of_mem _ hy))
  have h1:=h x (by simp)
  rw [List.foldl_cons,List.length_cons,Nat.succ_mul];(first|lia|omega)
theorem joinOk_of {sep:Str}{xs:List Str}{B:Nat}(h:∀ x∈xs,x.length<=B) (hn:xs.length*(B+sep.length)<=2^24):JoinOk sep xs=true:=by
 have:=fold_len (s:=sep.length) (a:=0) h
 unfold JoinOk Builtin.Str.tooLong
 have e:Array.foldl (fun x1 x2=>x1+x2.length+sep.length) 0 xs.toArray=List.foldl (fun a x=>a+x.length+sep.length) 0 xs:=List.foldl_toArray _ _ _
 rw [e]
 simp only [Bool.not_eq_true',decide_eq_false_iff_not]
 show ¬ _>16777216
 (first|lia|omega)
theorem joinC_inv {c ch:Nat}:∀ {a:List (List Nat)},ch∈joinC c a->ch=c\/∃ l∈a,ch∈l
 | [],h=>by cases h
 | [x],h=>.inr ⟨x,by simp,h⟩
 | x::y::r,h=>by
  have h:ch∈x++c::joinC c (y::r):=h
  rcases List.mem_append.mp h with h|h
  ·exact .inr ⟨x,by simp,h⟩
  ·rcases List.mem_cons.mp h with rfl|h
   ·exact .inl rfl
   ·rcases joinC_inv h with h|⟨l,hl,q⟩
    ·exact .inl h
    ·exact .inr ⟨l,List.mem_cons_of_mem _ hl,q⟩
theorem join_count {sep:Str}(hs:sep.length=1):∀ (xs:List Str),xs.length<=(Str.join sep xs).length+1
 | []=>Nat.zero_le _
 | [x]=>Nat.succ_le_succ (Nat.zero_le _)
 | x::y::r=>by
  have ih:=join_count hs (y::r)
  show (y::r).length+1<=(x++sep++Str.join sep (y::r)).length+1
  rw [Str.length_append,Str.length_append,hs];(first|lia|omega)
theorem fold_at {s:Nat}:∀ {xs:List Str}{a:Nat},xs.foldl (fun a x=>a+x.length+s) a=a+xs.foldl (fun a x=>a+x.length+s) 0
 | [],a=>rfl
 | x::r,a=>by
  rw [List.foldl_cons,List.foldl_cons,fold_at (xs:=r) (a:=a+x.length+s),fold_at (xs:=r) (a:=0+x.length+s)];(first|lia|omega)
theorem fold_join {sep:Str}:∀ {xs:List Str},xs≠[]->xs.foldl (fun a x=>a+x.length+sep.length) 0=(Str.join sep xs).length+sep.length
 | [],h=>absurd rfl h
 | [x],_=>by simp [Str.join]
 | x::y::r,_=>by
  have ih:=fold_join (sep:=sep) (xs:=y::r) (by simp)
  show _=(x++sep++Str.join sep (y::r)).length+sep.length
  rw [List.foldl_cons,fold_at,ih,Str.length_append,Str.length_append];(first|lia|omega)
theorem joinOk_len {sep:Str}{xs:List Str}(h:(Str.join sep xs).length+sep.length<=2^24):JoinOk sep xs=true:=by
 by_cases hx:xs=[]
 ·subst hx;exact joinOk_of (B:=0) (fun x hx=>by cases hx) (by simp)
 ·unfold JoinOk Builtin.Str.tooLong
  have e:Array.foldl (fun x1 x2=>x1+x2.length+sep.length) 0 xs.toArray=List.foldl (fun a x=>a+x.length+sep.length) 0 xs:=List.foldl_toArray _ _ _
  rw [e,fold_join hx]
  simp only [Bool.not_eq_true',decide_eq_false_iff_not]
  show ¬ _>16777216
  (first|lia|omega)
theorem rowW_len {n:Int}{f:Fc}(h:RoT n f):(rowW n f).length<=4000001:=by
 have:=join_count (sep := " ") rfl (rowW n f)
 have h2:(Str.join " " (rowW n f)).length<=4000000:=h.2.2
 (first|lia|omega)
theorem ps_len {n b:Int}{ps:List (Int×Int)}(h:RoT n (.prime b ps)):ps.length<=4000001:=by
 have:=rowW_len h
 simp only [rowW,Fc.txt,List.length_cons,List.length_map] at this;(first|lia|omega)
theorem line_joinOk {n:Int}{f:Fc}(h:RoT n f):JoinOk " " (rowW n f)=true:=joinOk_len (Nat.le_trans (Nat.add_le_add_right h.2.2 1) (by decide))
theorem RoK.T {k:Nat}{n:Int}{f:Fc}(h:RoK k n f):RoT n f/\(lineT n f).length<=6695:=by
 obtain ⟨hk,n0,n1,hf⟩:=h
 have hok:f.okT/\f.txt.length<=101:=by
  cases f with
  | first=>exact ⟨trivial,by simp [Fc.txt]⟩
  | prime b ps =>
   obtain ⟨hb,⟨h1,h2,h3⟩,h4⟩:=hf
   exact ⟨⟨hb,h1,fun p hp=>by have:=h3 p hp;(first|lia|omega),h4⟩,by simp only [Fc.txt,List.length_cons,List.length_map];(first|lia|omega)⟩
  | split a b=>obtain ⟨⟨h1,h2⟩,h3,h4⟩:=hf;exact ⟨⟨⟨h1,by (first|lia|omega)⟩,h3,by (first|lia|omega)⟩,by simp [Fc.txt]⟩
  | power b=>exact ⟨hf,by simp [Fc.txt]⟩
  | root b=>exact ⟨hf,by simp [Fc.txt]⟩
 have wd:∀ w∈rowW n f,Wd w:=fun w hw=>by
  rcases List.mem_cons.mp hw with rfl|hw
  ·exact numI_wd ⟨by (first|lia|omega),by (first|lia|omega)⟩
  ·rcases List.mem_cons.mp hw with rfl|hw
   ·exact word_wd f
   ·exact txt_wd hok.1 w hw
 have h1:=join_len (sep := " ") fun w hw=>(wd w hw).1
 have h3:(" " : Str).length=1:=rfl
 have h2:(rowW n f).length<=103:=by have:=hok.2;simp only [rowW,List.length_cons];(first|lia|omega)
 rw [h3] at h1
 have ll:(lineT n f).length<=6695:=Nat.le_trans h1 (Nat.mul_le_mul_right 65 h2)
 exact ⟨⟨⟨n0,by (first|lia|omega)⟩,hok.1,by (first|lia|omega)⟩,ll⟩
theorem RsK.T {k:Nat}{rs:List (Int×Fc)}(h:RsK k rs):RsT rs/\(textT rs).length<=425000:=by
 have hl:=h.2.1
 have h1:=join_len (sep := "\n") (B:=6695) (xs:=rs.map lineP) fun w hw=>by
  obtain ⟨r,hr,rfl⟩:=List.mem_map.mp hw
  exact (h.2.2.1 r hr).T.2
 have h3:("\n" : Str).length=1:=rfl
 rw [h3,List.length_map] at h1
 have tl:(textT rs).length<=425000:=Nat.le_trans h1 (Nat.le_trans (Nat.mul_le_mul_right 6696 (show rs.length<=63 by (first|lia|omega))) (by decide))
 exact ⟨⟨h.1,by (first|lia|omega),fun r hr=>(h.2.2.1 r hr).T.1,h.2.2.2,by (first|lia|omega)⟩,tl⟩
theorem line_free {n:Int}{f:Fc}(h:RoT n f):10∉(lineT n f).cps.toList:=fun hc=>by
 unfold lineT at hc
 rw [sp1,join_list] at hc
 rcases joinC_inv hc with z|⟨l,hl,q⟩
 ·cases z
 ·obtain ⟨w,hw,rfl⟩:=List.mem_map.mp hl
  exact ((rowW_wd h w hw).2 10 q).2 rfl
theorem line_split {n:Int}{f:Fc}(h:RoT n f):Txt.split (lineT n f) ⟨#[32]⟩=rowW n f:=by
 unfold lineT
 rw [sp1]
 exact split_join (fun p hp z=>((rowW_wd h p hp).2 32 z).1 rfl) (by simp [rowW])
theorem pow_split {p:Int×Int}:Txt.split (powT p) ⟨#[94]⟩=[numI p.1,numI p.2]:=by
 have e:powT p=Str.join ⟨#[94]⟩ [numI p.1,numI p.2]:=by unfold powT;rw [ct1];rfl
 rw [e]
 refine split_join (fun w hw z=>?_) (by simp)
 simp only [List.mem_cons,List.not_mem_nil,or_false] at hw
 rcases hw with rfl|rfl<;>(have:=numT_digits _ 94 z;(first|lia|omega))
theorem text_joinOk {rs:List (Int×Fc)}(h:RsT rs):JoinOk "\n" (rs.map lineP)=true:=joinOk_len (Nat.le_trans (Nat.add_le_add_right h.2.2.2.2 1) (by decide))
theorem text_split {rs:List (Int×Fc)}(h:∀ r∈rs,RoT r.1 r.2) (ne:rs≠[]):Txt.split (textT rs) ⟨#[10]⟩=rs.map lineP:=by
 unfold textT
 rw [nl1]
 refine split_join (fun p hp z=>?_) fun e=>ne (List.map_eq_nil_iff.mp e)
 obtain ⟨r,hr,rfl⟩:=List.mem_map.mp hp
 exact line_free (h r hr) z
end
section
open PySem PySem.W PyProof.Rows
noncomputable def Asc (t:Str):Prop:=∀ c∈t.cps.toList,c<128
noncomputable def Fig (w:Str):Prop:=(1<=w.length/\w.length<=31)/\∀ c∈w.cps.toList,48<=c/\c<=57
noncomputable def vN (w:Str):Int:=((NumText.digitsVal w.cps.toList:Nat):Int)
theorem digv_lt:∀ (l:List Nat) (a:Nat),(∀ c∈l,48<=c/\c<=57)->l.foldl (fun n c=>n*10+(c-48)) a<(a+1)*10^l.length
 | [],a,_=>by simp
 | c::l,a,h=>by
  have h1:=h c (by simp)
  have ih:=digv_lt l (a*10+(c-48)) fun x hx=>h x (by simp [hx])
  rw [List.foldl_cons]
  refine Nat.lt_of_lt_of_le ih ?_
  rw [List.length_cons,Nat.pow_succ,Nat.mul_comm (10^l.length) 10,←Nat.mul_assoc]
  exact Nat.mul_le_mul_right _ (by (first|lia|omega))
theorem Fig.reads {w:Str}(h:Fig w):PySem.intText? w=some (vN w):=intText_digits h.2 (fun e=>by
 have:w.cps.toList.length=w.length:=Array.length_toList
 rw [e] at this;have:=h.1.1;simp at *;(first|lia|omega)) (by have:=h.1.2;(first|lia|omega))
theorem Fig.lt {w:Str}(h:Fig w):NumText.digitsVal w.cps.toList<10^w.length:=by
 have:=digv_lt w.cps.toList 0 h.2
 rw [Array.length_toList] at this
 rw [Nat.zero_add,Nat.one_mul] at this
 exact this
theorem numI_vN {w:Str}(h:Fig w):(numI (vN w)).length<=w.length:=by
 unfold numI vN
 rw [Int.toNat_natCast]
 exact (numT_len h.1.1 h.lt).2
noncomputable def partsP (w:Str):List Str:=Txt.split w ⟨#[94]⟩
noncomputable def PowG (w:Str):Prop:=(partsP w).length=2/\∀ x∈partsP w,Fig x
noncomputable def pV (w:Str):Int×Int:=(vN ((partsP w).getD 0 ""),vN ((partsP w).getD 1 ""))
theorem powT_len {w:Str}(h:PowG w):(powT (pV w)).length<=w.length:=by
 have e:=StrLaws.join_split w ⟨#[94]⟩
 unfold pV
 unfold PowG partsP at h
 unfold partsP
 generalize Txt.split w ⟨#[94]⟩=l at *
 obtain ⟨h1,h2⟩:=h
 match l,h1 with
 | [a,b],_ =>
  have ha:=numI_vN (h2 a (by simp))
  have hb:=numI_vN (h2 b (by simp))
  have e1:w.length=(a++(⟨#[94]⟩:Str)++b).length:=by rw [←e];rfl
  have s1:(⟨#[94]⟩:Str).length=1:=rfl
  rw [Str.length_append,Str.length_append,s1] at e1
  have s2:("^" : Str).length=1:=rfl
  show (numI (vN a) ++ "^" ++ numI (vN b)).length<=_
  rw [Str.length_append,Str.length_append,s2];(first|lia|omega)
noncomputable def wordsP (t:Str):List Str:=Txt.split t ⟨#[32]⟩
noncomputable def linesP (t:Str):List Str:=Txt.split t ⟨#[10]⟩
noncomputable def FacG (w:Str) (r:List Str):Prop:=if w == "prime" then 2<=r.length/\(∀ x∈r.take 1,Fig x)/\∀ x∈r.drop 1,PowG x else ∀ x∈r,Fig x
noncomputable def facV (w:Str) (r:List Str):List AV:=if w == "prime" then [.int (vN (r.getD 0 "")),.tup ((r.drop 1).map fun x=>prAV (pV x))] else r.map fun x=>.int (vN x)
noncomputable def RowG (l:Str):Prop:=∃ a w r,wordsP l=a::w::r/\Fig a/\FacG w r
noncomputable def rowV (l:Str):AV:=.tup [.int (vN ((wordsP l).getD 0 "")),.str ((wordsP l).getD 1 ""),.tup (facV ((wordsP l).getD 1 "") ((wordsP l).drop 2))]
inductive Shr:List Str->List Str->Prop
 | nil:Shr [] []
 | cons {x y:Str}{xs ys:List Str}:x.length<=y.length->Shr xs ys->Shr (x::xs) (y::ys)
theorem len_ge2 {α:Type}{l:List α}(h:2<=l.length):∃ a b r,l=a::b::r:=by
 match l,h with
 | a::b::r,_=>exact ⟨a,b,r,rfl⟩
theorem len_is2 {α:Type}{l:List α}(h:l.length=2):∃ a b,l=[a,b]:=by
 match l,h with
 | [a,b],_=>exact ⟨a,b,rfl⟩
theorem len_is1 {α:Type}{l:List α}(h:l.length=1):∃ a,l=[a]:=by
 match l,h with
 | [a],_=>exact ⟨a,rfl⟩
theorem join_mono {sep:Str}:∀ {xs ys:List Str},Shr xs ys->(Str.join sep xs).length<=(Str.join sep ys).length:=by
 intro xs ys h
 induction h with
 | nil=>exact Nat.le_refl _
 | cons hx h ih =>
  cases h with
  | nil=>exact hx
  | cons hy h' =>
   rename_i x y x' y' xs ys
   show (x++sep++Str.join sep (x'::xs)).length<=(y++sep++Str.join sep (y'::ys)).length
   rw [Str.length_append,Str.length_append,Str.length_append,Str.length_append];(first|lia|omega)
theorem forall_map {α:Type}{f g:α->Str}{l:List α}(h:∀ x∈l,(f x).length<=(g x).length):Shr (l.map f) (l.map g):=by
 induction l with
 | nil=>exact .nil
 | cons x l ih=>exact .cons (h x (by simp)) (ih fun y hy=>h y (by simp [hy]))
theorem risB_inv:∀ {ps:List (Int×Int)}{a:Int},risB a (ps.map prAV)=true->Ris ps/\∀ p∈ps,a<p.1/\p.1<=BIG/\1<=p.2/\p.2<=100
 | [],_,_=>⟨List.Pairwise.nil,fun p hp=>by cases hp⟩
 | p::r,a,h=>by
  have h:(whB (.int p.1) (a+1) BIG&&whB (.int p.2) 1 100&&risB p.1 (r.map prAV))=true:=h
  simp only [Bool.and_eq_true,whB,decide_eq_true_eq] at h
  obtain ⟨⟨⟨h1,h2⟩,h3,h4⟩,h5⟩:=h
  obtain ⟨q1,q2⟩:=risB_inv h5
  refine ⟨List.Pairwise.cons (fun q hq=>(q2 q hq).1) q1,fun q hq=>?_⟩
  rcases List.mem_cons.mp hq with rfl|hq
  ·exact ⟨by (first|lia|omega),h2,h3,h4⟩
  ·have:=q2 q hq;exact ⟨by (first|lia|omega),this.2⟩
theorem fac_inv {w:Str}{r:List Str}(hg:FacG w r) (hw:wordsL.contains w=true) (hf:facB w (facV w r)=true) :
  ∃ f:Fc,f.okT/\f.word=w/\facV w r=f.facts/\Shr f.txt r:=by
 have hB:BIG=10^30:=rfl
 simp only [wordsL,List.contains_eq_mem,List.mem_cons,List.not_mem_nil,or_false,decide_eq_true_eq] at hw
 have num:∀ (k:Nat) (a:Int),w ≠ "prime" -> (∀ fs:List AV,facB w fs=true->fs.length=k/\∀ v∈fs,whB v a BIG=true)->r.length=k/\∀ x∈r,Fig x/\a<=vN x/\vN x<=10^30:=fun k a hp q=>by
  have e:(w == "prime")=false:=by simpa using hp
  unfold FacG at hg;unfold facV at hf
  rw [e] at hg hf
  simp only [Bool.false_eq_true,if_false] at hg hf
  obtain ⟨q1,q2⟩:=q _ hf
  refine ⟨by simpa using q1,fun x hx=>?_⟩
  have:=q2 (.int (vN x)) (List.mem_map.mpr ⟨x,hx,rfl⟩)
  simp only [whB,Bool.and_eq_true,decide_eq_true_eq] at this
  exact ⟨hg x hx,this.1,by (first|lia|omega)⟩
 have fv:w ≠ "prime" -> facV w r=r.map fun x=>.int (vN x):=fun hp=>by
  have e:(w == "prime")=false:=by simpa using hp
  unfold facV;rw [e];rfl
 rcases hw with rfl|rfl|rfl|rfl|rfl
 ·obtain ⟨h1,_⟩:=num 0 0 (by decide) fun fs h=>by
   have h:decide ((fs.length:Int)=0)=true:=h
   rw [decide_eq_true_eq] at h
   have:fs=[]:=List.length_eq_zero_iff.mp (by (first|lia|omega))
   subst this
   exact ⟨rfl,fun v hv=>by cases hv⟩
  have:r=[]:=List.length_eq_zero_iff.mp h1
  subst this
  exact ⟨.first,trivial,rfl,rfl,.nil⟩
 ·have hg:2<=r.length/\(∀ x∈r.take 1,Fig x)/\∀ x∈r.drop 1,PowG x:=hg
  obtain ⟨g1,g2,g3⟩:=hg
  obtain ⟨b,p,r,rfl⟩:=len_ge2 g1
  ·skip
   have hf:(whB (.int (vN b)) 1 BIG&&powB (.tup ((p::r).map fun x=>prAV (pV x))))=true:=hf
   simp only [whB,Bool.and_eq_true,decide_eq_true_eq] at hf
   obtain ⟨⟨f1,f2⟩,f3⟩:=hf
   have e:((p::r).map fun x=>prAV (pV x))=((p::r).map pV).map prAV:=by rw [List.map_map];rfl
   have f3:risB 1 ((p::r).map fun x=>prAV (pV x))=true:=f3
   rw [e] at f3
   obtain ⟨q1,q2⟩:=risB_inv f3
   refine ⟨.prime (vN b) ((p::r).map pV),⟨⟨f1,by (first|lia|omega)⟩,by simp,fun x hx=>?_,q1⟩,rfl,?_,?_⟩
   ·have:=q2 x hx;exact ⟨by (first|lia|omega),by (first|lia|omega),this.2.2.1,this.2.2.2⟩
   ·show [AV.int (vN b),AV.tup ((p::r).map fun x=>prAV (pV x))]=[.int (vN b),psT ((p::r).map pV)]
    rw [e];rfl
   ·refine .cons (numI_vN (g2 b (by simp))) ?_
    rw [List.map_map]
    have:=forall_map (f:=fun x=>powT (pV x)) (g:=id) (l:=p::r) fun x hx=>powT_len (g3 x hx)
    rw [List.map_id] at this
    exact this
 ·obtain ⟨h1,h2⟩:=num 2 2 (by decide) fun fs h=>by
   match fs,h with
   | [a,b],h =>
    have h:(whB a 2 BIG&&whB b 2 BIG)=true:=h
    rw [Bool.and_eq_true] at h
    exact ⟨rfl,fun v hv=>by
     simp only [List.mem_cons,List.not_mem_nil,or_false] at hv
     rcases hv with rfl|rfl
     ·exact h.1
     ·exact h.2⟩
  obtain ⟨a,b,rfl⟩:=len_is2 h1
  ·skip
   have ha:=h2 a (by simp)
   have hb:=h2 b (by simp)
   exact ⟨.split (vN a) (vN b),⟨⟨ha.2.1,ha.2.2⟩,hb.2.1,hb.2.2⟩,rfl,fv (by decide),.cons (numI_vN ha.1) (.cons (numI_vN hb.1) .nil)⟩
 ·obtain ⟨h1,h2⟩:=num 1 1 (by decide) fun fs h=>by
   match fs,h with
   | [a],h=>exact ⟨rfl,fun v hv=>by rw [List.mem_singleton.mp hv];exact h⟩
  obtain ⟨a,rfl⟩:=len_is1 h1
  ·skip
   have ha:=h2 a (by simp)
   exact ⟨.power (vN a),⟨ha.2.1,ha.2.2⟩,rfl,fv (by decide),.cons (numI_vN ha.1) .nil⟩
 ·obtain ⟨h1,h2⟩:=num 1 1 (by decide) fun fs h=>by
   match fs,h with
   | [a],h=>exact ⟨rfl,fun v hv=>by rw [List.mem_singleton.mp hv];exact h⟩
  obtain ⟨a,rfl⟩:=len_is1 h1
  ·skip
   have ha:=h2 a (by simp)
   exact ⟨.root (vN a),⟨ha.2.1,ha.2.2⟩,rfl,fv (by decide),.cons (numI_vN ha.1) .nil⟩
theorem row_inv {l:Str}(hl:l.length<=4000000) (hg:RowG l) (hb:rowB (rowV l)=true):∃ r:Int×Fc,RoT r.1 r.2/\rowV l=roP r/\(lineP r).length<=l.length:=by
 have hB:BIG=10^30:=rfl
 obtain ⟨a,w,r,e,ha,hf⟩:=hg
 have ev:rowV l=.tup [.int (vN a),.str w,.tup (facV w r)]:=by unfold rowV;rw [e];rfl
 rw [ev,rowB_at,Bool.and_eq_true,Bool.and_eq_true] at hb
 obtain ⟨⟨h1,h2⟩,h3⟩:=hb
 simp only [whB,Bool.and_eq_true,decide_eq_true_eq] at h1
 obtain ⟨f,f1,f2,f3,f4⟩:=fac_inv hf h2 h3
 have el:=StrLaws.join_split l ⟨#[32]⟩
 have e':Txt.split l ⟨#[32]⟩=a::w::r:=e
 rw [e'] at el
 have ll:(lineT (vN a) f).length<=l.length:=by
  rw [←el]
  unfold lineT rowW
  rw [←sp1]
  exact join_mono (.cons (numI_vN ha) (.cons (by rw [f2];exact Nat.le_refl _) f4))
 refine ⟨(vN a,f),⟨⟨h1.1,by (first|lia|omega)⟩,f1,by show (lineT (vN a) f).length<=_;(first|lia|omega)⟩,?_,ll⟩
 rw [ev,f3,←f2];rfl
theorem rows_inv:∀ {ls:List Str},(∀ l∈ls,l.length<=4000000/\RowG l/\rowB (rowV l)=true)->∃ rs:List (Int×Fc),ls.map rowV=rs.map roP/\(∀ r∈rs,RoT r.1 r.2)/\Shr (rs.map lineP) ls
 | [],_=>⟨[],rfl,(fun r hr=>by cases hr),.nil⟩
 | l::ls,h=>by
  obtain ⟨h1,h2,h3⟩:=h l (by simp)
  obtain ⟨r,r1,r2,r3⟩:=row_inv h1 h2 h3
  obtain ⟨rs,q1,q2,q3⟩:=rows_inv (ls:=ls) fun x hx=>h x (List.mem_cons_of_mem _ hx)
  refine ⟨r::rs,by rw [List.map_cons,List.map_cons,r2,q1],fun x hx=>?_,.cons r3 q3⟩
  rcases List.mem_cons.mp hx with rfl|hx
  ·exact r1
  ·exact q2 x hx
theorem adj_inv:∀ {rs:List (Int×Fc)},adjL (rs.map roP)=true->(rs.map (·.1)).Pairwise (·<·)
 | [],_=>.nil
 | [_],_=>by simp
 | x::y::r,h=>by
  have h:(decide (x.1<y.1)&&adjL ((y::r).map roP))=true:=h
  rw [Bool.and_eq_true,decide_eq_true_eq] at h
  have ih:=adj_inv h.2
  refine List.Pairwise.cons (fun a ha=>?_) ih
  have hy:=List.pairwise_cons.mp ih
  rcases List.mem_cons.mp ha with rfl|ha
  ·exact h.1
  ·exact Int.lt_trans h.1 (hy.1 a ha)
theorem split_mem_len {t l:Str}{c:Nat}(h:l∈Txt.split t ⟨#[c]⟩):l.length<=t.length:=by
 have e:=StrLaws.join_split t ⟨#[c]⟩
 have:∀ {xs:List Str},l∈xs->l.length<=(Str.join (⟨#[c]⟩:Str) xs).length:=by
  intro xs hx
  induction xs with
  | nil=>cases hx
  | cons x r ih =>
   cases r with
   | nil=>rw [List.mem_singleton.mp hx];exact Nat.le_refl _
   | cons y r =>
    show l.length<=(x++(⟨#[c]⟩:Str)++Str.join ⟨#[c]⟩ (y::r)).length
    rw [Str.length_append,Str.length_append]
    rcases List.mem_cons.mp hx with rfl|hx
    ·(first|lia|omega)
    ·have:=ih hx;(first|lia|omega)
 have:=this h
 rwa [e] at this
theorem slip_inv {t:Str}(ht:t.length<=4000000) (hg:∀ l∈linesP t,RowG l) (hb:slipB (.tup ((linesP t).map rowV))=true):∃ rs,RsT rs/\(linesP t).map rowV=rs.map roP:=by
 rw [slip_due,Bool.and_eq_true,Bool.and_eq_true] at hb
 obtain ⟨h1,h2,h3⟩:=hb
 rw [List.all_eq_true] at h2
 obtain ⟨rs,q1,q2,q3⟩:=rows_inv (ls:=linesP t) fun l hl=>⟨Nat.le_trans (split_mem_len hl) ht,hg l hl,h2 _ (List.mem_map.mpr ⟨l,hl,rfl⟩)⟩
 rw [q1] at h1 h3
 simp only [lenB,Bool.and_eq_true,decide_eq_true_eq,List.length_map] at h1
 have tl:(textT rs).length<=t.length:=by
  have e:=StrLaws.join_split t ⟨#[10]⟩
  have:=join_mono (sep := "\n") q3
  rw [nl1] at this
  have e':Str.join (⟨#[10]⟩:Str) (linesP t)=t:=e
  rw [e'] at this
  unfold textT;rw [nl1];exact this
 exact ⟨rs,⟨fun z=>by subst z;simp at h1,by (first|lia|omega),q2,adj_inv h3,by (first|lia|omega)⟩,q1⟩
theorem fig_num {k:Int}(h:In30 k):Fig (numI k)/\vN (numI k)=k:=by
 refine ⟨⟨numI_len h,fun c hc=>numT_digits _ c hc⟩,?_⟩
 unfold vN numI
 rw [numT_cps,KIN.val_back]
 exact Int.toNat_of_nonneg h.1
theorem pow_num {p:Int×Int}(h1:In30 p.1) (h2:In30 p.2):PowG (powT p)/\pV (powT p)=p:=by
 unfold PowG pV partsP
 rw [pow_split]
 refine ⟨⟨rfl,fun x hx=>?_⟩,?_⟩
 ·simp only [List.mem_cons,List.not_mem_nil,or_false] at hx
  rcases hx with rfl|rfl
  ·exact (fig_num h1).1
  ·exact (fig_num h2).1
 ·show (vN (numI p.1),vN (numI p.2))=p
  rw [(fig_num h1).2,(fig_num h2).2]
theorem line_tells {n:Int}{f:Fc}(h:RoT n f):RowG (lineT n f)/\rowV (lineT n f)=roA n f:=by
 have n0:In30 n:=⟨by have:=h.1.1;(first|lia|omega),h.1.2⟩
 have e:wordsP (lineT n f)=numI n::f.word::f.txt:=line_split h
 have fac:FacG f.word f.txt/\facV f.word f.txt=f.facts:=by
  unfold FacG facV
  cases hw:(f.word == "prime") with
  | false =>
   obtain ⟨ns,e1,e2,_,hn⟩:=plain_facts h.2.1 hw
   rw [e1,e2]
   simp only [Bool.false_eq_true,if_false]
   refine ⟨fun x hx=>?_,?_⟩
   ·obtain ⟨k,hk,rfl⟩:=List.mem_map.mp hx
    exact (fig_num (hn k hk)).1
   ·rw [List.map_map]
    exact List.map_congr_left fun k hk=>by show AV.int (vN (numI k))=_;rw [(fig_num (hn k hk)).2]
  | true =>
   obtain ⟨b,ps,rfl⟩:=w_prime hw
   obtain ⟨⟨b0,b1⟩,pne,hps,_⟩:=h.2.1
   simp only [if_true]
   have hb:=fig_num (k:=b) ⟨by (first|lia|omega),b1⟩
   have hp:∀ p∈ps,PowG (powT p)/\pV (powT p)=p:=fun p hp=>by
    have:=hps p hp
    exact pow_num ⟨by (first|lia|omega),by (first|lia|omega)⟩ ⟨by (first|lia|omega),by (first|lia|omega)⟩
   have l1:1<=ps.length:=List.length_pos_iff.mpr pne
   refine ⟨⟨by simp [Fc.txt];(first|lia|omega),fun x hx=>?_,fun x hx=>?_⟩,?_⟩
   ·rw [show x=numI b by simpa [Fc.txt] using hx];exact hb.1
   ·have hx:x∈ps.map powT:=by simpa [Fc.txt] using hx
    obtain ⟨p,hp',rfl⟩:=List.mem_map.mp hx
    exact (hp p hp').1
   ·show [AV.int (vN (numI b)),AV.tup ((ps.map powT).map fun x=>prAV (pV x))]=[.int b,.tup (ps.map prAV)]
    rw [hb.2,List.map_map]
    congr 3
    exact List.map_congr_left fun p hp'=>by show prAV (pV (powT p))=_;rw [(hp p hp').2]
 refine ⟨⟨_,_,_,e,(fig_num n0).1,fac.1⟩,?_⟩
 unfold rowV
 rw [e]
 show AV.tup [.int (vN (numI n)),.str f.word,.tup (facV f.word f.txt)]=roA n f
 rw [(fig_num n0).2,fac.2];rfl
end
section
open PySem PySem.W PyProof.Rows
set_option Elab.async false
set_option maxRecDepth 100000
set_option maxHeartbeats 8000000
noncomputable def c_FIGURES:AV:=.str (Str.ofString "0123456789")
noncomputable def c_MOST_FIGURES:AV:=.int 31
noncomputable def m_row_text:MF:=⟨1,8,
 [.asgT [1,2,3] (.loc 0),
 .asg 4 (.lst [.strI (.loc 1),.loc 2]),
 .ite (.cmp .eq (.loc 2) (.cst (.str "prime"))) [.expr (.meth .append (.loc 4) [.strI (.idx (.loc 3) (.cst (.int 0)))]),
  .forr true [5,6] .plain [.idx (.loc 3) (.cst (.int 1))] [.expr (.meth .append (.loc 4) [.fmt2 "^" (.loc 5) (.loc 6)])]] [.forr false [7] .plain [.loc 3] [.expr (.meth .append (.loc 4) [.strI (.loc 7)])]],
 .ret (.joinS (.cst (.str " ")) (.loc 4))]⟩
noncomputable def m_written:MF:=⟨1,1,
 [.ret (.joinS (.cst (.str "\n")) (.comp false 1 (.call "row_text" [.loc 1]) .plain [.loc 0] []))]⟩
noncomputable def m_number_of:MF:=⟨1,1,
 [.ite (.or2 (.not (.cmp2 .le .le (.cst (.int 1)) (.lenS (.loc 0)) (.cst c_MOST_FIGURES))) (.not (.bi .all [.comp false 1 (.inS (.loc 1) (.cst c_FIGURES)) .plain [.loc 0] []]))) [.raise "NoText" [.cst (.str "no number")]] [],
 .ret (.intS (.loc 0))]⟩
noncomputable def m_power_of (R_number_of:Rais):MF:=⟨1,2,
 [.asg 1 (.splitS (.loc 0) (.cst (.str "^"))),
 .ite (.cmp .ne (.bi .len [.loc 1]) (.cst (.int 2))) [.raise "NoText" [.cst (.str "no power")]] [],
 .orR (.ret (.tup [.call "number_of" [.idx (.loc 1) (.cst (.int 0))],.call "number_of" [.idx (.loc 1) (.cst (.int 1))]])) (.or2 (.call [.idx (.loc 1) (.cst (.int 0))] R_number_of) (.tup [.call "number_of" [.idx (.loc 1) (.cst (.int 0))]] (.call [.idx (.loc 1) (.cst (.int 1))] R_number_of)))]⟩
noncomputable def m_row_of (R_number_of:Rais) (R_power_of:Rais):MF:=⟨1,3,
 [.asg 1 (.splitS (.loc 0) (.cst (.str " "))),
 .ite (.cmp .lt (.bi .len [.loc 1]) (.cst (.int 2))) [.raise "NoText" [.cst (.str "no row")]] [],
 .ite (.cmp .eq (.idx (.loc 1) (.cst (.int 1))) (.cst (.str "prime"))) [.ite (.cmp .lt (.bi .len [.loc 1]) (.cst (.int 4))) [.raise "NoText" [.cst (.str "no row")]] [],
  .orR (.asg 2 (.tup [.call "number_of" [.idx (.loc 1) (.cst (.int 2))],.bi .tuple [.comp false 1 (.call "power_of" [.loc 3]) .plain [.slc (.loc 1) [.cst (.int 3)] []] []]])) (.or2 (.call [.idx (.loc 1) (.cst (.int 2))] R_number_of) (.tup [.call "number_of" [.idx (.loc 1) (.cst (.int 2))]] (.comp (.call "power_of" [.loc 3]) [.slc (.loc 1) [.cst (.int 3)] []] [.loc 3] R_power_of)))] [.orR (.asg 2 (.bi .tuple [.comp false 1 (.call "number_of" [.loc 3]) .plain [.slc (.loc 1) [.cst (.int 2)] []] []])) (.comp (.call "number_of" [.loc 3]) [.slc (.loc 1) [.cst (.int 2)] []] [.loc 3] R_number_of)],
 .orR (.ret (.tup [.call "number_of" [.idx (.loc 1) (.cst (.int 0))],.idx (.loc 1) (.cst (.int 1)),.loc 2])) (.call [.idx (.loc 1) (.cst (.int 0))] R_number_of)]⟩
noncomputable def m_read (R_row_of:Rais):MF:=⟨1,2,
 [.orR (.asg 1 (.bi .tuple [.comp false 1 (.call "row_of" [.loc 2]) .plain [.splitS (.loc 0) (.cst (.str "\n"))] []])) (.comp (.call "row_of" [.loc 2]) [.splitS (.loc 0) (.cst (.str "\n"))] [.loc 2] R_row_of),
 .ite (.or2 (.not (.call "is_slip" [.loc 1])) (.cmp .ne (.call "written" [.loc 1]) (.loc 0))) [.raise "NoText" [.cst (.str "no text of a slip")]] [],
 .ret (.loc 1)]⟩
noncomputable def m_law_line:MF:=⟨1,5,
 [.asg 1 (.bin .add (.bin .add (.strI (.idx (.loc 0) (.cst (.int 0)))) (.cst (.str " "))) (.idx (.loc 0) (.cst (.int 1)))),
 .ite (.cmp .eq (.idx (.loc 0) (.cst (.int 1))) (.cst (.str "prime"))) [.asg 1 (.bin .add (.bin .add (.loc 1) (.cst (.str " "))) (.strI (.idx (.idx (.loc 0) (.cst (.int 2))) (.cst (.int 0))))),
  .forr true [2,3] .plain [.idx (.idx (.loc 0) (.cst (.int 2))) (.cst (.int 1))] [.asg 1 (.bin .add (.bin .add (.bin .add (.bin .add (.loc 1) (.cst (.str " "))) (.strI (.loc 2))) (.cst (.str "^"))) (.strI (.loc 3)))],
  .ret (.loc 1)] [],
 .forr false [4] .plain [.idx (.loc 0) (.cst (.int 2))] [.asg 1 (.bin .add (.bin .add (.loc 1) (.cst (.str " "))) (.strI (.loc 4)))],
 .ret (.loc 1)]⟩
noncomputable def m_law_slip_right:MF:=⟨1,2,
 [.ite (.or2 (.not (.isi (.loc 0) .tuple)) (.or2 (.not (.cmp2 .le .le (.cst (.int 1)) (.bi .len [.loc 0]) (.cst (.int 200)))) (.not (.bi .all [.comp false 1 (.call "_law_row_right" [.loc 2]) .plain [.loc 0] []])))) [.ret (.cst (.bool false))] [],
 .forr false [1] .range [.cst (.int 1),.bi .len [.loc 0]] [.ite (.cmp .ge (.idx (.idx (.loc 0) (.bin .sub (.loc 1) (.cst (.int 1)))) (.cst (.int 0))) (.idx (.idx (.loc 0) (.loc 1)) (.cst (.int 0)))) [.ret (.cst (.bool false))] []],
 .ret (.cst (.bool true))]⟩
noncomputable def m_law_changed:MF:=⟨3,11,
 [.asg 3 (.bin .mod (.loc 2) (.bin .add (.cst (.int 1)) (.lenS (.loc 0)))),
 .asg 4 (.cst (.str "0123456789^ \nfirstpowelmdo+-_.,;:ABZ!#~")),
 .asg 5 (.idxS (.loc 4) (.bin .mod (.bin .fdiv (.loc 1) (.cst (.int 10))) (.lenS (.loc 4)))),
 .ite (.cmp .eq (.bin .mod (.loc 1) (.cst (.int 10))) (.cst (.int 0))) [.ret (.bin .add (.slcS (.loc 0) [] [.loc 3]) (.slcS (.loc 0) [.bin .add (.loc 3) (.cst (.int 1))] []))] [],
 .ite (.cmp .eq (.bin .mod (.loc 1) (.cst (.int 10))) (.cst (.int 1))) [.ret (.bin .add (.bin .add (.slcS (.loc 0) [] [.loc 3]) (.loc 5)) (.slcS (.loc 0) [.loc 3] []))] [],
 .ite (.cmp .eq (.bin .mod (.loc 1) (.cst (.int 10))) (.cst (.int 2))) [.ret (.bin .add (.bin .add (.slcS (.loc 0) [] [.loc 3]) (.loc 5)) (.slcS (.loc 0) [.bin .add (.loc 3) (.cst (.int 1))] []))] [],
 .asg 6 (.splitS (.loc 0) (.cst (.str "\n"))),
 .asg 7 (.bin .mod (.loc 2) (.bi .len [.loc 6])),
 .ite (.cmp .eq (.bin .mod (.loc 1) (.cst (.int 10))) (.cst (.int 3))) [.ret (.joinS (.cst (.str "\n")) (.bin .add (.bin .add (.slc (.loc 6) [] [.loc 7]) (.lst [.idx (.loc 6) (.bin .sub (.loc 7) (.cst (.int 1)))])) (.slc (.loc 6) [.loc 7] [])))] [],
 .ite (.cmp .gt (.bin .mod (.loc 1) (.cst (.int 10))) (.cst (.int 4))) [.asg 8 (.comp false 1 (.loc 11) .range [.bi .len [.loc 6]] [.inS (.cst (.str "^")) (.idx (.loc 6) (.loc 11))]),
  .ite (.and2 (.cmp .gt (.bi .len [.loc 8]) (.cst (.int 0))) (.cmp .gt (.bin .mod (.bin .fdiv (.loc 1) (.cst (.int 25600))) (.cst (.int 3))) (.cst (.int 0)))) [.asg 7 (.idx (.loc 8) (.bin .mod (.loc 2) (.bi .len [.loc 8])))] [],
  .asg 9 (.splitS (.idx (.loc 6) (.loc 7)) (.cst (.str " "))),
  .asg 10 (.idx (.lst [.cst (.str ""),.cst (.str "0"),.cst (.str "1^0"),.cst (.str "2"),.mulS (.cst (.str "1")) (.cst (.int 31)),.mulS (.cst (.str "1")) (.cst (.int 32)),.cst (.str "2^2"),.mulS (.cst (.str "1")) (.cst (.int 5000))]) (.bin .mod (.bin .fdiv (.loc 1) (.cst (.int 10))) (.cst (.int 8)))),
  .asg 3 (.bin .mod (.bin .fdiv (.loc 1) (.cst (.int 80))) (.bi .len [.loc 9])),
  .ite (.cmp .eq (.bin .mod (.bin .fdiv (.loc 1) (.cst (.int 1600))) (.cst (.int 4))) (.cst (.int 0))) [.expr (.meth .insert (.loc 9) [.loc 3,.loc 10])] [.asg 3 (.idx (.lst [.loc 3,.bin .sub (.bi .len [.loc 9]) (.cst (.int 1))]) (.bin .mod (.bin .fdiv (.loc 1) (.cst (.int 800))) (.cst (.int 2)))),
   .sto (.loc 9) (.loc 3) (.idx (.lst [.bin .add (.cst (.str "0")) (.idx (.loc 9) (.loc 3)),.bin .add (.idx (.loc 9) (.loc 3)) (.cst (.str "^1")),.bin .add (.cst (.str "+")) (.idx (.loc 9) (.loc 3)),.bin .add (.idx (.loc 9) (.loc 3)) (.cst (.str " "))]) (.bin .mod (.bin .fdiv (.loc 1) (.cst (.int 6400))) (.cst (.int 4))))],
  .ret (.joinS (.cst (.str "\n")) (.bin .add (.bin .add (.slc (.loc 6) [] [.loc 7]) (.lst [.joinS (.cst (.str " ")) (.loc 9)])) (.slc (.loc 6) [.bin .add (.loc 7) (.cst (.int 1))] [])))] [],
 .ret (.slcS (.loc 0) [] [.loc 3])]⟩
noncomputable def m_law_refused (R_read:Rais) (hd1:Str->Option (MFlow)):MF:=⟨1,3,
 [.tryX [1,2] [.loc 0] R_read hd1,
 .ret (.cst (.bool false))]⟩
noncomputable def m_law (R_read:Rais2) (RR__law_refused:RaisO):MF:=⟨1,5,
 [.asg 1 (.call "_law_mixed" [.loc 0,.cst (.int 0),.cst (.int 12)]),
 .asg 2 (.joinS (.cst (.str "\n")) (.comp false 1 (.call "_law_line" [.loc 5]) .plain [.call "_law_rows_by" [.loc 1]] [])),
 .forr false [3] .range [.bin .add (.cst (.int 1)) (.bin .mod (.idx (.loc 1) (.cst (.int 8))) (.cst (.int 2)))] [.asg 2 (.call "_law_changed" [.loc 2,.idx (.loc 1) (.bin .add (.cst (.int 9)) (.loc 3)),.idx (.loc 1) (.bin .add (.cst (.int 10)) (.loc 3))])],
 .tryD 4 "NoText" [.loc 2] [.loc 2] R_read RR__law_refused,
 .ret (.and2 (.call "_law_slip_right" [.loc 4]) (.cmp .eq (.joinS (.cst (.str "\n")) (.comp false 1 (.call "_law_line" [.loc 5]) .plain [.loc 4] [])) (.loc 2)))]⟩
end
section
open PySem
set_option maxHeartbeats 2000000
noncomputable def SRowT (nm:Str) (Φ:Fun):Prop:=∀ (n:Int) (f:Fc) (H:Hp) (Q:PQ),RoT n f->(∀ H',H<+:H'->Q (.str (lineT n f)) H')->Φ nm [roA n f] H Q
theorem row_text {Φ:Fun}{n:Int}{f:Fc}{H:Hp}{Q:PQ}(hr:RoT n f) (h:∀ H',H<+:H'->Q (.str (lineT n f)) H'):wpF Φ m_row_text [roA n f] H Q:=by
 have rest:∀ (a b c d e g k:Option AV) (H':Hp),H<+:H'->H'[H.length]?=some (.list ((rowW n f).map .str))->wpSs Φ (m_row_text.body.drop 3) [a,b,c,d,some (.ref H.length),e,g,k] H' (endOf Q):=by
  intro a b c d e g k H' hp hj
  simp only [m_row_text,List.drop]
  walk_at "wq"
  exact k_join2 hj (line_joinOk hr) (h H' hp)
 have n0:In30 n:=⟨by have:=hr.1.1;(first|lia|omega),hr.1.2⟩
 unfold roA
 ((refine ⟨rfl,?_⟩;simp only [lst,Nat.reduceSub,Nat.sub_self,List.replicate]))
 simp only [m_row_text]
 walk_at "wq"
 refine ⟨rfl,k_strI n0.1 n0.2 ?_⟩
 walk_at "wq"
 refine ⟨sz2,?_⟩
 refine sp_b (fun h1=>?_) (fun h1=>?_)
 ·obtain ⟨b,ps,rfl⟩:=w_prime h1
  have pl:=ps_len hr
  obtain ⟨_,⟨⟨b0,b1⟩,_,hps,_⟩,_⟩:=hr
  simp only [Fc.facts,psT]
  walk_at "wq"
  refine ⟨isL_ref at_new,su2,k_strI (by (first|lia|omega)) b1 ?_⟩
  walk_at "wq"
  refine app_at at_new (by simp) ?_
  walk_at "wq"
  refine ⟨su2,?_⟩
  refine for_intro (fun i loc H'=>∃ (o5 o6:Option AV),H<+:H'/\H'[H.length]?=some (.list ((numI n::Fc.word (.prime b ps)::numI b::(ps.take i).map powT).map .str))/\loc=[some (.tup [.int n,.str (Fc.word (.prime b ps)),.tup [.int b,.tup (ps.map prAV)]]),some (.int n),some (.str (Fc.word (.prime b ps))),some (.tup [.int b,.tup (ps.map prAV)]),some (.ref H.length),o5,o6,none]) ⟨none,none,pre_set pre_new (Nat.le_refl _),by rw [get_set_eq at_new];rfl,rfl⟩ ?_
  rintro i loc H' ⟨o5,o6,hp,hj,rfl⟩
  refine ⟨trivial,fun y hy=>?_,fun hi=>?_⟩
  ·rw [List.getElem?_map] at hy
   obtain ⟨p,hpi,rfl⟩:=Option.map_eq_some_iff.mp hy
   have hb:=hps p (List.mem_of_getElem? hpi)
   refine ⟨[.int p.1,.int p.2],rfl,?_⟩
   walk_at "wq"
   refine ⟨isL_ref hj,k_fmt (t:=p.2) (fun R r=>?_) (by (first|lia|omega)) (by (first|lia|omega)) (by (first|lia|omega)) (by (first|lia|omega)) ?_⟩
   ·walk_at "wq"
    exact r
   walk_at "wq"
   refine app_at hj (by simp [List.length_take];(first|lia|omega)) ?_
   walk_at "wq"
   refine for_next ⟨_,_,pre_set hp (Nat.le_refl _),?_,rfl⟩
   rw [get_set_eq hj,List.take_add_one,hpi]
   simp [powT]
  ·simp only [k_itef,ss_nil,thenS_next]
   have:ps.take i=ps:=List.take_of_length_le (by rw [hi];simp)
   rw [this] at hj
   exact rest _ _ _ _ _ _ _ H' hp hj
 ·obtain ⟨ns,e1,e2,nl,hn⟩:=plain_facts hr.2.1 h1
  rw [e1]
  walk_at "wq"
  refine for_intro (fun i loc H'=>∃ (o7:Option AV),H<+:H'/\H'[H.length]?=some (.list ((numI n::f.word::(ns.take i).map numI).map .str))/\loc=[some (.tup [.int n,.str f.word,.tup (ns.map .int)]),some (.int n),some (.str f.word),some (.tup (ns.map .int)),some (.ref H.length),none,none,o7]) ⟨none,pre_new,at_new,rfl⟩ ?_
  rintro i loc H' ⟨o7,hp,hj,rfl⟩
  refine ⟨trivial,fun y hy=>?_,fun hi=>?_⟩
  ·rw [List.getElem?_map] at hy
   obtain ⟨k,hk,rfl⟩:=Option.map_eq_some_iff.mp hy
   obtain ⟨k0,k1⟩:=hn k (List.mem_of_getElem? hk)
   refine ⟨[.int k],rfl,?_⟩
   walk_at "wq"
   refine ⟨isL_ref hj,k_strI k0 k1 ?_⟩
   walk_at "wq"
   refine app_at hj (by simp [List.length_take];(first|lia|omega)) ?_
   walk_at "wq"
   refine for_next ⟨_,pre_set hp (Nat.le_refl _),?_,rfl⟩
   rw [get_set_eq hj,List.take_add_one,hk]
   simp
  ·simp only [k_itef,ss_nil,thenS_next]
   have:ns.take i=ns:=List.take_of_length_le (by rw [hi];simp)
   rw [this,←e2] at hj
   exact rest _ _ _ _ _ _ _ H' hp hj
noncomputable def SWritten (Φ:Fun):Prop:=∀ (rs:List (Int×Fc)) (H:Hp) (Q:PQ),RsT rs->(∀ H',H<+:H'->Q (.str (textT rs)) H')->Φ "written" [.tup (rs.map roP)] H Q
theorem written {Φ:Fun}(c:SRowT "row_text" Φ){rs:List (Int×Fc)}{H:Hp}{Q:PQ}(hr:RsT rs) (h:∀ H',H<+:H'->Q (.str (textT rs)) H'):wpF Φ m_written [.tup (rs.map roP)] H Q:=by
 have hr':=hr
 obtain ⟨r0,rl,rok,_⟩:=hr
 ((refine ⟨rfl,?_⟩;simp only [lst,Nat.reduceSub,Nat.sub_self,List.replicate]))
 simp only [m_written,Nat.sub_self]
 walk_at "wq"
 refine comp_each roP (fun r=>.str (lineP r)) rs (szL (by (first|lia|omega))) (fun _ _=>trivial) (fun H' p r hr=>?_) fun H' p=>?_
 ·refine ⟨[roP r],rfl,fun Q' q=>?_⟩
  walk_at "wq"
  exact c r.1 r.2 H' _ (rok r hr) q
 ·refine k_join2 (xs:=rs.map lineP) ?_ (text_joinOk hr') (h _ (p.trans pre_new))
  rw [at_new,List.map_map];rfl
theorem join_take {sep:Str}:∀ (k:Nat) (xs:List Str),(Str.join sep (xs.take k)).length<=(Str.join sep xs).length
 | 0,xs=>Nat.zero_le _
 | k+1,[]=>Nat.le_refl _
 | k+1,[x]=>by simp
 | 1,x::y::r=>by
  show x.length<=(x++sep++Str.join sep (y::r)).length
  rw [Str.length_append,Str.length_append];(first|lia|omega)
 | k+2,x::y::r=>by
  have ih:=join_take (sep:=sep) (k+1) (y::r)
  show (x++sep++Str.join sep ((y::r).take (k+1))).length<=(x++sep++Str.join sep (y::r)).length
  rw [Str.length_append,Str.length_append,Str.length_append,Str.length_append];(first|lia|omega)
theorem line_law {Φ:Fun}{n:Int}{f:Fc}{H:Hp}{Q:PQ}(hr:RoT n f) (h:∀ H',H<+:H'->Q (.str (lineT n f)) H'):wpF Φ m_law_line [roA n f] H Q:=by
 have n0:In30 n:=⟨by have:=hr.1.1;(first|lia|omega),hr.1.2⟩
 have ln:=(numI_len n0).2
 have lw:=(word_wd f).1
 have s1:(" " : Str).length=1:=rfl
 have s2:("^" : Str).length=1:=rfl
 have sl:sizeLine=16777216:=rfl
 have la:∀ x y:Str,(x++y).length=x.length+y.length:=Str.length_append
 have h:=h H (List.prefix_refl _)
 have jt:∀ k,(Str.join " " ((rowW n f).take k)).length<=4000000:=fun k=>Nat.le_trans (join_take _ _) hr.2.2
 unfold roA
 ((refine ⟨rfl,?_⟩;simp only [lst,Nat.reduceSub,Nat.sub_self,List.replicate]))
 simp only [m_law_line]
 walk_at "wq"
 refine ⟨su3,k_strI n0.1 n0.2 ?_⟩
 walk_at "wq"
 refine ⟨by (first|lia|omega),su3,by rw [la];(first|lia|omega),su3,?_⟩
 have e0:numI n ++ " " ++ f.word=Str.join " " [numI n,f.word]:=rfl
 rw [e0]
 refine sp_b (fun h1=>?_) (fun h1=>?_)
 ·obtain ⟨b,ps,rfl⟩:=w_prime h1
  have pl:=ps_len hr
  obtain ⟨_,⟨⟨b0,b1⟩,_,hps,_⟩,_⟩:=hr
  have lb:=(numI_len (k:=b) ⟨by (first|lia|omega),b1⟩).2
  simp only [Fc.facts,psT]
  walk_at "wq"
  have j0:(Str.join " " [numI n,Fc.word (.prime b ps)]).length<=4000000:=jt 2
  refine ⟨by (first|lia|omega),su3,su2,k_strI (by (first|lia|omega)) b1 ?_⟩
  walk_at "wq"
  refine ⟨by rw [la];(first|lia|omega),su3,su2,?_⟩
  rw [←join_snoc (by simp)]
  refine for_intro (fun i loc H'=>∃ (o2 o3:Option AV),H'=H/\loc=[some (.tup [.int n,.str (Fc.word (.prime b ps)),.tup [.int b,.tup (ps.map prAV)]]),some (.str (Str.join " " (numI n::Fc.word (.prime b ps)::numI b::(ps.take i).map powT))),o2,o3,none]) ⟨none,none,rfl,rfl⟩ ?_
  rintro i loc H' ⟨o2,o3,rfl,rfl⟩
  refine ⟨trivial,fun y hy=>?_,fun hi=>?_⟩
  ·rw [List.getElem?_map] at hy
   obtain ⟨p,hpi,rfl⟩:=Option.map_eq_some_iff.mp hy
   have hb:=hps p (List.mem_of_getElem? hpi)
   have l1:=(numI_len (k:=p.1) ⟨by (first|lia|omega),by (first|lia|omega)⟩).2
   have l2:=(numI_len (k:=p.2) ⟨by (first|lia|omega),by (first|lia|omega)⟩).2
   have jj:(Str.join " " (numI n::Fc.word (.prime b ps)::numI b::(ps.take i).map powT)).length<=4000000:=by
    have:=jt (i+3)
    simpa [rowW,Fc.txt,List.map_take] using this
   refine ⟨[.int p.1,.int p.2],rfl,?_⟩
   walk_at "wq"
   generalize hT:Str.join " " (numI n::Fc.word (.prime b ps)::numI b::(ps.take i).map powT)=T at jj
   refine ⟨by (first|lia|omega),k_strI (by (first|lia|omega)) (by (first|lia|omega)) ?_⟩
   walk_at "wq"
   refine ⟨by rw [la];(first|lia|omega),by rw [la,la];(first|lia|omega),k_strI (by (first|lia|omega)) (by (first|lia|omega)) ?_⟩
   walk_at "wq"
   refine ⟨by rw [la,la,la];(first|lia|omega),?_⟩
   refine for_next ⟨some (.int p.1),some (.int p.2),rfl,?_⟩
   have e:T ++ " " ++ numI p.1 ++ "^" ++ numI p.2=Str.join " " (numI n::Fc.word (.prime b ps)::numI b::(ps.take (i+1)).map powT):=by
    have e1:(numI n::Fc.word (.prime b ps)::numI b::(ps.take (i+1)).map powT)=(numI n::Fc.word (.prime b ps)::numI b::(ps.take i).map powT)++[powT p]:=by
     rw [List.take_add_one,hpi];simp
    rw [e1,join_snoc (by simp),hT]
    simp only [powT,Str.append_assoc]
   rw [e]
  ·have:ps.take i=ps:=List.take_of_length_le (by rw [hi];simp)
   rw [this]
   walk_at "wq"
   exact h
 ·obtain ⟨ns,e1,e2,nl,hn⟩:=plain_facts hr.2.1 h1
  rw [e1]
  walk_at "wq"
  refine ⟨su3,?_⟩
  refine for_intro (fun i loc H'=>∃ (o4:Option AV),H'=H/\loc=[some (.tup [.int n,.str f.word,.tup (ns.map .int)]),some (.str (Str.join " " (numI n::f.word::(ns.take i).map numI))),none,none,o4]) ⟨none,rfl,rfl⟩ ?_
  rintro i loc H' ⟨o4,rfl,rfl⟩
  refine ⟨trivial,fun y hy=>?_,fun hi=>?_⟩
  ·rw [List.getElem?_map] at hy
   obtain ⟨k,hk,rfl⟩:=Option.map_eq_some_iff.mp hy
   have hk30:=hn k (List.mem_of_getElem? hk)
   have l1:=(numI_len hk30).2
   have jj:(Str.join " " (numI n::f.word::(ns.take i).map numI)).length<=4000000:=by
    have:=jt (i+2)
    simpa [rowW,e2,List.map_take] using this
   refine ⟨[.int k],rfl,?_⟩
   walk_at "wq"
   refine ⟨by (first|lia|omega),k_strI hk30.1 hk30.2 ?_⟩
   walk_at "wq"
   refine ⟨by rw [la];(first|lia|omega),?_⟩
   rw [←join_snoc (by simp)]
   refine for_next ⟨some (.int k),rfl,?_⟩
   rw [List.take_add_one,hk];simp
  ·have:ns.take i=ns:=List.take_of_length_le (by rw [hi];simp)
   rw [this,←e2]
   walk_at "wq"
   exact h
end
section
open PySem
set_option maxHeartbeats 2000000
theorem cut_x {Φ:Fun}{loc:Loc}{H:Hp}{Q:PQ}{X:XP}{ss:List MS}(k:Nat){s:MS}(hs:ss[k]?=some s) (h:∀ R:PF,(∀ v loc H,Q v H->R (.ret v) loc H)->(∀ c loc H,X c H->R (.exc c) loc H)->(∀ loc H,wpSs Φ (ss.drop (k+1)) loc H (endX Q X)->R .next loc H)->wpS Φ s loc H R):wpSs Φ (ss.drop k) loc H (endX Q X):=by
 obtain ⟨hlt,e⟩:=List.getElem?_eq_some_iff.mp hs
 rw [List.drop_eq_getElem_cons hlt,e,ss_cons]
 exact h _ (fun _ _ _ q=>q) (fun _ _ _ q=>q) (fun _ _ q=>q)
theorem s_raise {Φ:Fun}{loc:Loc}{H:Hp}{Q:PF}{c:Str}{as:List ME}:wpS Φ (.raise c as) loc H Q=wpEs Φ as loc H (kRaise c loc Q):=rfl
theorem raise1 {Φ:Fun}{loc:Loc}{H:Hp}{Q:PF}{R:PF}{c m:Str}(h:Q (.exc c) loc H):wpSs Φ [.raise c [.cst (.str m)]] loc H Q:=by
 rw [ss_cons,s_raise]
 exact ⟨sz1,h⟩
theorem s_orR {Φ:Fun}{loc:Loc}{H:Hp}{Q:PF}{m:MS}{r:RE}:wpS Φ (.orR m r) loc H Q=(wpS Φ m loc H Q\/r Φ loc H fun c H'=>Q (.exc c) loc H'):=rfl
theorem fig_iff (c:Nat):decide (c∈(Str.ofString "0123456789").cps.toList)=decide (48<=c/\c<=57):=by
 have e:(Str.ofString "0123456789").cps.toList=[48,49,50,51,52,53,54,55,56,57]:=by decide
 rw [e]
 refine decide_eq_decide.mpr ?_
 simp only [List.mem_cons,List.not_mem_nil,or_false];(first|lia|omega)
theorem asc_all {t:Str}(h:Asc t):t.cps.all (·<128)=true:=by
 rw [←Array.all_toList,List.all_eq_true]
 intro c hc
 simpa using h c hc
theorem num_head {Φ:Fun}{w:Str}{H:Hp}{Q:PQ}{X:XP}(ha:Asc w) (hl:w.length<=4000000) (hx:¬ Fig w->∀ H',H<+:H'->X "NoText" H') (hn:Fig w->∀ H',H<+:H'->wpSs Φ (m_number_of.body.drop 1) [some (.str w)] H' (endX Q X)) :
  wpSs Φ (m_number_of.body.drop 0) [some (.str w)] H (endX Q X):=by
 refine cut_x 0 rfl fun R rr rx rn=>?_
 have raise:¬ Fig w->∀ H',H<+:H'->wpSs Φ [.raise "NoText" [.cst (.str "no number")]] [some (.str w)] H' R:=fun hf H' p=>raise1 (R:=R) (rx _ _ _ (hx hf H' p))
 simp only [c_FIGURES,c_MOST_FIGURES]
 walk_at "wq"
 refine ⟨by (first|lia|omega),?_⟩
 by_cases h1:1<=w.length
 ·rw [show decide ((1:Int)<=(w.length:Int))=true from decide_eq_true (by (first|lia|omega)),k_c4t]
  walk_at "wq"
  by_cases h2:w.length<=31
  ·rw [show decide ((w.length:Int)<=31)=true from decide_eq_true (by (first|lia|omega))]
   walk_at "wq"
   refine it_at (asc_all ha) ?_
   unfold chrs
   refine comp_each (fun c:Nat=>AV.str ⟨#[c]⟩) (fun c=>.bool (decide (48<=c/\c<=57))) w.cps.toList (by rw [Array.length_toList];exact szL (by show w.length<=1000;(first|lia|omega))) (fun _ _=>trivial) (fun H' p c hc=>?_) fun H' p=>?_
   ·refine ⟨[.str ⟨#[c]⟩],rfl,fun Q' q=>?_⟩
    walk_at "wq"
    refine k_in1 ?_
    walk_at "wq"
    rw [fig_iff]
    exact q H' List.prefix_rfl
   ·walk_at "wq"
    have ea:w.cps.toList.map (fun c=>AV.bool (decide (48<=c/\c<=57)))=(w.cps.toList.map (fun c=>decide (48<=c/\c<=57))).map .bool:=by rw [List.map_map];rfl
    rw [ea]
    refine (a_all at_new).mpr ?_
    have pp:H<+:H'++[AObj.list ((w.cps.toList.map (fun c=>decide (48<=c/\c<=57))).map .bool)]:=p.trans pre_new
    cases hb:((w.cps.toList.map (fun c=>decide (48<=c/\c<=57))).all fun b=>b) with
    | true =>
     have hf:Fig w:=⟨⟨h1,h2⟩,fun c hc=>by
      have:=List.all_eq_true.mp hb _ (List.mem_map.mpr ⟨c,hc,rfl⟩)
      simpa using this⟩
     walk_at "wq"
     exact rn _ _ (hn hf _ pp)
    | false =>
     have hf:¬ Fig w:=fun hf=>by
      have:((w.cps.toList.map (fun c=>decide (48<=c/\c<=57))).all fun b=>b)=true:=List.all_eq_true.mpr fun b hb=>by
       obtain ⟨c,hc,rfl⟩:=List.mem_map.mp hb
       simpa using hf.2 c hc
      rw [hb] at this;cases this
     walk_at "wq"
     exact raise hf _ pp
  ·rw [show decide ((w.length:Int)<=31)=false from decide_eq_false (by (first|lia|omega))]
   walk_at "wq"
   exact raise (fun hf=>h2 hf.1.2) _ List.prefix_rfl
 ·rw [show decide ((1:Int)<=(w.length:Int))=false from decide_eq_false (by (first|lia|omega)),k_c4f]
  walk_at "wq"
  exact raise (fun hf=>h1 hf.1.1) _ List.prefix_rfl
theorem Fig.asc {w:Str}(h:Fig w):Asc w:=fun c hc=>by have:=h.2 c hc;(first|lia|omega)
noncomputable def SNum (Φ:Fun):Prop:=∀ (w:Str) (H:Hp) (Q:PQ),Fig w->(∀ H',H<+:H'->Q (.int (vN w)) H')->Φ "number_of" [.str w] H Q
theorem number_of {Φ:Fun}{w:Str}{H:Hp}{Q:PQ}{X:XP}(hw:Fig w) (h:∀ H',H<+:H'->Q (.int (vN w)) H'):wpFX Φ m_number_of [.str w] H Q X:=by
 refine ⟨rfl,num_head hw.asc (by have:=hw.1.2;(first|lia|omega)) (fun z=>absurd hw z) fun _ H' p=>?_⟩
 simp only [m_number_of,List.drop]
 walk_at "wq"
 exact ⟨_,hw.reads,by have:=hw.1.2;(first|lia|omega),h H' p⟩
noncomputable def RNum:Rais:=fun args H X=>∃ w:Str,args=[.str w]/\Asc w/\w.length<=4000000/\¬ Fig w/\∀ H',H<+:H'->X "NoText" H'
theorem number_no {Φ:Fun}{args:List AV}{H:Hp}{Q:PQ}{X:XP}(h:RNum args H X):wpFX Φ m_number_of args H Q X:=by
 obtain ⟨w,rfl,ha,hl,hf,hx⟩:=h
 exact ⟨rfl,num_head ha hl (fun _=>hx) fun z=>absurd z hf⟩
theorem asc_split {t:Str}{c:Nat}(h:Asc t):∀ p∈Txt.split t ⟨#[c]⟩,Asc p:=fun p hp ch hch=>by
 refine h ch ?_
 rw [←StrLaws.join_split t ⟨#[c]⟩,join_list]
 exact joinC_mem (List.mem_map.mpr ⟨p,hp,rfl⟩) hch
theorem len_big {H:Hp}{Q:PQ}{i:Nat}{l:List AV}(h:H[i]?=some (.list l)) (hn:l.length<=10000000) (q:Q (.int l.length) H):wpBi .len [.ref i] H Q:=by
 rw [l_list h];exact ⟨by (first|lia|omega),q⟩
theorem tup_big {H:Hp}{Q:PQ}{i:Nat}{l:List AV}(h:H[i]?=some (.list l)) (hn:l.length<=10000000) (q:Q (.tup l) H):wpBi .tuple [.ref i] H Q:=by
 rw [t_list h];exact ⟨Nat.le_trans hn (by decide),q⟩
theorem split_count {t:Str}{c:Nat}:(Txt.split t ⟨#[c]⟩).length<=t.length+1:=by
 have:=join_count (sep:=⟨#[c]⟩) rfl (Txt.split t ⟨#[c]⟩)
 rwa [StrLaws.join_split] at this
theorem szM {n:Nat}(h:n<=10000000):n<=sizeLine:=Nat.le_trans h (by decide)
theorem pow_head {Φ:Fun}{R:Rais}{w:Str}{H:Hp}{Q:PQ}{X:XP}(hl:w.length<=4000000) (hx:(partsP w).length≠2->∀ H',H<+:H'->X "NoText" H')
  (hn:∀ a b,partsP w=[a,b]->∀ H',H<+:H'->H'[H.length]?=some (.list [.str a,.str b])->wpSs Φ ((m_power_of R).body.drop 2) [some (.str w),some (.ref H.length)] H' (endX Q X)) :
  wpSs Φ ((m_power_of R).body.drop 0) [some (.str w),none] H (endX Q X):=by
 have sc:(partsP w).length<=w.length+1:=split_count
 refine cut_x 0 rfl fun R' rr rx rn=>?_
 walk_at "wq"
 refine k_split2 ct1 (by show w.length+1<=16777216;(first|lia|omega)) rfl ?_
 walk_at "wq"
 refine rn _ _ (cut_x 1 rfl fun R' rr rx rn=>?_)
 walk_at "wq"
 refine len_big at_new (by rw [List.length_map];exact Nat.le_trans sc (by (first|lia|omega))) ?_
 walk_at "wq"
 by_cases h2:(partsP w).length=2
 ·rw [show decide ((((Txt.split w ⟨#[94]⟩).map AV.str).length:Int)=2)=true from decide_eq_true (by rw [List.length_map];exact congrArg Int.ofNat h2)]
  walk_at "wq"
  obtain ⟨a,b,e⟩:=len_is2 h2
  have e':Txt.split w ⟨#[94]⟩=[a,b]:=e
  rw [e']
  exact rn _ _ (hn a b e _ pre_new at_new)
 ·rw [show decide ((((Txt.split w ⟨#[94]⟩).map AV.str).length:Int)=2)=false from decide_eq_false (by rw [List.length_map];intro z;exact h2 (by have:(partsP w).length=(Txt.split w ⟨#[94]⟩).length:=rfl;(first|lia|omega)))]
  walk_at "wq"
  exact raise1 (R:=R') (rx _ _ _ (hx h2 _ pre_new))
theorem at0 {H:Hp}{Q:PQ}{i:Nat}{x:AV}{l:List AV}(h:H[i]?=some (.list (x::l))) (hn:(x::l).length<=10000000) (q:Q x H):wpIdx (.ref i) (.int 0) H Q:=idx_at (l:=x::l) (by simp [anyL,seqL,h]) (by (first|lia|omega)) (by decide) rfl q
theorem at1 {H:Hp}{Q:PQ}{i:Nat}{x y:AV}{l:List AV}(h:H[i]?=some (.list (x::y::l))) (hn:(x::y::l).length<=10000000) (q:Q y H):wpIdx (.ref i) (.int 1) H Q:=idx_at (l:=x::y::l) (by simp [anyL,seqL,h]) (by (first|lia|omega)) (by decide) rfl q
theorem at2 {H:Hp}{Q:PQ}{i:Nat}{x y z:AV}{l:List AV}(h:H[i]?=some (.list (x::y::z::l))) (hn:(x::y::z::l).length<=10000000) (q:Q z H):wpIdx (.ref i) (.int 2) H Q:=idx_at (l:=x::y::z::l) (by simp [anyL,seqL,h]) (by (first|lia|omega)) (by decide) rfl q
noncomputable def SPowOf (Φ:Fun):Prop:=∀ (w:Str) (H:Hp) (Q:PQ),w.length<=4000000->PowG w->(∀ H',H<+:H'->Q (prAV (pV w)) H')->Φ "power_of" [.str w] H Q
theorem power_of {Φ:Fun}(c:SNum Φ){R:Rais}{w:Str}{H:Hp}{Q:PQ}{X:XP}(hl:w.length<=4000000) (hw:PowG w) (h:∀ H',H<+:H'->Q (prAV (pV w)) H'):wpFX Φ (m_power_of R) [.str w] H Q X:=by
 refine ⟨rfl,pow_head hl (fun z=>absurd hw.1 z) fun a b e H' p hj=>?_⟩
 have fa:Fig a:=hw.2 a (by rw [e];simp)
 have fb:Fig b:=hw.2 b (by rw [e];simp)
 have ev:pV w=(vN a,vN b):=by unfold pV;rw [e];rfl
 simp only [m_power_of,List.drop]
 rw [ss_cons,s_orR]
 left
 walk_at "wq"
 refine at0 hj (by simp) ?_
 walk_at "wq"
 refine c a _ _ fa fun H1 p1=>?_
 walk_at "wq"
 refine at1 (pre_at p1 hj) (by simp) ?_
 walk_at "wq"
 refine c b _ _ fb fun H2 p2=>?_
 walk_at "wq"
 refine ⟨sz2,?_⟩
 have:=h _ (p.trans (p1.trans p2))
 rw [ev] at this
 exact this
noncomputable def RPow:Rais:=fun args H X=>∃ w:Str,args=[.str w]/\Asc w/\w.length<=4000000/\¬ PowG w/\∀ H',H<+:H'->X "NoText" H'
theorem power_no {Φ:Fun}(c:SNum Φ){args:List AV}{H:Hp}{Q:PQ}{X:XP}(h:RPow args H X):wpFX Φ (m_power_of RNum) args H Q X:=by
 obtain ⟨w,rfl,ha,hl,hf,hx⟩:=h
 refine ⟨rfl,pow_head hl (fun _=>hx) fun a b e H' p hj=>?_⟩
 have hm:∀ x∈partsP w,Asc x/\x.length<=4000000:=fun x hx=>⟨asc_split ha x hx,Nat.le_trans (split_mem_len hx) hl⟩
 have ma:=hm a (by rw [e];simp)
 have mb:=hm b (by rw [e];simp)
 simp only [m_power_of,List.drop]
 rw [ss_cons,s_orR]
 right
 by_cases fa:Fig a
 ·right
  show wpEs Φ _ _ _ _
  walk_at "wq"
  refine at0 hj (by simp) ?_
  walk_at "wq"
  refine c a _ _ fa fun H1 p1=>?_
  show wpEs Φ _ _ _ _
  walk_at "wq"
  refine at1 (pre_at p1 hj) (by simp) ?_
  exact ⟨b,rfl,mb.1,mb.2,fun fb=>hf ⟨by rw [e];rfl,fun x hx=>by
   rw [e] at hx
   simp only [List.mem_cons,List.not_mem_nil,or_false] at hx
   rcases hx with rfl|rfl
   ·exact fa
   ·exact fb⟩,fun H2 p2=>hx _ (p.trans (p1.trans p2))⟩
 ·left
  show wpEs Φ _ _ _ _
  walk_at "wq"
  refine at0 hj (by simp) ?_
  exact ⟨a,rfl,ma.1,ma.2,fa,fun H2 p2=>hx _ (p.trans p2)⟩
end
section
open PySem
set_option maxHeartbeats 2000000
theorem lslice_drop {α:Type}{l:List α}{k:Nat}:lslice l (some (k:Int)) none=l.drop k:=by
 show (l.drop (min ((k:Int)).toNat l.length)).take (l.length-min ((k:Int)).toNat l.length)=_
 rw [Int.toNat_natCast,List.take_of_length_le (by rw [List.length_drop];(first|lia|omega))]
 rcases Nat.le_total k l.length with h|h
 ·rw [Nat.min_eq_left h]
 ·rw [Nat.min_eq_right h,List.drop_of_length_le (Nat.le_refl _),List.drop_of_length_le h]
noncomputable def compX (Φ:Fun) (elt:ME) (as:List ME) (R:Rais) (loc:Loc) (X:XP):KI:=fun items Cnd H₁=>items.length<=sizeLine/\∃ J:Nat->List AV->Hp->Prop,J 0 [] H₁/\∀ i l H',J i l H'->Cnd H' /\
   (∀ y,items[i]?=some y->wpE Φ elt (loc++[some y]) H' (fun v H3=>J (i+1) (l++[v]) H3)\/wpEs Φ as (loc++[some y]) H' fun vs H3=>R vs H3 X)/\(i=items.length->False)
theorem re_comp {Φ:Fun}{elt:ME}{its as:List ME}{R:Rais}{loc:Loc}{H:Hp}{X:XP}:RE.comp elt its as R Φ loc H X=wpEs Φ its loc H (kIt .plain (compX Φ elt as R loc X)):=rfl
theorem first_bad {α:Type}{good:α->Prop}:∀ {xs:List α},(∃ x∈xs,¬ good x)->∃ pre x post,xs=pre++x::post/\(∀ y∈pre,good y)/\¬ good x
 | [],h=>by obtain ⟨x,hx,_⟩:=h;cases hx
 | x::xs,h=>by
  by_cases hx:good x
  ·obtain ⟨y,hy,q⟩:=h
   rcases List.mem_cons.mp hy with rfl|hy
   ·exact absurd hx q
   ·obtain ⟨pre,z,post,e,h1,h2⟩:=first_bad ⟨y,hy,q⟩
    exact ⟨x::pre,z,post,by rw [e];rfl,fun y hy=>(List.mem_cons.mp hy).elim (fun e=>e▸hx) (h1 y),h2⟩
  ·exact ⟨[],x,xs,rfl,(fun y hy=>by cases hy),hx⟩
theorem comp_bad {α:Type}{Φ:Fun}{loc:Loc}{H:Hp}{X:XP}{elt:ME}{as:List ME}{R:Rais}{Cnd:Hp->Prop}(g v:α->AV) (good:α->Prop) (xs:List α) (hs:xs.length<=sizeLine) (hb:∃ x∈xs,¬ good x) (hc:∀ H',H<+:H'->Cnd H')
  (turn:∀ H',H<+:H'->∀ x∈xs,good x->∀ Q:PQ,(∀ H2,H'<+:H2->Q (v x) H2)->wpE Φ elt (loc++[some (g x)]) H' Q)
  (bad:∀ H',H<+:H'->∀ x∈xs,¬ good x->wpEs Φ as (loc++[some (g x)]) H' fun vs H3=>R vs H3 X):compX Φ elt as R loc X (xs.map g) Cnd H:=by
 obtain ⟨pre,x,post,e,h1,h2⟩:=first_bad hb
 have hl:(xs.map g).length=pre.length+(post.length+1):=by rw [e];simp
 refine ⟨by rw [List.length_map];exact hs,fun i l H'=>H<+:H'/\i<=pre.length,⟨List.prefix_rfl,Nat.zero_le _⟩,?_⟩
 rintro i l H' ⟨hp,hi⟩
 refine ⟨hc H' hp,fun y hy=>?_,fun z=>by (first|lia|omega)⟩
 rw [List.getElem?_map] at hy
 obtain ⟨z,hz,rfl⟩:=Option.map_eq_some_iff.mp hy
 have hm:=List.mem_of_getElem? hz
 by_cases hlt:i<pre.length
 ·left
  rw [e,List.getElem?_append_left hlt] at hz
  exact turn H' hp z hm (h1 z (List.mem_of_getElem? hz)) _ fun H2 p2=>⟨hp.trans p2,hlt⟩
 ·right
  have:i=pre.length:=by (first|lia|omega)
  subst this
  rw [e,List.getElem?_append_right (Nat.le_refl _),Nat.sub_self,List.getElem?_cons_zero] at hz
  cases hz
  exact bad H' hp x hm h2
section
variable {Φ:Fun}{l:Str}{H:Hp}{Q:PQ}{X:XP}
theorem words_ne (l:Str):(wordsP l).length<=l.length+1:=split_count
theorem row_head {R1 R2:Rais}(hl:l.length<=4000000) (hx:(wordsP l).length<2->∀ H',H<+:H'->X "NoText" H')
  (hn:∀ a w r,wordsP l=a::w::r->∀ H',H<+:H'->H'[H.length]?=some (.list (.str a::.str w::r.map .str))->wpSs Φ ((m_row_of R1 R2).body.drop 2) [some (.str l),some (.ref H.length),none] H' (endX Q X)) :
  wpSs Φ ((m_row_of R1 R2).body.drop 0) [some (.str l),none,none] H (endX Q X):=by
 have sc:=words_ne l
 refine cut_x 0 rfl fun R' rr rx rn=>?_
 walk_at "wq"
 refine k_split2 sp1 (by show l.length+1<=16777216;(first|lia|omega)) rfl ?_
 walk_at "wq"
 refine rn _ _ (cut_x 1 rfl fun R' rr rx rn=>?_)
 walk_at "wq"
 refine len_big at_new (by rw [List.length_map];exact Nat.le_trans sc (by (first|lia|omega))) ?_
 walk_at "wq"
 by_cases h2:(wordsP l).length<2
 ·rw [show decide ((((Txt.split l ⟨#[32]⟩).map AV.str).length:Int)<2)=true from decide_eq_true (by rw [List.length_map];have:(wordsP l).length=(Txt.split l ⟨#[32]⟩).length:=rfl;(first|lia|omega))]
  walk_at "wq"
  exact raise1 (R:=R') (rx _ _ _ (hx h2 _ pre_new))
 ·rw [show decide ((((Txt.split l ⟨#[32]⟩).map AV.str).length:Int)<2)=false from decide_eq_false (by rw [List.length_map];have:(wordsP l).length=(Txt.split l ⟨#[32]⟩).length:=rfl;(first|lia|omega))]
  walk_at "wq"
  obtain ⟨a,w,r,e⟩:=len_ge2 (Nat.not_lt.mp h2)
  have e':Txt.split l ⟨#[32]⟩=a::w::r:=e
  rw [e']
  exact rn _ _ (hn a w r e _ pre_new at_new)
theorem row_mid (c1:SNum Φ) (c2:SPowOf Φ){i:Nat}{a w:Str}{r:List Str}(hr:r.length<=4000001) (ha:∀ x∈r,Asc x/\x.length<=4000000) (hi:H[i]?=some (.list (.str a::.str w::r.map .str))) (hx:¬ FacG w r->∀ H',H<+:H'->X "NoText" H')
  (hn:FacG w r->∀ H',H<+:H'->wpSs Φ ((m_row_of RNum RPow).body.drop 3) [some (.str l),some (.ref i),some (.tup (facV w r))] H' (endX Q X)) :
  wpSs Φ ((m_row_of RNum RPow).body.drop 2) [some (.str l),some (.ref i),none] H (endX Q X):=by
 have hlen:(AV.str a::.str w::r.map AV.str).length<=10000000:=by simp;(first|lia|omega)
 refine cut_x 2 rfl fun R' rr rx rn=>?_
 walk_at "wq"
 refine at1 hi hlen ?_
 walk_at "wq"
 refine sp_b (fun h1=>?_) (fun h1=>?_)
 ·have eG:FacG w r↔(2<=r.length/\(∀ x∈r.take 1,Fig x)/\∀ x∈r.drop 1,PowG x):=by unfold FacG;rw [h1];simp
  walk_at "wq"
  refine len_big hi hlen ?_
  walk_at "wq"
  by_cases h2:r.length<2
  ·rw [show decide (((AV.str a::.str w::r.map AV.str).length:Int)<4)=true from decide_eq_true (by simp;(first|lia|omega))]
   walk_at "wq"
   rw [s_raise]
   exact ⟨sz1,rx _ _ _ (hx (fun z=>by have:=(eG.mp z).1;(first|lia|omega)) _ List.prefix_rfl)⟩
  ·rw [show decide (((AV.str a::.str w::r.map AV.str).length:Int)<4)=false from decide_eq_false (by simp;(first|lia|omega))]
   walk_at "wq"
   obtain ⟨b,p,ps,rfl⟩:=len_ge2 (Nat.not_lt.mp h2)
   have eV:facV w (b::p::ps)=[.int (vN b),.tup ((p::ps).map fun x=>prAV (pV x))]:=by unfold facV;rw [h1];rfl
   have hb:=ha b (by simp)
   have es:lslice (AV.str a::.str w::.str b::.str p::ps.map AV.str) (some 3) none=(p::ps).map AV.str:=by
    rw [show (3:Int)=((3:Nat):Int) from rfl,lslice_drop];rfl
   have pl:(p::ps).length<=10000000:=by simp only [List.length_cons] at hr ⊢;(first|lia|omega)
   rw [s_orR]
   by_cases fb:Fig b
   ·by_cases fp:∀ x∈p::ps,PowG x
    ·have fg:FacG w (b::p::ps):=eG.mpr ⟨by simp,fun x hx=>by rw [show x=b by simpa using hx];exact fb,fp⟩
     left
     walk_at "wq"
     refine at2 hi hlen ?_
     walk_at "wq"
     refine c1 b _ _ fb fun H2 p2=>?_
     walk_at "wq"
     refine ⟨by decide,?_⟩
     refine wl_at (pre_at p2 hi) ?_
     walk_at "wq"
     refine ⟨szM hlen,?_⟩
     rw [es,r_list at_new]
     refine comp_each AV.str (fun x=>prAV (pV x)) (p::ps) (szM pl) (fun H' p=>pre_at p at_new) (fun H' q x hx=>?_) fun H' q=>?_
     ·refine ⟨[.str x],rfl,fun Q' q'=>?_⟩
      walk_at "wq"
      exact c2 x H' _ (ha x (List.mem_cons_of_mem _ hx)).2 (fp x hx) q'
     ·walk_at "wq"
      refine tup_big at_new (by simp only [List.length_cons,List.length_map] at pl ⊢;exact pl) ?_
      walk_at "wq"
      refine ⟨sz2,?_⟩
      have hn':=hn fg
      rw [eV] at hn'
      exact rn _ _ (hn' _ ((p2.trans (pre_new.trans q)).trans pre_new))
    ·right;right
     show wpEs Φ _ _ _ _
     walk_at "wq"
     refine at2 hi hlen ?_
     walk_at "wq"
     refine c1 b _ _ fb fun H2 p2=>?_
     show RE.comp _ _ _ _ Φ _ _ _
     rw [re_comp]
     walk_at "wq"
     refine ⟨by decide,?_⟩
     refine wl_at (pre_at p2 hi) ?_
     walk_at "wq"
     refine ⟨szM hlen,?_⟩
     rw [es,r_list at_new]
     refine comp_bad AV.str (fun x=>prAV (pV x)) PowG (p::ps) (szM pl) (Classical.byContradiction fun z=>fp fun x hx=>Classical.byContradiction fun y=>z ⟨x,hx,y⟩) (fun H' p=>pre_at p at_new) (fun H' q x hm g Q' q'=>?_) fun H' q x hm g=>?_
     ·walk_at "wq"
      exact c2 x H' _ (ha x (List.mem_cons_of_mem _ hm)).2 g q'
     ·walk_at "wq"
      have hx':=ha x (List.mem_cons_of_mem _ hm)
      exact ⟨x,rfl,hx'.1,hx'.2,g,fun H3 p3=>rx _ _ _ (hx (fun z=>g ((eG.mp z).2.2 x (by simpa using hm))) _ ((p2.trans (pre_new.trans q)).trans p3))⟩
   ·right;left
    show wpEs Φ _ _ _ _
    walk_at "wq"
    refine at2 hi hlen ?_
    exact ⟨b,rfl,hb.1,hb.2,fb,fun H3 p3=>rx _ _ _ (hx (fun z=>fb ((eG.mp z).2.1 b (by simp))) _ p3)⟩
 ·have eG:FacG w r↔∀ x∈r,Fig x:=by unfold FacG;rw [h1];simp
  have eV:facV w r=r.map fun x=>.int (vN x):=by unfold facV;rw [h1];rfl
  have es:lslice (AV.str a::.str w::r.map AV.str) (some 2) none=r.map AV.str:=by
   rw [show (2:Int)=((2:Nat):Int) from rfl,lslice_drop];rfl
  walk_at "wq"
  rw [s_orR]
  by_cases fr:∀ x∈r,Fig x
  ·left
   walk_at "wq"
   refine ⟨by decide,?_⟩
   refine wl_at hi ?_
   walk_at "wq"
   refine ⟨szM hlen,?_⟩
   rw [es,r_list at_new]
   refine comp_each AV.str (fun x=>.int (vN x)) r (szM (by (first|lia|omega))) (fun H' p=>pre_at p at_new) (fun H' q x hx=>?_) fun H' q=>?_
   ·refine ⟨[.str x],rfl,fun Q' q'=>?_⟩
    walk_at "wq"
    exact c1 x H' _ (fr x hx) q'
   ·walk_at "wq"
    refine tup_big at_new (by rw [List.length_map];(first|lia|omega)) ?_
    walk_at "wq"
    have hn':=hn (eG.mpr fr)
    rw [eV] at hn'
    exact rn _ _ (hn' _ ((pre_new.trans q).trans pre_new))
  ·right
   rw [re_comp]
   walk_at "wq"
   refine ⟨by decide,?_⟩
   refine wl_at hi ?_
   walk_at "wq"
   refine ⟨szM hlen,?_⟩
   rw [es,r_list at_new]
   refine comp_bad AV.str (fun x=>.int (vN x)) Fig r (szM (by (first|lia|omega))) (Classical.byContradiction fun z=>fr fun x hx=>Classical.byContradiction fun y=>z ⟨x,hx,y⟩) (fun H' p=>pre_at p at_new) (fun H' q x hm g Q' q'=>?_) fun H' q x hm g=>?_
   ·walk_at "wq"
    exact c1 x H' _ g q'
   ·walk_at "wq"
    exact ⟨x,rfl,(ha x hm).1,(ha x hm).2,g,fun H3 p3=>rx _ _ _ (hx (fun z=>g (eG.mp z x hm)) _ ((pre_new.trans q).trans p3))⟩
end
theorem rowV_at {l a w:Str}{r:List Str}(e:wordsP l=a::w::r):rowV l=.tup [.int (vN a),.str w,.tup (facV w r)]:=by unfold rowV;rw [e];rfl
theorem words_mem {l a w:Str}{r:List Str}(ha:Asc l) (hl:l.length<=4000000) (e:wordsP l=a::w::r):(∀ x∈a::w::r,Asc x/\x.length<=4000000)/\r.length<=4000001:=by
 refine ⟨fun x hx=>?_,?_⟩
 ·rw [←e] at hx
  exact ⟨asc_split ha x hx,Nat.le_trans (split_mem_len hx) hl⟩
 ·have:=words_ne l
  rw [e] at this;simp at this;(first|lia|omega)
noncomputable def SRowOf (Φ:Fun):Prop:=∀ (l:Str) (H:Hp) (Q:PQ),Asc l->l.length<=4000000->RowG l->(∀ H',H<+:H'->Q (rowV l) H')->Φ "row_of" [.str l] H Q
theorem row_of {Φ:Fun}(c1:SNum Φ) (c2:SPowOf Φ){l:Str}{H:Hp}{Q:PQ}{X:XP}(ha:Asc l) (hl:l.length<=4000000) (hg:RowG l) (h:∀ H',H<+:H'->Q (rowV l) H'):wpFX Φ (m_row_of RNum RPow) [.str l] H Q X:=by
 obtain ⟨a,w,r,e,fa,fg⟩:=hg
 refine ⟨rfl,row_head hl (fun z=>by rw [e] at z;simp at z;(first|lia|omega)) fun a' w' r' e' H' p hj=>?_⟩
 rw [e] at e';cases e'
 obtain ⟨hm,hr⟩:=words_mem ha hl e
 refine row_mid c1 c2 hr (fun x hx=>hm x (by simp [hx])) hj (fun z=>absurd fg z) fun _ H2 p2=>?_
 simp only [m_row_of,List.drop]
 rw [ss_cons,s_orR]
 left
 walk_at "wq"
 refine at0 (pre_at p2 hj) (by simp;(first|lia|omega)) ?_
 walk_at "wq"
 refine c1 a _ _ fa fun H3 p3=>?_
 walk_at "wq"
 refine at1 (pre_at (p2.trans p3) hj) (by simp;(first|lia|omega)) ?_
 walk_at "wq"
 refine ⟨sz3,?_⟩
 have:=h _ (p.trans (p2.trans p3))
 rw [rowV_at e] at this
 exact this
noncomputable def RRow:Rais:=fun args H X=>∃ l:Str,args=[.str l]/\Asc l/\l.length<=4000000/\¬ RowG l/\∀ H',H<+:H'->X "NoText" H'
theorem row_no {Φ:Fun}(c1:SNum Φ) (c2:SPowOf Φ){args:List AV}{H:Hp}{Q:PQ}{X:XP}(h:RRow args H X):wpFX Φ (m_row_of RNum RPow) args H Q X:=by
 obtain ⟨l,rfl,ha,hl,hg,hx⟩:=h
 refine ⟨rfl,row_head hl (fun _=>hx) fun a w r e H' p hj=>?_⟩
 obtain ⟨hm,hr⟩:=words_mem ha hl e
 refine row_mid c1 c2 hr (fun x hx=>hm x (by simp [hx])) hj (fun _ H2 p2=>hx _ (p.trans p2)) fun fg H2 p2=>?_
 simp only [m_row_of,List.drop]
 rw [ss_cons,s_orR]
 right
 show wpEs Φ _ _ _ _
 walk_at "wq"
 refine at0 (pre_at p2 hj) (by simp;(first|lia|omega)) ?_
 have h1:=hm a (by simp)
 exact ⟨a,rfl,h1.1,h1.2,fun fa=>hg ⟨a,w,r,e,fa,fg⟩,fun H3 p3=>hx _ (p.trans (p2.trans p3))⟩
end
section
open PySem
set_option maxHeartbeats 2000000
theorem rowT_form {n:Int}{f:Fc}(h:RoT n f):rowB (roA n f)=true:=by
 obtain ⟨⟨n0,n1⟩,hf,_⟩:=h
 have hB:BIG=10^30:=rfl
 unfold roA
 rw [rowB_at,wh_true n0 (by (first|lia|omega)),Bool.true_and]
 cases f with
 | first=>decide
 | prime b ps =>
  obtain ⟨⟨b0,b1⟩,pne,hps,ris⟩:=hf
  have:powB (psT ps)=true:=by
   have hr:=ris_form (a:=1) ris fun p hp=>by
    obtain ⟨q1,q2,q3,q4⟩:=hps p hp
    exact ⟨by (first|lia|omega),by (first|lia|omega),q3,q4⟩
   cases ps with
   | nil=>exact absurd rfl pne
   | cons p r=>exact hr
  show (wordsL.contains "prime" && (whB (.int b) 1 BIG&&powB (psT ps)))=true
  rw [this,wh_true b0 (by (first|lia|omega))];decide
 | split a b =>
  obtain ⟨⟨a0,a1⟩,b0,b1⟩:=hf
  show (wordsL.contains "split" && (whB (.int a) 2 BIG&&whB (.int b) 2 BIG))=true
  rw [wh_true a0 (by (first|lia|omega)),wh_true b0 (by (first|lia|omega))];decide
 | power b =>
  show (wordsL.contains "power" && whB (.int b) 1 BIG)=true
  rw [wh_true hf.1 (by have:=hf.2;(first|lia|omega))];decide
 | root b =>
  show (wordsL.contains "root" && whB (.int b) 1 BIG)=true
  rw [wh_true hf.1 (by have:=hf.2;(first|lia|omega))];decide
theorem slipT_form {rs:List (Int×Fc)}(h:RsT rs):slipB (.tup (rs.map roP))=true:=by
 obtain ⟨h0,h1,h2,h3,_⟩:=h
 have l1:1<=rs.length:=List.length_pos_iff.mpr h0
 rw [slip_due,adj_inc h3,Bool.and_true]
 have e:((rs.map roP).length:Int)=rs.length:=by simp
 have:(rs.map roP).all rowB=true:=List.all_eq_true.mpr fun x hx=>by
  obtain ⟨r,hr,rfl⟩:=List.mem_map.mp hx
  exact rowT_form (h2 r hr)
 rw [this,Bool.and_true,lenB,e,Bool.and_eq_true,decide_eq_true_eq,decide_eq_true_eq]
 (first|lia|omega)
theorem lines_of {rs:List (Int×Fc)}(h:RsT rs):linesP (textT rs)=rs.map lineP:=text_split h.2.2.1 h.1
theorem tells_of {rs:List (Int×Fc)}(h:RsT rs):(∀ l∈linesP (textT rs),RowG l)/\(linesP (textT rs)).map rowV=rs.map roP:=by
 rw [lines_of h]
 refine ⟨fun l hl=>?_,?_⟩
 ·obtain ⟨r,hr,rfl⟩:=List.mem_map.mp hl
  exact (line_tells (h.2.2.1 r hr)).1
 ·rw [List.map_map]
  exact List.map_congr_left fun r hr=>(line_tells (h.2.2.1 r hr)).2
theorem prAV_inj:∀ {ps qs:List (Int×Int)},ps.map prAV=qs.map prAV->ps=qs
 | [],[],_=>rfl
 | [],_::_,h=>by cases h
 | _::_,[],h=>by cases h
 | (a,b)::ps,(c,d)::qs,h=>by
  have h:=List.cons.inj h
  have e:AV.tup [.int a,.int b]=AV.tup [.int c,.int d]:=h.1
  cases e
  rw [prAV_inj h.2]
theorem roP_inj {r s:Int×Fc}(h:roP r=roP s):r=s:=by
 obtain ⟨n,f⟩:=r
 obtain ⟨m,g⟩:=s
 have h:AV.tup [.int n,.str f.word,.tup f.facts]=AV.tup [.int m,.str g.word,.tup g.facts]:=h
 injection h with h
 injection h with h1 h
 injection h with h2 h
 injection h with h3 _
 injection h1 with h1
 injection h2 with h2
 injection h3 with h3
 subst h1
 cases f<;>cases g<;>simp only [Fc.word] at h2<;>first
  | rfl
  | exact absurd h2 (by decide)
  | skip
 ·simp only [Fc.facts,List.cons.injEq,AV.int.injEq,psT,AV.tup.injEq,and_true] at h3
  rw [h3.1,prAV_inj h3.2]
 ·simp only [Fc.facts,List.cons.injEq,AV.int.injEq,and_true] at h3
  rw [h3.1,h3.2]
 ·simp only [Fc.facts,List.cons.injEq,AV.int.injEq,and_true] at h3
  rw [h3]
 ·simp only [Fc.facts,List.cons.injEq,AV.int.injEq,and_true] at h3
  rw [h3]
theorem roPs_inj:∀ {rs ss:List (Int×Fc)},rs.map roP=ss.map roP->rs=ss
 | [],[],_=>rfl
 | [],_::_,h=>by cases h
 | _::_,[],h=>by cases h
 | r::rs,s::ss,h=>by
  have h:=List.cons.inj h
  rw [roP_inj h.1,roPs_inj h.2]
theorem gd_row {H:Hp}{l:Str}(hl:l.length<=4000000) (hg:RowG l):Gd H 5 (rowV l):=by
 obtain ⟨a,w,r,e,_,fg⟩:=hg
 have hr:r.length<=4000001:=by
  have:=words_ne l
  rw [e] at this;simp at this;(first|lia|omega)
 rw [rowV_at e]
 refine (gd_3 (n:=3) .int .str ?_).up (by decide)
 unfold facV
 split
 ·refine .tup (by simp) fun x hx=>?_
  simp only [List.mem_cons,List.not_mem_nil,or_false] at hx
  rcases hx with rfl|rfl
  ·exact .int
  ·exact .tup (by rw [List.length_map,List.length_drop];(first|lia|omega)) fun x hx=>by
    obtain ⟨p,_,rfl⟩:=List.mem_map.mp hx
    exact gdI (l:=[(pV p).1,(pV p).2]) (by simp)
 ·have:(r.map fun x=>AV.int (vN x))=(r.map vN).map .int:=by rw [List.map_map];rfl
  rw [this]
  exact gdI (by rw [List.length_map];(first|lia|omega))
noncomputable def RRead2:Rais2:=fun args H Q X=>∃ t:Str,args=[.str t]/\Asc t/\t.length<=4000000/\(∀ rs,RsT rs->t=textT rs->∀ H',H<+:H'->Q (.tup (rs.map roP)) H')/\((¬ ∃ rs,RsT rs/\t=textT rs)->∀ H',H<+:H'->X "NoText" H')
theorem read {Φ:Fun}(c1:SRowOf Φ) (c2:SSlip Φ) (c3:SWritten Φ){args:List AV}{H:Hp}{Q:PQ}{X:XP}(h:RRead2 args H Q X):wpFX Φ (m_read RRow) args H Q X:=by
 obtain ⟨t,rfl,ha,hl,hq,hx⟩:=h
 have lc:(linesP t).length<=4000001:=Nat.le_trans split_count (by (first|lia|omega))
 have lm:∀ l∈linesP t,Asc l/\l.length<=4000000:=fun l hm=>⟨asc_split ha l hm,Nat.le_trans (split_mem_len hm) hl⟩
 refine ⟨rfl,?_⟩
 show wpSs Φ ((m_read RRow).body.drop 0) [some (.str t),none] H (endX Q X)
 refine cut_x 0 rfl fun R' rr rx rn=>?_
 rw [s_orR]
 by_cases hg:∀ l∈linesP t,RowG l
 ·left
  walk_at "wq"
  refine k_split2 nl1 (by show t.length+1<=16777216;(first|lia|omega)) rfl ?_
  walk_at "wq"
  rw [r_list at_new]
  refine comp_each AV.str rowV (linesP t) (szM (by (first|lia|omega))) (fun H' p=>pre_at p at_new) (fun H' q x hm=>?_) fun H' q=>?_
  ·refine ⟨[.str x],rfl,fun Q' q'=>?_⟩
   walk_at "wq"
   exact c1 x H' _ (lm x hm).1 (lm x hm).2 (hg x hm) q'
  ·walk_at "wq"
   refine tup_big at_new (by rw [List.length_map];(first|lia|omega)) ?_
   walk_at "wq"
   have pp:H<+:H'++[AObj.list ((linesP t).map rowV)]:=(pre_new.trans q).trans pre_new
   refine rn _ _ (cut_x 1 rfl fun R' rr rx rn=>?_)
   generalize H'++[AObj.list ((linesP t).map rowV)]=H1 at pp
   walk_at "wq"
   refine c2 _ _ _ (fun l e=>?_) ?_
   ·cases e
    exact ⟨by rw [List.length_map];(first|lia|omega),fun x hx=>by
     obtain ⟨l,hm,rfl⟩:=List.mem_map.mp hx
     exact gd_row (lm l hm).2 (hg l hm)⟩
   cases hs:slipB (.tup ((linesP t).map rowV)) with
   | false =>
    walk_at "wq"
    refine raise1 (R:=R') (rx _ _ _ (hx ?_ _ pp))
    rintro ⟨rs,ok,rfl⟩
    rw [(tells_of ok).2,slipT_form ok] at hs;cases hs
   | true =>
    obtain ⟨rs,ok,e⟩:=slip_inv hl hg hs
    rw [e]
    walk_at "wq"
    refine c3 rs _ _ ok fun H2 p2=>?_
    walk_at "wq"
    by_cases et:textT rs=t
    ·rw [show (textT rs == t)=true from beq_iff_eq.mpr et]
     walk_at "wq"
     refine rn _ _ ?_
     simp only [m_read,List.drop]
     walk_at "wq"
     exact hq rs ok et.symm _ (pp.trans p2)
    ·rw [show (textT rs == t)=false from beq_eq_false_iff_ne.mpr et]
     walk_at "wq"
     refine raise1 (R:=R') (rx _ _ _ (hx ?_ _ (pp.trans p2)))
     rintro ⟨rs',ok',e'⟩
     have q:=(tells_of ok').2
     rw [←e',e] at q
     exact et (by rw [roPs_inj q,e'])
 ·right
  rw [re_comp]
  walk_at "wq"
  refine k_split2 nl1 (by show t.length+1<=16777216;(first|lia|omega)) rfl ?_
  walk_at "wq"
  rw [r_list at_new]
  refine comp_bad AV.str rowV RowG (linesP t) (szM (by (first|lia|omega))) (Classical.byContradiction fun z=>hg fun x hx=>Classical.byContradiction fun y=>z ⟨x,hx,y⟩) (fun H' p=>pre_at p at_new) (fun H' q x hm g Q' q'=>?_) fun H' q x hm g=>?_
  ·walk_at "wq"
   exact c1 x H' _ (lm x hm).1 (lm x hm).2 g q'
  ·walk_at "wq"
   refine ⟨x,rfl,(lm x hm).1,(lm x hm).2,g,fun H3 p3=>rx _ _ _ (hx ?_ _ ((pre_new.trans q).trans p3))⟩
   rintro ⟨rs,ok,rfl⟩
   exact g ((tells_of ok).1 x hm)
end
section
open PySem
set_option maxHeartbeats 2000000
noncomputable def signsS:Str := "0123456789^ \nfirstpowelmdo+-_.,;:ABZ!#~"
theorem signs_len:signsS.length=39:=by decide
theorem signs_asc:∀ c∈signsS.cps.toList,c<128:=by decide
noncomputable def chgIn:List MS:=[.asg 8 (.comp false 1 (.loc 11) .range [.bi .len [.loc 6]] [.inS (.cst (.str "^")) (.idx (.loc 6) (.loc 11))]),
  .ite (.and2 (.cmp .gt (.bi .len [.loc 8]) (.cst (.int 0))) (.cmp .gt (.bin .mod (.bin .fdiv (.loc 1) (.cst (.int 25600))) (.cst (.int 3))) (.cst (.int 0)))) [.asg 7 (.idx (.loc 8) (.bin .mod (.loc 2) (.bi .len [.loc 8])))] [],
  .asg 9 (.splitS (.idx (.loc 6) (.loc 7)) (.cst (.str " "))),
  .asg 10 (.idx (.lst [.cst (.str ""),.cst (.str "0"),.cst (.str "1^0"),.cst (.str "2"),.mulS (.cst (.str "1")) (.cst (.int 31)),.mulS (.cst (.str "1")) (.cst (.int 32)),.cst (.str "2^2"),.mulS (.cst (.str "1")) (.cst (.int 5000))]) (.bin .mod (.bin .fdiv (.loc 1) (.cst (.int 10))) (.cst (.int 8)))),
  .asg 3 (.bin .mod (.bin .fdiv (.loc 1) (.cst (.int 80))) (.bi .len [.loc 9])),
  .ite (.cmp .eq (.bin .mod (.bin .fdiv (.loc 1) (.cst (.int 1600))) (.cst (.int 4))) (.cst (.int 0))) [.expr (.meth .insert (.loc 9) [.loc 3,.loc 10])] [.asg 3 (.idx (.lst [.loc 3,.bin .sub (.bi .len [.loc 9]) (.cst (.int 1))]) (.bin .mod (.bin .fdiv (.loc 1) (.cst (.int 800))) (.cst (.int 2)))),
   .sto (.loc 9) (.loc 3) (.idx (.lst [.bin .add (.cst (.str "0")) (.idx (.loc 9) (.loc 3)),.bin .add (.idx (.loc 9) (.loc 3)) (.cst (.str "^1")),.bin .add (.cst (.str "+")) (.idx (.loc 9) (.loc 3)),.bin .add (.idx (.loc 9) (.loc 3)) (.cst (.str " "))]) (.bin .mod (.bin .fdiv (.loc 1) (.cst (.int 6400))) (.cst (.int 4))))],
  .ret (.joinS (.cst (.str "\n")) (.bin .add (.bin .add (.slc (.loc 6) [] [.loc 7]) (.lst [.joinS (.cst (.str " ")) (.loc 9)])) (.slc (.loc 6) [.bin .add (.loc 7) (.cst (.int 1))] [])))]
theorem chg_in:m_law_changed.body[9]?=some (.ite (.cmp .gt (.bin .mod (.loc 1) (.cst (.int 10))) (.cst (.int 4))) chgIn []):=rfl
theorem cut_i {Φ:Fun}{loc:Loc}{H:Hp}{R:PF}{ss:List MS}(k:Nat){s:MS}(hs:ss[k]?=some s) (h:∀ T:PF,(∀ v loc H,R (.ret v) loc H->T (.ret v) loc H)->(∀ loc H,wpSs Φ (ss.drop (k+1)) loc H R->T .next loc H)->wpS Φ s loc H T):wpSs Φ (ss.drop k) loc H R:=by
 obtain ⟨hlt,e⟩:=List.getElem?_eq_some_iff.mp hs
 rw [List.drop_eq_getElem_cons hlt,e,ss_cons]
 exact h _ (fun _ _ _ q=>q) (fun _ _ q=>q)
noncomputable def wS (xs:List Str):Nat:=(xs.map fun x=>x.length+1).sum
theorem wS_app (xs ys:List Str):wS (xs++ys)=wS xs+wS ys:=by unfold wS;rw [List.map_append,List.sum_append]
theorem wS_cons (x:Str) (ys:List Str):wS (x::ys)=x.length+1+wS ys:=by unfold wS;rw [List.map_cons,List.sum_cons]
theorem wS_join {sep:Str}(hs:sep.length=1):∀ {xs:List Str},xs≠[]->wS xs=(Str.join sep xs).length+1
 | [],h=>absurd rfl h
 | [x],_=>by simp [wS,Str.join]
 | x::y::r,_=>by
  have ih:=wS_join hs (xs:=y::r) (by simp)
  rw [wS_cons,ih]
  show _=(x++sep++Str.join sep (y::r)).length+1
  rw [Str.length_append,Str.length_append,hs];(first|lia|omega)
theorem wS_mem {x:Str}:∀ {xs:List Str},x∈xs->x.length+1<=wS xs
 | y::ys,h=>by
  rw [wS_cons]
  rcases List.mem_cons.mp h with rfl|h
  ·(first|lia|omega)
  ·have:=wS_mem h;(first|lia|omega)
theorem wS_len (xs:List Str):xs.length<=wS xs:=by
 induction xs with
 | nil=>exact Nat.zero_le _
 | cons x xs ih=>rw [wS_cons,List.length_cons];(first|lia|omega)
theorem wS_take (k:Nat) (xs:List Str):wS (xs.take k)+wS (xs.drop k)=wS xs:=by rw [←wS_app,List.take_append_drop]
noncomputable def Ascs (xs:List Str):Prop:=∀ x∈xs,Asc x
theorem asc_app {x y:Str}(hx:Asc x) (hy:Asc y):Asc (x++y):=fun c hc=>by
 rw [Str.cps_append,Array.toList_append] at hc
 exact (List.mem_append.mp hc).elim (hx c) (hy c)
theorem asc_slice {x:Str}{a b:Option Int}(hx:Asc x):Asc (Txt.slice x a b):=fun c hc=>hx c (slice_mem hc)
theorem asc_join {sep:Str}(hs:Asc sep):∀ {xs:List Str},Ascs xs->Asc (Str.join sep xs)
 | [],_=>fun c hc=>by simp [Str.join,Str.empty] at hc
 | [x],h=>h x (by simp)
 | x::y::r,h=>asc_app (asc_app (h x (by simp)) hs) (asc_join hs fun z hz=>h z (List.mem_cons_of_mem _ hz))
theorem asc_nl:Asc "\n" := by unfold Asc;decide
theorem asc_sp:Asc " " := by unfold Asc;decide
theorem split_ne {t:Str}{c:Nat}:Txt.split t ⟨#[c]⟩≠[]:=fun z=>by
 unfold Txt.split at z
 split at z
 ·cases z
 ·split at z
  ·cases z
  ·rw [StrLaws.partsBetween_eq] at z
   obtain ⟨p,r,q⟩:=StrLaws.partsFrom_ne t (⟨#[c]⟩:Str).length 0 (Builtin.Str.occurrences t ⟨#[c]⟩ 0 t.length (t.length+1))
   rw [q] at z;cases z
theorem split_wS {t:Str}{c:Nat}:wS (Txt.split t ⟨#[c]⟩)=t.length+1:=by rw [wS_join (sep:=⟨#[c]⟩) rfl split_ne,StrLaws.join_split]
theorem add_big {H:Hp}{Q:PQ}{i j:Nat}{l m:List AV}(h1:H[i]?=some (.list l)) (h2:H[j]?=some (.list m)) (hn:l.length+m.length<=10000000) (q:Q (.ref H.length) (H++[.list (l++m)])):wpBin .add (.ref i) (.ref j) H Q:=by
 rw [b_addL h1 h2];exact ⟨szM hn,q⟩
theorem lslice_take {α:Type}{l:List α}{k:Nat}:lslice l none (some (k:Int))=l.take k:=by
 show (l.drop 0).take (min ((k:Int)).toNat l.length-0)=_
 rw [Int.toNat_natCast,List.drop_zero,Nat.sub_zero]
 rcases Nat.le_total k l.length with h|h
 ·rw [Nat.min_eq_left h]
 ·rw [Nat.min_eq_right h,List.take_of_length_le (Nat.le_refl _),List.take_of_length_le h]
theorem word_near {H:Hp}{Q:PQ}{i:Nat}{xs:List Str}{k:Int}(h:H[i]?=some (.list (xs.map .str))) (hn:xs.length<=10000000) (h0 : -1<=k) (h1:k<xs.length) (h2:1<=xs.length) (q:∀ x∈xs,Q (.str x) H):wpIdx (.ref i) (.int k) H Q:=by
 rw [i_list h]
 have hm:∀ j,j<(xs.map AV.str).length->∃ z,(xs.map AV.str)[j]?=some z/\Q z H:=fun j hj=>by
  rw [List.length_map] at hj
  exact ⟨.str xs[j],by rw [List.getElem?_map,List.getElem?_eq_getElem hj];rfl,q _ (List.getElem_mem hj)⟩
 by_cases hk:0<=k
 ·obtain ⟨z,hz,qz⟩:=hm k.toNat (by rw [List.length_map];(first|lia|omega))
  exact ⟨by rw [List.length_map];(first|lia|omega),k.toNat,z,place_nn hk (by rw [List.length_map];exact h1),hz,qz⟩
 ·have:k = -1:=by (first|lia|omega)
  subst this
  obtain ⟨z,hz,qz⟩:=hm (xs.length-1) (by rw [List.length_map];(first|lia|omega))
  refine ⟨by rw [List.length_map];(first|lia|omega),xs.length-1,z,?_,hz,qz⟩
  unfold place
  rw [List.length_map,if_neg (by (first|lia|omega)),if_pos (by (first|lia|omega))]
  congr 1;(first|lia|omega)
theorem join_lines {xs:List Str}{N:Nat}(h:wS xs<=N) (hn:N<=2^24):JoinOk "\n" xs=true:=by
 by_cases hx:xs=[]
 ·subst hx;rfl
 ·exact joinOk_len (by rw [show ("\n" : Str).length=1 from rfl];have:=wS_join (sep := "\n") rfl hx;(first|lia|omega))
theorem join_words {xs:List Str}{N:Nat}(h:wS xs<=N) (hn:N<=2^24):JoinOk " " xs=true:=by
 by_cases hx:xs=[]
 ·subst hx;rfl
 ·exact joinOk_len (by rw [show (" " : Str).length=1 from rfl];have:=wS_join (sep := " ") rfl hx;(first|lia|omega))
theorem join_le {sep:Str}(hs:sep.length=1){xs:List Str}:(Str.join sep xs).length<=wS xs:=by
 by_cases hx:xs=[]
 ·subst hx;exact Nat.zero_le _
 ·have:=wS_join hs hx;(first|lia|omega)
end
section
open PySem
set_option maxHeartbeats 2000000
section
variable {Φ:Fun}{H:Hp}{R:PF}{n:Nat}{iL:Nat}{ls:List Str}
theorem three_parts {loc:Loc}{Q:PQ}{i j k:Nat}{xs ys zs:List Str}{H0 H1 H2:Hp}(h1:H2[i]?=some (.list (xs.map .str))) (h2:H2[j]?=some (.list (ys.map .str))) (N:Nat) (hN:wS xs+wS ys+wS zs<=N) (hn:N<=5000000)
  (q:∀ H3 m,H2<+:H3->H3[m]?=some (.list ((xs++ys).map .str))->Q (.ref m) H3):wpBin .add (.ref i) (.ref j) H2 Q:=by
 have l1:=wS_len xs
 have l2:=wS_len ys
 refine add_big h1 h2 (by rw [List.length_map,List.length_map];(first|lia|omega)) ?_
 rw [←List.map_append]
 exact q _ _ pre_new at_new
theorem chg_last {t:Str}{q iW:Nat}{ws:List Str}{a0 a1 a2 a3 a4 a5 a8 a10:Option AV}(hn:n<=1300000) (ht:wS ls<=n+1) (hq:q<ls.length) (aL:Ascs ls) (hL:H[iL]?=some (.list (ls.map .str))) (aW:Ascs ws) (wW:wS ws<=2*n+5500) (hW:H[iW]?=some (.list (ws.map .str)))
  (h:∀ t' loc H',H<+:H'->Asc t'->t'.length<=3*n+6000->R (.ret (.str t')) loc H'):wpSs Φ (chgIn.drop 6) [a0,a1,a2,a3,a4,a5,some (.ref iL),some (.int q),a8,some (.ref iW),a10] H R:=by
 have l1:=wS_len ls
 have l2:=wS_len ws
 have tk:=wS_take q ls
 have dk:=wS_take (q+1) ls
 simp only [chgIn,List.drop]
 walk_at "wq"
 refine ⟨by (first|lia|omega),?_⟩
 refine wl_at hL ?_
 walk_at "wq"
 refine ⟨szM (by rw [List.length_map];(first|lia|omega)),?_⟩
 rw [lslice_take,←List.map_take]
 refine k_join2 (xs:=ws) (pre_at pre_new hW) (join_words wW (by (first|lia|omega))) ?_
 walk_at "wq"
 refine ⟨sz1,?_⟩
 have jw:(Str.join " " ws).length<=2*n+5500:=Nat.le_trans (join_le rfl) wW
 have e1:([AV.str (Str.join " " ws)]:List AV)=([Str.join " " ws]).map .str:=rfl
 rw [e1]
 have w1:wS [Str.join " " ws]<=2*n+5501:=by rw [wS_cons];show _+0<=_;(first|lia|omega)
 refine three_parts (loc:=[]) (zs:=[]) (H0:=H) (H1:=H) (k:=0) (pre_at pre_new at_new) at_new (3*n+5503) (by show _+_+0<=_;(first|lia|omega)) (by (first|lia|omega)) fun H3 m p3 h3=>?_
 have pp:H<+:H3:=(pre_new.trans pre_new).trans p3
 walk_at "wq"
 refine ⟨by (first|lia|omega),?_⟩
 refine wl_at (pre_at pp hL) ?_
 walk_at "wq"
 refine ⟨szM (by rw [List.length_map];(first|lia|omega)),?_⟩
 rw [show (q:Int)+1=((q+1:Nat):Int) from rfl,lslice_drop,←List.map_drop]
 have wT:wS (ls.take q++[Str.join " " ws])+wS (ls.drop (q+1))<=3*n+5503:=by
  rw [wS_app]
  have:wS (ls.drop (q+1))<=wS (ls.drop q):=by
   rw [List.drop_eq_getElem_cons hq,wS_cons];(first|lia|omega)
  (first|lia|omega)
 refine three_parts (loc:=[]) (zs:=[]) (H0:=H) (H1:=H) (k:=0) (pre_at pre_new h3) at_new (3*n+5503) (by show _+_+0<=_;(first|lia|omega)) (by (first|lia|omega)) fun H4 m4 p4 h4=>?_
 have wA:wS (ls.take q++[Str.join " " ws]++ls.drop (q+1))<=3*n+5503:=by rw [wS_app];exact wT
 refine k_join2 h4 (join_lines wA (by (first|lia|omega))) ?_
 walk_at "wq"
 refine h _ _ _ (pp.trans (pre_new.trans p4)) (asc_join asc_nl fun x hx=>?_) (Nat.le_trans (join_le rfl) (by (first|lia|omega)))
 rcases List.mem_append.mp hx with hx|hx
 ·rcases List.mem_append.mp hx with hx|hx
  ·exact aL x (List.mem_of_mem_take hx)
  ·rw [List.mem_singleton.mp hx];exact asc_join asc_sp aW
 ·exact aL x (List.mem_of_mem_drop hx)
end
end
section
open PySem
set_option maxHeartbeats 2000000
noncomputable def putsL:List Str:=["", "0", "1^0", "2",timesS ⟨#[49]⟩ 31,timesS ⟨#[49]⟩ 32, "2^2",timesS ⟨#[49]⟩ 5000]
theorem asc_times {n:Nat}:Asc (timesS ⟨#[49]⟩ n):=fun c hc=>by
 rw [times_cps] at hc
 rw [List.eq_of_mem_replicate hc];decide
theorem puts_ok:∀ x∈putsL,Asc x/\x.length<=5000:=fun x hx=>by
 simp only [putsL,List.mem_cons,List.not_mem_nil,or_false] at hx
 rcases hx with rfl|rfl|rfl|rfl|rfl|rfl|rfl|rfl
 ·exact ⟨by unfold Asc;decide,by decide⟩
 ·exact ⟨by unfold Asc;decide,by decide⟩
 ·exact ⟨by unfold Asc;decide,by decide⟩
 ·exact ⟨by unfold Asc;decide,by decide⟩
 ·exact ⟨asc_times,by rw [times_len];decide⟩
 ·exact ⟨asc_times,by rw [times_len];decide⟩
 ·exact ⟨by unfold Asc;decide,by decide⟩
 ·exact ⟨asc_times,by rw [times_len];exact Nat.le_refl _⟩
theorem one1:("1" : Str)=⟨#[49]⟩:=by decide
theorem k_w2 {H:Hp}{Q:PQ}{n:Nat}(h2:2<=n) (hn:n<=10000) (q:Q (.str (timesS ⟨#[49]⟩ n)) H):kW2 (.str "1") Q (.int (n:Int)) H:=⟨49,n,one1,rfl,h2,hn,q⟩
theorem set_big {H:Hp}{K:Hp->Prop}{i:Nat}{l:List AV}{k:Int}{x:AV}(h:H[i]?=some (.list l)) (hn:l.length<=10000000) (h0:0<=k) (h1:k<l.length) (q:K (H.set i (.list (l.set k.toNat x)))):wpSet (.ref i) (.int k) x H K:=by
 unfold wpSet asI;simp only [h];exact ⟨by (first|lia|omega),h0,h1,q⟩
theorem ins_big {H:Hp}{Q:PQ}{i:Nat}{l:List AV}{k:Int}{x:AV}(h:H[i]?=some (.list l)) (hn:l.length<=10000000) (h0:0<=k) (h1:k<=l.length) (q:Q .none (H.set i (.list (l.take k.toNat++x::l.drop k.toNat)))):wpMt .insert (.ref i) [.int k,x] H Q:=by
 unfold wpMt
 rw [onL_ref h]
 exact ⟨szM hn,h0,h1,q⟩
theorem mod_in {a:Int}{b:Nat}(h:0<b):0<=a.fmod b/\a.fmod b<b:=by
 rw [fmod_nn (by (first|lia|omega))]
 exact ⟨Int.emod_nonneg _ (by (first|lia|omega)),Int.emod_lt_of_pos _ (by (first|lia|omega))⟩
theorem wS_set {x:Str}:∀ {xs:List Str}{k:Nat},wS (xs.set k x)<=wS xs+x.length+1
 | [],k=>by simp [wS]
 | y::ys,0=>by rw [List.set_cons_zero,wS_cons,wS_cons];(first|lia|omega)
 | y::ys,k+1=>by
  have ih:=wS_set (x:=x) (xs:=ys) (k:=k)
  rw [List.set_cons_succ,wS_cons,wS_cons];(first|lia|omega)
section
variable {Φ:Fun}{H:Hp}{R:PF}{n:Nat}{iL:Nat}{ls:List Str}
theorem chg_words {t:Str}{q:Nat}{c:Int}{a0 a2 a3 a4 a5 a8:Option AV}(hn:n<=1300000) (c0:0<=c) (ht:wS ls<=n+1) (hq:q<ls.length) (aL:Ascs ls) (hL:H[iL]?=some (.list (ls.map .str)))
  (h:∀ t' loc H',H<+:H'->Asc t'->t'.length<=3*n+6000->R (.ret (.str t')) loc H'):wpSs Φ (chgIn.drop 2) [a0,some (.int c),a2,a3,a4,a5,some (.ref iL),some (.int q),a8,none,none] H R:=by
 have l1:=wS_len ls
 have iLlt:iL<H.length:=(List.getElem?_eq_some_iff.mp hL).1
 have last:∀ (H':Hp) (iW:Nat) (ws:List Str) (b3 b10:Option AV),H<+:H'->Ascs ws->wS ws<=2*n+5500->H'[iW]?=some (.list (ws.map .str))->wpSs Φ (chgIn.drop 6) [a0,some (.int c),a2,b3,a4,a5,some (.ref iL),some (.int q),a8,some (.ref iW),b10] H' R:=fun H' iW ws b3 b10 p aW wW hW =>
  chg_last (t:=t) hn ht hq aL (pre_at p hL) aW wW hW fun t' loc H2 p2=>h t' loc H2 (p.trans p2)
 refine cut_i 2 rfl fun T tr tn=>?_
 walk_at "wq"
 refine word_near hL (by (first|lia|omega)) (by (first|lia|omega)) (by (first|lia|omega)) (by (first|lia|omega)) fun x hx=>?_
 have lx:x.length+1<=n+1:=Nat.le_trans (wS_mem hx) ht
 walk_at "wq"
 refine k_split2 sp1 (by show x.length+1<=16777216;(first|lia|omega)) rfl ?_
 walk_at "wq"
 have aW:Ascs (Txt.split x ⟨#[32]⟩):=fun y hy=>asc_split (aL x hx) y hy
 have wW:wS (Txt.split x ⟨#[32]⟩)<=n+1:=by rw [split_wS];exact lx
 have nW:Txt.split x ⟨#[32]⟩≠[]:=split_ne
 generalize Txt.split x ⟨#[32]⟩=ws at aW wW nW
 have wl:1<=ws.length:=List.length_pos_iff.mpr nW
 have wl2:=wS_len ws
 have g1:(H++[AObj.list (ws.map AV.str)])[H.length]?=some (.list (ws.map .str)):=at_new
 have p1:H<+:H++[AObj.list (ws.map AV.str)]:=pre_new
 generalize H++[AObj.list (ws.map AV.str)]=H1 at g1 p1
 refine tn _ _ (cut_i 3 rfl fun T tr tn=>?_)
 walk_at "wq"
 refine k_w2 (n:=31) (by decide) (by decide) ?_
 walk_at "wq"
 refine k_w2 (n:=32) (by decide) (by decide) ?_
 walk_at "wq"
 refine k_w2 (n:=5000) (by decide) (by decide) ?_
 walk_at "wq"
 refine ⟨sz8,by decide,noPyS (by decide),by decide,?_⟩
 have e8:([AV.str (Str.ofString ""),.str (Str.ofString "0"),.str (Str.ofString "1^0"),.str (Str.ofString "2"),.str (timesS ⟨#[49]⟩ 31),.str (timesS ⟨#[49]⟩ 32),.str (Str.ofString "2^2"),.str (timesS ⟨#[49]⟩ 5000)]:List AV)=putsL.map .str:=rfl
 rw [e8]
 have m8:=mod_in (a:=c.fdiv 10) (b:=8) (by decide)
 refine idx_any (l:=putsL.map .str) at_new (by decide) m8.1 m8.2 fun z hz=>?_
 obtain ⟨pt,hp,rfl⟩:=List.mem_map.mp hz
 obtain ⟨ap,lp⟩:=puts_ok pt hp
 walk_at "wq"
 refine tn _ _ (cut_i 4 rfl fun T tr tn=>?_)
 have g2:(H1++[AObj.list (putsL.map AV.str)])[H.length]?=some (.list (ws.map .str)):=pre_at pre_new g1
 have p2:H<+:H1++[AObj.list (putsL.map AV.str)]:=p1.trans pre_new
 generalize H1++[AObj.list (putsL.map AV.str)]=H2 at g2 p2
 walk_at "wq"
 refine ⟨by decide,noPyS (by decide),len_big g2 (by rw [List.length_map];(first|lia|omega)) ?_⟩
 walk_at "wq"
 rw [List.length_map]
 have mA:=mod_in (a:=c.fdiv 80) (b:=ws.length) wl
 generalize (c.fdiv 80).fmod (ws.length:Int)=k at mA
 refine ⟨by (first|lia|omega),tn _ _ (cut_i 5 rfl fun T tr tn=>?_)⟩
 walk_at "wq"
 refine ⟨by decide,noPyS (by decide),by decide,?_⟩
 refine sp_d (fun h1=>?_) (fun h1=>?_)
 ·walk_at "wq"
  refine ⟨isL_ref g2,ins_big g2 (by rw [List.length_map];(first|lia|omega)) mA.1 (by rw [List.length_map];(first|lia|omega)) ?_⟩
  walk_at "wq"
  have ei:(ws.map AV.str).take k.toNat++AV.str pt::(ws.map AV.str).drop k.toNat=(ws.take k.toNat++pt::ws.drop k.toNat).map .str:=by rw [List.map_append,List.map_cons,List.map_take,List.map_drop]
  rw [ei]
  refine tn _ _ (last _ H.length (ws.take k.toNat++pt::ws.drop k.toNat) _ _ (pre_set p2 (Nat.le_refl _)) (fun y hy=>?_) ?_ (get_set_eq g2))
  ·rcases List.mem_append.mp hy with hy|hy
   ·exact aW y (List.mem_of_mem_take hy)
   ·rcases List.mem_cons.mp hy with rfl|hy
    ·exact ap
    ·exact aW y (List.mem_of_mem_drop hy)
  ·have:=wS_take k.toNat ws
   rw [wS_app,wS_cons];(first|lia|omega)
 ·walk_at "wq"
  refine len_big g2 (by rw [List.length_map];(first|lia|omega)) ?_
  walk_at "wq"
  rw [List.length_map]
  refine ⟨sz2,by decide,noPyS (by decide),by decide,?_⟩
  have m2:=mod_in (a:=c.fdiv 800) (b:=2) (by decide)
  refine idx_any at_new (by simp) m2.1 m2.2 fun z hz=>?_
  obtain ⟨k',rfl,k0,k1⟩:∃ k':Int,z=.int k'/\0<=k'/\k'<ws.length:=by
   simp only [List.mem_cons,List.not_mem_nil,or_false] at hz
   rcases hz with rfl|rfl
   ·exact ⟨_,rfl,mA.1,mA.2⟩
   ·exact ⟨_,rfl,by (first|lia|omega),by (first|lia|omega)⟩
  walk_at "wq"
  have g3:(H2++[AObj.list [AV.int k,.int ((ws.length:Int)-1)]])[H.length]?=some (.list (ws.map .str)):=pre_at pre_new g2
  have p3:H<+:H2++[AObj.list [AV.int k,.int ((ws.length:Int)-1)]]:=p2.trans pre_new
  generalize H2++[AObj.list [AV.int k,.int ((ws.length:Int)-1)]]=H3 at g3 p3
  have sl:sizeLine=16777216:=rfl
  have la:∀ x y:Str,(x++y).length=x.length+y.length:=Str.length_append
  have lw:∀ y∈ws,y.length<=n:=fun y hy=>by have:=wS_mem hy;(first|lia|omega)
  have s0:(Str.ofString "0").length=1:=rfl
  have s1:(Str.ofString "^1").length=2:=rfl
  have s2:(Str.ofString "+").length=1:=rfl
  have s3:(Str.ofString " ").length=1:=rfl
  refine word_near g3 (by (first|lia|omega)) (by (first|lia|omega)) k1 wl fun y1 h1=>?_
  have b1:=lw y1 h1
  walk_at "wq"
  refine ⟨by (first|lia|omega),?_⟩
  refine word_near g3 (by (first|lia|omega)) (by (first|lia|omega)) k1 wl fun y2 h2=>?_
  have b2:=lw y2 h2
  walk_at "wq"
  refine ⟨by (first|lia|omega),?_⟩
  refine word_near g3 (by (first|lia|omega)) (by (first|lia|omega)) k1 wl fun y3 h3=>?_
  have b3:=lw y3 h3
  walk_at "wq"
  refine ⟨by (first|lia|omega),?_⟩
  refine word_near g3 (by (first|lia|omega)) (by (first|lia|omega)) k1 wl fun y4 h4=>?_
  have b4:=lw y4 h4
  walk_at "wq"
  refine ⟨by (first|lia|omega),sz4,by decide,noPyS (by decide),by decide,?_⟩
  have m4:=mod_in (a:=c.fdiv 6400) (b:=4) (by decide)
  refine idx_any at_new (by simp) m4.1 m4.2 fun z hz=>?_
  have a0:Asc (Str.ofString "0"):=by unfold Asc;decide
  have a1:Asc (Str.ofString "^1"):=by unfold Asc;decide
  have a2:Asc (Str.ofString "+"):=by unfold Asc;decide
  obtain ⟨y,rfl,ya,yl⟩:∃ y:Str,z=.str y/\Asc y/\y.length<=n+2:=by
   simp only [List.mem_cons,List.not_mem_nil,or_false] at hz
   rcases hz with rfl|rfl|rfl|rfl
   ·exact ⟨_,rfl,asc_app a0 (aW y1 h1),by rw [la];(first|lia|omega)⟩
   ·exact ⟨_,rfl,asc_app (aW y2 h2) a1,by rw [la];(first|lia|omega)⟩
   ·exact ⟨_,rfl,asc_app a2 (aW y3 h3),by rw [la];(first|lia|omega)⟩
   ·exact ⟨_,rfl,asc_app (aW y4 h4) asc_sp,by rw [la];(first|lia|omega)⟩
  walk_at "wq"
  refine set_big (pre_at pre_new g3) (by rw [List.length_map];(first|lia|omega)) k0 (by rw [List.length_map];exact k1) ?_
  walk_at "wq"
  rw [←List.map_set]
  refine tn _ _ (last _ H.length (ws.set k'.toNat y) _ _ (pre_set (p3.trans pre_new) (Nat.le_refl _)) (fun x hx=>?_) ?_ (get_set_eq (pre_at pre_new g3)))
  ·rcases List.mem_or_eq_of_mem_set hx with hx|rfl
   ·exact aW x hx
   ·exact ya
  ·have:=wS_set (x:=y) (xs:=ws) (k:=k'.toNat)
   (first|lia|omega)
end
end
section
open PySem
set_option maxHeartbeats 2000000
section
variable {Φ:Fun}{H:Hp}{R:PF}{n:Nat}{iL:Nat}{ls:List Str}
theorem chg_long {t:Str}{q:Nat}{c m:Int}{a0 a3 a4 a5:Option AV}(hn:n<=1300000) (c0:0<=c) (ht:wS ls<=n+1) (hq:q<ls.length) (aL:Ascs ls) (hL:H[iL]?=some (.list (ls.map .str)))
  (h:∀ t' loc H',H<+:H'->Asc t'->t'.length<=3*n+6000->R (.ret (.str t')) loc H'):wpSs Φ (chgIn.drop 0) [a0,some (.int c),some (.int m),a3,a4,a5,some (.ref iL),some (.int q),none,none,none] H R:=by
 have l1:=wS_len ls
 have rest:∀ (H':Hp) (q':Nat) (b8:Option AV),H<+:H'->q'<ls.length->wpSs Φ (chgIn.drop 2) [a0,some (.int c),some (.int m),a3,a4,a5,some (.ref iL),some (.int q'),b8,none,none] H' R:=fun H' q' b8 p hq' =>
  chg_words (t:=t) hn c0 ht hq' aL (pre_at p hL) fun t' loc H2 p2=>h t' loc H2 (p.trans p2)
 refine cut_i 0 rfl fun T tr tn=>?_
 walk_at "wq"
 refine len_big hL (by rw [List.length_map];(first|lia|omega)) ?_
 walk_at "wq"
 rw [List.length_map]
 refine ⟨by (first|lia|omega),by (first|lia|omega),?_⟩
 rw [Int.toNat_natCast]
 refine ⟨by rw [List.length_map,List.length_range];exact szM (by (first|lia|omega)),fun i l H'=>H'=H/\∃ ks:List Nat,l=ks.map (fun (k:Nat)=>AV.int k)/\ks.length<=i/\∀ k∈ks,k<ls.length,⟨rfl,[],rfl,Nat.le_refl _,fun k hk=>by cases hk⟩,?_⟩
 rintro i l H' ⟨rfl,ks,rfl,kl,kb⟩
 refine ⟨trivial,fun y hy=>?_,fun hi=>?_⟩
 ·rw [List.getElem?_map] at hy
  obtain ⟨i',hi',rfl⟩:=Option.map_eq_some_iff.mp hy
  have ilt:i<ls.length:=by
   have:=(List.getElem?_eq_some_iff.mp hi').1
   rwa [List.length_range] at this
  rw [List.getElem?_range ilt] at hi'
  cases hi'
  refine ⟨[.int i],rfl,?_⟩
  walk_at "wq"
  refine ⟨94,ct1,?_⟩
  walk_at "wq"
  refine word_near hL (by (first|lia|omega)) (by (first|lia|omega)) (by (first|lia|omega)) (by (first|lia|omega)) fun x hx=>?_
  show kCs Φ _ _ _ (.bool (decide (94∈x.cps.toList))) _
  walk_at "wq"
  refine sp_b (K:=fun b=>kCsB Φ _ _ _ _ b) (fun e=>?_) (fun e=>?_)
  ·walk_at "wq"
   simp only [if_true]
   refine ⟨by simp,ks++[i],by rw [List.map_append];rfl,by rw [List.length_append];simp;(first|lia|omega),fun k hk=>?_⟩
   rcases List.mem_append.mp hk with hk|hk
   ·exact kb k hk
   ·rw [List.mem_singleton.mp hk];exact ilt
  ·walk_at "wq"
   exact ⟨by simp,ks,rfl,by (first|lia|omega),kb⟩
 ·rw [List.length_map,List.length_range] at hi
  walk_at "wq"
  refine tn _ _ (cut_i 1 rfl fun T tr tn=>?_)
  walk_at "wq"
  refine len_big at_new (by rw [List.length_map];(first|lia|omega)) ?_
  walk_at "wq"
  rw [List.length_map]
  refine sp_d (K:=fun b=>kAndB Φ _ _ _ _ b) (fun h1=>?_) (fun h1=>?_)
  ·walk_at "wq"
   refine ⟨by decide,noPyS (by decide),by decide,?_⟩
   refine sp_d (fun h2=>?_) (fun h2=>?_)
   ·walk_at "wq"
    refine len_big at_new (by rw [List.length_map];(first|lia|omega)) ?_
    walk_at "wq"
    rw [List.length_map]
    have mk:=mod_in (a:=m) (b:=ks.length) (by (first|lia|omega))
    refine ⟨by (first|lia|omega),?_⟩
    have ng:m.fmod (ks.length:Int)=((m.fmod (ks.length:Int)).toNat:Int):=(Int.toNat_of_nonneg mk.1).symm
    have jlt:(m.fmod (ks.length:Int)).toNat<ks.length:=by (first|lia|omega)
    refine idx_at (l:=ks.map fun (k:Nat)=>AV.int k) (z:=.int (ks[(m.fmod (ks.length:Int)).toNat]:Nat)) (by simp [anyL,seqL]) (by rw [List.length_map];(first|lia|omega)) mk.1 (by rw [List.getElem?_map,List.getElem?_eq_getElem jlt];rfl) ?_
    walk_at "wq"
    exact tn _ _ (rest _ _ _ pre_new (kb _ (List.getElem_mem jlt)))
   ·walk_at "wq"
    exact tn _ _ (rest _ _ _ pre_new hq)
  ·walk_at "wq"
   exact tn _ _ (rest _ _ _ pre_new hq)
end
noncomputable def SChg (Φ:Fun):Prop:=∀ (n:Nat) (t:Str) (c m:Int) (H:Hp) (Q:PQ),Asc t->t.length<=n->n<=1300000->0<=c->0<=m->(∀ t' H',H<+:H'->Asc t'->t'.length<=3*n+6000->Q (.str t') H')->Φ "_law_changed" [.str t,.int c,.int m] H Q
theorem changed {Φ:Fun}{n:Nat}{t:Str}{c m:Int}{H:Hp}{Q:PQ}(ha:Asc t) (hl:t.length<=n) (hn:n<=1300000) (c0:0<=c) (m0:0<=m) (h:∀ t' H',H<+:H'->Asc t'->t'.length<=3*n+6000->Q (.str t') H'):wpF Φ m_law_changed [.str t,.int c,.int m] H Q:=by
 have sl:sizeLine=16777216:=rfl
 have la:∀ x y:Str,(x++y).length=x.length+y.length:=Str.length_append
 have ls:∀ a b,(Txt.slice t a b).length<=n:=fun a b=>Nat.le_trans (Txt.slice_le t a b) hl
 refine ⟨rfl,?_⟩
 show wpSs Φ (m_law_changed.body.drop 0) [some (.str t),some (.int c),some (.int m),none,none,none,none,none,none,none,none] H (endOf Q)
 refine cut_k 0 rfl fun R rr rn=>?_
 walk_at "wq"
 refine ⟨by (first|lia|omega),by (first|lia|omega),?_⟩
 have mp:=mod_in (a:=m) (b:=1+t.length) (by (first|lia|omega))
 rw [show (1:Int)+(t.length:Int)=((1+t.length:Nat):Int) by (first|lia|omega)]
 generalize m.fmod ((1+t.length:Nat):Int)=p at mp
 refine rn _ _ (cut_k 1 rfl fun R rr rn=>?_)
 walk_at "wq"
 refine rn _ _ (cut_k 2 rfl fun R rr rn=>?_)
 have es:(Str.ofString "0123456789^ \nfirstpowelmdo+-_.,;:ABZ!#~")=signsS:=rfl
 rw [es]
 walk_at "wq"
 rw [signs_len]
 have m3:=mod_in (a:=c.fdiv 10) (b:=39) (by decide)
 refine ⟨by decide,noPyS (by decide),by decide,by decide,m3.1,by decide,?_⟩
 have i3:((c.fdiv 10).fmod ((39:Nat):Int)).toNat<signsS.cps.toList.length:=by
  have:signsS.cps.toList.length=39:=by decide
  (first|lia|omega)
 refine ⟨_,List.getElem?_eq_getElem i3,?_⟩
 have ac:=signs_asc _ (List.getElem_mem i3)
 generalize signsS.cps.toList[((c.fdiv 10).fmod ((39:Nat):Int)).toNat]=ch at ac
 have asg:Asc ⟨#[ch]⟩:=fun x hx=>by rw [show x=ch by simpa using hx];exact ac
 have lsg:(⟨#[ch]⟩:Str).length=1:=rfl
 generalize hsg:(⟨#[ch]⟩:Str)=sg at asg lsg
 walk_at "wq"
 refine rn _ _ (cut_k 3 rfl fun R rr rn=>?_)
 walk_at "wq"
 refine ⟨by decide,sp_d (fun h1=>?_) (fun h1=>?_)⟩
 ·walk_at "wq"
  have l1:=ls none (some p)
  have l2:=ls (some (p+1)) none
  refine ⟨by (first|lia|omega),by (first|lia|omega),by (first|lia|omega),by (first|lia|omega),by (first|lia|omega),rr _ _ _ (h _ _ List.prefix_rfl (asc_app (asc_slice ha) (asc_slice ha)) (by rw [la];(first|lia|omega)))⟩
 walk_at "wq"
 refine rn _ _ (cut_k 4 rfl fun R rr rn=>?_)
 walk_at "wq"
 refine ⟨by decide,sp_d (fun h1=>?_) (fun h1=>?_)⟩
 ·walk_at "wq"
  have l1:=ls none (some p)
  have l2:=ls (some p) none
  refine ⟨by (first|lia|omega),by (first|lia|omega),by (first|lia|omega),by (first|lia|omega),by (first|lia|omega),by rw [la];(first|lia|omega),rr _ _ _ (h _ _ List.prefix_rfl (asc_app (asc_app (asc_slice ha) asg) (asc_slice ha)) (by rw [la,la];(first|lia|omega)))⟩
 walk_at "wq"
 refine rn _ _ (cut_k 5 rfl fun R rr rn=>?_)
 walk_at "wq"
 refine ⟨by decide,sp_d (fun h1=>?_) (fun h1=>?_)⟩
 ·walk_at "wq"
  have l1:=ls none (some p)
  have l2:=ls (some (p+1)) none
  refine ⟨by (first|lia|omega),by (first|lia|omega),by (first|lia|omega),by (first|lia|omega),by (first|lia|omega),by rw [la];(first|lia|omega),rr _ _ _ (h _ _ List.prefix_rfl (asc_app (asc_app (asc_slice ha) asg) (asc_slice ha)) (by rw [la,la];(first|lia|omega)))⟩
 walk_at "wq"
 refine rn _ _ (cut_k 6 rfl fun R rr rn=>?_)
 walk_at "wq"
 refine k_split2 nl1 (by show t.length+1<=16777216;(first|lia|omega)) rfl ?_
 walk_at "wq"
 have aL:Ascs (Txt.split t ⟨#[10]⟩):=fun y hy=>asc_split ha y hy
 have wL:wS (Txt.split t ⟨#[10]⟩)<=n+1:=by rw [split_wS];(first|lia|omega)
 have nL:Txt.split t ⟨#[10]⟩≠[]:=split_ne
 generalize Txt.split t ⟨#[10]⟩=lns at aL wL nL
 have ll:1<=lns.length:=List.length_pos_iff.mpr nL
 have l2:=wS_len lns
 have g1:(H++[AObj.list (lns.map AV.str)])[H.length]?=some (.list (lns.map .str)):=at_new
 have p1:H<+:H++[AObj.list (lns.map AV.str)]:=pre_new
 generalize H++[AObj.list (lns.map AV.str)]=H1 at g1 p1
 refine rn _ _ (cut_k 7 rfl fun R rr rn=>?_)
 walk_at "wq"
 refine len_big g1 (by rw [List.length_map];(first|lia|omega)) ?_
 walk_at "wq"
 rw [List.length_map]
 have mq:=mod_in (a:=m) (b:=lns.length) ll
 have eq:m.fmod (lns.length:Int)=((m.fmod (lns.length:Int)).toNat:Int):=(Int.toNat_of_nonneg mq.1).symm
 rw [eq]
 have hq:(m.fmod (lns.length:Int)).toNat<lns.length:=by (first|lia|omega)
 generalize (m.fmod (lns.length:Int)).toNat=q at hq
 refine ⟨by (first|lia|omega),rn _ _ (cut_k 8 rfl fun R rr rn=>?_)⟩
 walk_at "wq"
 refine ⟨by decide,sp_d (fun h1=>?_) (fun h1=>?_)⟩
 ·walk_at "wq"
  refine ⟨by (first|lia|omega),?_⟩
  refine wl_at g1 ?_
  walk_at "wq"
  refine ⟨szM (by rw [List.length_map];(first|lia|omega)),?_⟩
  rw [lslice_take,←List.map_take]
  refine word_near (pre_at pre_new g1) (by (first|lia|omega)) (by (first|lia|omega)) (by (first|lia|omega)) ll fun x hx=>?_
  walk_at "wq"
  refine ⟨sz1,?_⟩
  have e1:([AV.str x]:List AV)=([x]).map .str:=rfl
  rw [e1]
  have wx:=wS_mem hx
  have w1:wS [x]<=n+1:=by rw [wS_cons];show _+0<=_;(first|lia|omega)
  have tk:=wS_take q lns
  refine three_parts (loc:=[]) (zs:=[]) (H0:=H) (H1:=H) (k:=0) (pre_at pre_new at_new) at_new (2*n+2) (by show _+_+0<=_;(first|lia|omega)) (by (first|lia|omega)) fun H3 m3 p3 h3=>?_
  have pp:H1<+:H3:=(pre_new.trans pre_new).trans p3
  walk_at "wq"
  refine ⟨by (first|lia|omega),?_⟩
  refine wl_at (pre_at pp g1) ?_
  walk_at "wq"
  refine ⟨szM (by rw [List.length_map];(first|lia|omega)),?_⟩
  rw [lslice_drop,←List.map_drop]
  have wA:wS (lns.take q++[x]++lns.drop q)<=2*n+2:=by rw [wS_app,wS_app];(first|lia|omega)
  refine three_parts (loc:=[]) (zs:=[]) (H0:=H) (H1:=H) (k:=0) (pre_at pre_new h3) at_new (2*n+2) (by rw [wS_app];show _+_+0<=_;(first|lia|omega)) (by (first|lia|omega)) fun H4 m4 p4 h4=>?_
  refine k_join2 h4 (join_lines wA (by (first|lia|omega))) ?_
  walk_at "wq"
  refine rr _ _ _ (h _ _ (p1.trans (pp.trans (pre_new.trans p4))) (asc_join asc_nl fun y hy=>?_) (Nat.le_trans (join_le rfl) (by (first|lia|omega))))
  rcases List.mem_append.mp hy with hy|hy
  ·rcases List.mem_append.mp hy with hy|hy
   ·exact aL y (List.mem_of_mem_take hy)
   ·rw [List.mem_singleton.mp hy];exact aL x hx
  ·exact aL y (List.mem_of_mem_drop hy)
 walk_at "wq"
 refine rn _ _ (cut_k 9 chg_in fun R rr rn=>?_)
 walk_at "wq"
 refine ⟨by decide,sp_d (fun h1=>?_) (fun h1=>?_)⟩
 ·rw [k_itet]
  exact chg_long (t:=t) hn c0 wL hq aL g1 fun t' loc H' p' a' l'=>rr _ _ _ (h _ _ (p1.trans p') a' l')
 ·walk_at "wq"
  refine rn _ _ ?_
  simp only [m_law_changed,List.drop]
  walk_at "wq"
  have l1:=ls none (some p)
  exact ⟨by (first|lia|omega),by (first|lia|omega),h _ _ p1 (asc_slice ha) (by (first|lia|omega))⟩
end
section
open PySem
set_option maxHeartbeats 2000000
theorem asc_num {k:Int}:Asc (numI k):=fun c hc=>by have:=numT_digits _ c hc;(first|lia|omega)
theorem asc_word (f:Fc):Asc f.word:=by
 unfold Asc
 cases f<;>(simp only [Fc.word];decide)
theorem asc_pow {p:Int×Int}:Asc (powT p):=asc_app (asc_app asc_num (by unfold Asc;decide)) asc_num
theorem asc_txt (f:Fc):Ascs f.txt:=by
 cases f with
 | first=>exact fun x hx=>by cases hx
 | prime b ps =>
  intro x hx
  rcases List.mem_cons.mp hx with rfl|hx
  ·exact asc_num
  ·obtain ⟨p,_,rfl⟩:=List.mem_map.mp hx
   exact asc_pow
 | split a b =>
  intro x hx
  simp only [Fc.txt,List.mem_cons,List.not_mem_nil,or_false] at hx
  rcases hx with rfl|rfl<;>exact asc_num
 | power b=>exact fun x hx=>by rw [show x=numI b by simpa [Fc.txt] using hx];exact asc_num
 | root b=>exact fun x hx=>by rw [show x=numI b by simpa [Fc.txt] using hx];exact asc_num
theorem asc_line {n:Int}{f:Fc}:Asc (lineT n f):=asc_join asc_sp fun x hx=>by
 rcases List.mem_cons.mp hx with rfl|hx
 ·exact asc_num
 ·rcases List.mem_cons.mp hx with rfl|hx
  ·exact asc_word f
  ·exact asc_txt f x hx
theorem asc_text {rs:List (Int×Fc)}:Asc (textT rs):=asc_join asc_nl fun x hx=>by
 obtain ⟨r,_,rfl⟩:=List.mem_map.mp hx
 exact asc_line
theorem gdT_row {H:Hp}{n:Int}{f:Fc}(h:RoT n f):Gd H 5 (roA n f):=by
 have:=gd_row (H:=H) h.2.2 (line_tells h).1
 rwa [(line_tells h).2] at this
noncomputable def SSRight (Φ:Fun):Prop:=∀ (rs:List (Int×Fc)) (H:Hp) (Q:PQ),RsT rs->(∀ H',H<+:H'->Q (.bool true) H')->Φ "_law_slip_right" [.tup (rs.map roP)] H Q
theorem slip_right {Φ:Fun}(c:SRow "_law_row_right" Φ){rs:List (Int×Fc)}{H:Hp}{Q:PQ}(hr:RsT rs) (h:∀ H',H<+:H'->Q (.bool true) H'):wpF Φ m_law_slip_right [.tup (rs.map roP)] H Q:=by
 obtain ⟨r0,rl,rok,inc,_⟩:=hr
 have l1:1<=rs.length:=List.length_pos_iff.mpr r0
 have hm:(rs.map roP).length=rs.length:=List.length_map ..
 refine ⟨rfl,?_⟩
 show wpSs Φ (m_law_slip_right.body.drop 0) [some (.tup (rs.map roP)),none] H (endOf Q)
 refine cut_k 0 rfl fun R rr rn=>?_
 walk_at "wq"
 simp only [isi]
 walk_at "wq"
 refine ⟨by (first|lia|omega),?_⟩
 rw [hm,show decide ((1:Int)<=(rs.length:Int))=true from decide_eq_true (by (first|lia|omega)),k_c4t]
 walk_at "wq"
 rw [show decide ((rs.length:Int)<=200)=true from decide_eq_true (by (first|lia|omega))]
 walk_at "wq"
 refine comp_each roP (fun _=>.bool true) rs (szL (by (first|lia|omega))) (fun _ _=>trivial) (fun H' p r hr=>?_) fun H' p=>?_
 ·refine ⟨[roP r],rfl,fun Q' q=>?_⟩
  walk_at "wq"
  refine c (roP r) H' _ (RG_of (gdT_row (rok r hr))) ?_
  rw [show rowB (roP r)=true from rowT_form (rok r hr)]
  exact q H' List.prefix_rfl
 ·walk_at "wq"
  have ea:rs.map (fun _=>AV.bool true)=(rs.map (fun _=>true)).map .bool:=by rw [List.map_map];rfl
  rw [ea]
  refine (a_all at_new).mpr ?_
  have eb:((rs.map (fun _=>true)).all fun b=>b)=true:=by
   rw [List.all_eq_true];intro b hb
   obtain ⟨_,_,rfl⟩:=List.mem_map.mp hb;rfl
  rw [eb]
  walk_at "wq"
  have pp:H<+:H'++[AObj.list ((rs.map (fun _=>true)).map AV.bool)]:=p.trans pre_new
  generalize H'++[AObj.list ((rs.map (fun _=>true)).map AV.bool)]=H1 at pp
  refine rn _ _ (cut_k 1 rfl fun R rr rn=>?_)
  walk_at "wq"
  refine ⟨by (first|lia|omega),?_⟩
  rw [hm]
  refine ⟨by (first|lia|omega),by (first|lia|omega),by (first|lia|omega),by (first|lia|omega),?_⟩
  refine for_intro (fun i loc H'=>∃ o:Option AV,H'=H1/\loc=[some (.tup (rs.map roP)),o]) ⟨none,rfl,rfl⟩ ?_
  rintro i loc H2 ⟨o,rfl,rfl⟩
  refine ⟨trivial,fun y hy=>?_,fun hi=>?_⟩
  ·rw [List.getElem?_map] at hy
   obtain ⟨i',hi',rfl⟩:=Option.map_eq_some_iff.mp hy
   have ilt:i<((rs.length:Int)-1).toNat:=by
    have:=(List.getElem?_eq_some_iff.mp hi').1
    rwa [List.length_range] at this
   rw [List.getElem?_range ilt] at hi'
   cases hi'
   have i1:i<rs.length:=by (first|lia|omega)
   have i2:i+1<rs.length:=by (first|lia|omega)
   refine ⟨[.int (1+i)],rfl,?_⟩
   walk_at "wq"
   refine idx_at (l:=rs.map roP) (z:=roP rs[i]) rfl (by (first|lia|omega)) (by (first|lia|omega)) (by rw [List.getElem?_map,show ((1:Int)+i-1).toNat=i by (first|lia|omega),List.getElem?_eq_getElem i1];rfl) ?_
   walk_at "wq"
   refine ro_at0 ?_
   walk_at "wq"
   refine idx_at (l:=rs.map roP) (z:=roP rs[i+1]) rfl (by (first|lia|omega)) (by (first|lia|omega)) (by rw [List.getElem?_map,show ((1:Int)+i).toNat=i+1 by (first|lia|omega),List.getElem?_eq_getElem i2];rfl) ?_
   walk_at "wq"
   refine ro_at0 ?_
   have lt:(rs[i]).1<(rs[i+1]).1:=by
    have:=List.pairwise_iff_getElem.mp inc i (i+1) (by rw [List.length_map];exact i1) (by rw [List.length_map];exact i2) (by (first|lia|omega))
    simpa using this
   walk_at "wq"
   rw [show decide ((rs[i]).1 ≥ (rs[i+1]).1)=false from decide_eq_false (by (first|lia|omega))]
   walk_at "wq"
   exact for_next ⟨some (.int (1+i)),rfl,rfl⟩
  ·walk_at "wq"
   refine rn _ _ ?_
   simp only [m_law_slip_right,List.drop]
   walk_at "wq"
   exact h _ pp
end
section
open PySem
set_option maxHeartbeats 2000000
noncomputable def NoRd (t:Str):Prop:=¬ ∃ rs,RsT rs/\t=textT rs
noncomputable def RRead:Rais:=fun args H X=>∃ t:Str,args=[.str t]/\Asc t/\t.length<=4000000/\NoRd t/\∀ H',H<+:H'->X "NoText" H'
theorem RRead.two {args:List AV}{H:Hp}{X:XP}(h:RRead args H X):RRead2 args H (fun _ _=>False) X:=by
 obtain ⟨t,rfl,h1,h2,h3,h4⟩:=h
 exact ⟨t,rfl,h1,h2,fun rs ok e=>absurd ⟨rs,ok,e⟩ h3,fun _=>h4⟩
noncomputable def hdT (c:Str):Option MFlow:=if c = "NoText" then some (.ret (.bool true)) else none
theorem s_tryX {Φ:Fun}{loc:Loc}{H:Hp}{Q:PF}{is:List Nat}{as:List ME}{R:Rais}{hd:Str->Option MFlow}:wpS Φ (.tryX is as R hd) loc H Q=((∀ i∈is,loc[i]?=some none)/\wpEs Φ as loc H (kTry R hd loc Q)):=rfl
noncomputable def RRef:RaisO:=fun args H Q=>∃ t:Str,args=[.str t]/\Asc t/\t.length<=4000000/\NoRd t/\∀ H',H<+:H'->Q (.bool true) H'
theorem refused {Φ:Fun}{args:List AV}{H:Hp}{Q:PQ}{X:XP}(h:RRef args H Q):wpFX Φ (m_law_refused RRead hdT) args H Q X:=by
 obtain ⟨t,rfl,h1,h2,h3,h4⟩:=h
 refine ⟨rfl,?_⟩
 show wpSs Φ ((m_law_refused RRead hdT).body.drop 0) [some (.str t),none,none] H (endX Q X)
 refine cut_x 0 rfl fun R rr rx rn=>?_
 rw [s_tryX]
 refine ⟨fun i hi=>?_,?_⟩
 ·rcases List.mem_cons.mp hi with rfl|hi
  ·rfl
  ·rw [List.mem_singleton.mp hi];rfl
 walk_at "wq"
 exact ⟨t,rfl,h1,h2,h3,fun H1 p1=>⟨_,if_pos rfl,rr _ _ _ (h4 H1 p1)⟩⟩
theorem s_tryD {Φ:Fun}{loc:Loc}{H:Hp}{Q:PF}{i:Nat}{T:Str}{as as2:List ME}{R:Rais2}{RR:RaisO}:wpS Φ (.tryD i T as as2 R RR) loc H Q=wpEs Φ as loc H fun vs H'=>R vs H' (fun v H''=>Q .next (loc.set i (some v)) H'') fun c H''=>c=T/\wpEs noF as2 loc H'' fun us H3=>RR us H3 fun v H4=>Q (.ret v) loc H4:=rfl
noncomputable def tLen (i:Nat):Nat:=match i with|0=>425000|1=>1281000|_=>3849000
theorem law09 {Φ:Fun}(cm:SMixedA Φ) (cr:SRowsBy Φ) (cl:SRowT "_law_line" Φ) (cc:SChg Φ) (cs':SSRight Φ){l:List Int}{H:Hp}{Q:PQ}{X:XP}(hl:l.length<=63) (h:∀ H',Q (.bool true) H'):wpFX Φ (m_law RRead2 RRef) [.fro (l.map .int)] H Q X:=by
 have lines:∀ {rs:List (Int×Fc)}{loc:Loc}{H:Hp}{Q:PQ}{Cnd:Hp->Prop},loc.length=5->RsT rs->(∀ H',H<+:H'->Cnd H')->(∀ H',H<+:H'->Q (.ref H'.length) (H'++[.list ((rs.map lineP).map .str)]))->compI Φ false 1 (.call "_law_line" [.loc 5]) [] loc Q (rs.map roP) Cnd H:=by
  intro rs loc H Q Cnd h5 ok hc q
  match loc,h5 with
  | [a0,a1,a2,a3,a4],_ =>
  refine comp_each roP (fun r=>.str (lineP r)) rs (szL (by have:=ok.2.1;(first|lia|omega))) hc (fun H' p r hr=>⟨[roP r],rfl,fun Q' q'=>?_⟩) fun H' p=>by have:=q H' p;rw [List.map_map] at this;exact this
  simp only [lst]
  walk_at "wq"
  exact cl r.1 r.2 H' _ (ok.2.2.1 r hr) q'
 refine ⟨rfl,?_⟩
 show wpSs Φ ((m_law RRead2 RRef).body.drop 0) [some (.fro (l.map .int)),none,none,none,none] H (endX Q X)
 refine cut_x 0 rfl fun R rr rx rn=>?_
 walk_at "wq"
 refine cm l 0 12 H _ (by decide) hl (by decide) fun cs cb0=>?_
 have cel:=cb0.up
 walk_at "wq"
 have g1:(H++[AObj.list (cs.map .int)])[H.length]?=some (.list (cs.map .int)):=at_new
 generalize H++[AObj.list (cs.map .int)]=H1 at g1
 generalize H.length=ic at g1
 refine rn _ _ (cut_x 1 rfl fun R rr rx rn=>?_)
 walk_at "wq"
 refine cr ic 12 cs _ _ g1 cel (by decide) (by decide) fun rws hrs=>?_
 obtain ⟨ok,tl⟩:=(ros_ok (by decide) hrs).T
 rw [←ros_av]
 generalize rws.map Rw.ro=rs at ok tl
 walk_at "wq"
 rw [r_list at_new]
 refine lines rfl ok (fun H' p=>pre_at p at_new) fun H2 p2=>?_
 refine k_join2 at_new (text_joinOk ok) ?_
 walk_at "wq"
 have g2:(H2++[AObj.list ((rs.map lineP).map AV.str)])[ic]?=some (.list (cs.map .int)):=pre_at ((pre_new.trans p2).trans pre_new) g1
 generalize H2++[AObj.list ((rs.map lineP).map AV.str)]=H3 at g2
 clear g1 p2
 refine rn _ _ (cut_x 2 rfl fun R rr rx rn=>?_)
 have ta:Asc (Str.join "\n" (rs.map lineP)):=asc_text (rs:=rs)
 have tl:(Str.join "\n" (rs.map lineP)).length<=425000:=tl
 generalize Str.join "\n" (rs.map lineP)=t0 at ta tl
 clear ok
 walk_at "wq"
 refine cel_at g2 cel (by decide) (by decide) (by decide) fun x x0 x1=>?_
 walk_at "wq"
 have mx:=mod_in (a:=x) (b:=2) (by decide)
 generalize hk:x.fmod 2=k2
 have mx:0<=k2/\k2<2:=by rw [←hk];exact mx
 refine ⟨by decide,by (first|lia|omega),by (first|lia|omega),?_⟩
 refine for_intro (fun i loc H'=>∃ (t:Str) (o:Option AV),H3<+:H'/\Asc t/\t.length<=tLen i/\loc=[some (.fro (l.map .int)),some (.ref ic),some (.str t),o,none]) ⟨t0,none,List.prefix_rfl,ta,tl,rfl⟩ ?_
 rintro i loc H4 ⟨t,o,p4,at4,lt4,rfl⟩
 refine ⟨trivial,fun y hy=>?_,fun hi=>?_⟩
 ·rw [List.getElem?_map] at hy
  obtain ⟨i',hi',rfl⟩:=Option.map_eq_some_iff.mp hy
  have ilt:i<((1:Int)+k2).toNat:=by
   have:=(List.getElem?_eq_some_iff.mp hi').1
   rwa [List.length_range] at this
  rw [List.getElem?_range ilt] at hi'
  cases hi'
  refine ⟨[.int i],rfl,?_⟩
  walk_at "wq"
  refine cel_at (pre_at p4 g2) cel (by decide) (by (first|lia|omega)) (by (first|lia|omega)) fun c1 c10 c11=>?_
  walk_at "wq"
  refine cel_at (pre_at p4 g2) cel (by decide) (by (first|lia|omega)) (by (first|lia|omega)) fun c2 c20 c21=>?_
  walk_at "wq"
  have hi2:i=0\/i=1:=by (first|lia|omega)
  have hb:tLen i<=1300000/\3*tLen i+6000<=tLen (i+1):=by
   rcases hi2 with rfl|rfl<;>decide
  refine cc (tLen i) t c1 c2 H4 _ at4 lt4 hb.1 c10 c20 fun t' H5 p5 a5 l5=>?_
  walk_at "wq"
  exact for_next ⟨t',some (.int i),p4.trans p5,a5,Nat.le_trans l5 hb.2,rfl⟩
 have lt4':t.length<=4000000:=by
  have:tLen i<=3849000:=by
   unfold tLen;split<;>decide
  (first|lia|omega)
 walk_at "wq"
 refine rn _ _ (cut_x 3 rfl fun R rr rx rn=>?_)
 rw [s_tryD]
 walk_at "wq"
 refine ⟨t,rfl,at4,lt4',fun rs ok e H5 p5=>?_,fun hno H5 p5=>⟨rfl,?_⟩⟩
 ·walk_at "wq"
  refine rn _ _ ?_
  simp only [m_law,List.drop]
  walk_at "wq"
  refine cs' rs _ _ ok fun H6 p6=>?_
  walk_at "wq"
  refine lines rfl ok (fun H' p=>trivial) fun H7 p7=>?_
  refine k_join2 at_new (text_joinOk ok) ?_
  walk_at "wq"
  rw [show (Str.join (Str.ofString "\n") (rs.map lineP) == t)=true from beq_iff_eq.mpr e.symm]
  exact h _
 ·walk_at "wq"
  exact ⟨t,rfl,at4,lt4',hno,fun H6 p6=>rr _ _ _ (h _)⟩
noncomputable def kits:List (Str×Bool):=[("Needed",false),("NoNumber",false),("NoRow",false),("NoSlip",false),("NotHeld",false),("NoText",true)]
noncomputable def kitsB:List (Str×Bool):=[("Needed",false),("NoNumber",false),("NoRow",false),("NoSlip",false),("NotHeld",false),("NoText",true),("ValueError",true)]
noncomputable def clsQs:List ClsQ:=[⟨"NoText",kits,[("ValueError",true)],["SlipError", "NoText"]⟩]
noncomputable def XiN (P:PEnv) (d:Nat):Prop:=∃ D,PyProof.Rows.OwnCls "NoText" D [.type "ValueError",.type "Exception",.type "BaseException",.type "object"] "ValueError.__new__" P.mg P.B
structure XiP (P:PEnv) (d:Nat):Prop where
 own:XiN P d
 num:∀ args H X,RNum args H X->CallOK P d "number_of" args H (fun _ _=>False) X
structure XiO (P:PEnv) (d:Nat):Prop where
 own:XiN P d
 num:∀ args H X,RNum args H X->CallOK P d "number_of" args H (fun _ _=>False) X
 pow:∀ args H X,RPow args H X->CallOK P d "power_of" args H (fun _ _=>False) X
structure XiD (P:PEnv) (d:Nat):Prop where
 own:XiN P d
 row:∀ args H X,RRow args H X->CallOK P d "row_of" args H (fun _ _=>False) X
structure XiR (P:PEnv) (d:Nat):Prop where
 rd:∀ args H X,RRead args H X->CallOK P d "read" args H (fun _ _=>False) X
 ct:Catches P "NoText" "SlipError"
 is:∃ D,P.mg "NoText" = some (.ref D)/\IsF P D kitsB
theorem tryT {P:PEnv}{d:Nat}{C:Ctx}{c:Str}{fl:MFlow}{a:List Stmt}(ξ:XiR P d) (e:hdT c=some fl) (ki:C.names.lookup ("isinstance" : Str)=some .globalImplicit) (ke:C.names.lookup ("e" : Str)=some .local) (kl:C.names.lookup ("_law_other" : Str)=some .local)
  (k1:C.names.lookup ("Needed" : Str)=some .globalImplicit) (k2:C.names.lookup ("NoNumber" : Str)=some .globalImplicit) (k3:C.names.lookup ("NoRow" : Str)=some .globalImplicit) (k4:C.names.lookup ("NoSlip" : Str)=some .globalImplicit)
  (k5:C.names.lookup ("NotHeld" : Str)=some .globalImplicit/\C.names.lookup ("ValueError" : Str)=some .globalImplicit) (k6:C.names.lookup ("NoText" : Str)=some .globalImplicit){p1 p2 p3 p4 p5 p6 p7 p8:Pos}{a1 a2 a3 a4 b1 b2 b3 b4 c1 c2 c3 c4 d1 d2 d3 d4 e1 e2 e3 e4 f1 f2 f3 f4 g1 g2 g3 g4:Pos} :
  Catches P c "SlipError" /\ SuiteOK P C d "e" ["_law_other"] (.For (.Name "_law_other" p1) (.List [.Call (.Name "isinstance" a1) [.Name "e" a2,.Name "Needed" a3] [] a4,.Call (.Name "isinstance" b1) [.Name "e" b2,.Name "NoNumber" b3] [] b4,.Call (.Name "isinstance" c1) [.Name "e" c2,.Name "NoRow" c3] [] c4,.Call (.Name "isinstance" d1) [.Name "e" d2,.Name "NoSlip" d3] [] d4] p2)
   [.If (.Name "_law_other" p3) a [] p4] [] p5::[.Return (some (.BoolOp .And [.Call (.Name "isinstance" e1) [.Name "e" e2,.Name "NoText" e3] [] e4,.Call (.Name "isinstance" f1) [.Name "e" f2,.Name "ValueError" f3] [] f4,.UnaryOp .Not (.Call (.Name "isinstance" g1) [.Name "e" g2,.Name "NotHeld" g3] [] g4) p6] p7)) p8]) c (fun fl' H H₂=>fl'=fl/\H₂=H):=by
 unfold hdT at e
 split at e
 ·rename_i hc
  subst hc
  cases e
  obtain ⟨D,hD,f⟩:=ξ.is
  refine ⟨ξ.ct,suite_for (fv:=.ret (.bool true)) (fun _ _ _=>⟨_,rfl,VR.mkBool true⟩) hD kl (by decide +kernel) (by decide +kernel) (fun x hx=>?_) (by simp) ⟨fun _=>rfl,⟨fun _=>rfl,⟨fun _=>rfl,⟨fun _=>rfl,trivial⟩⟩⟩⟩ (fun _ _=>rfl) (fun _ _=>rfl)
   (xb_ret (xv_and (f.isi (.tail _ (.tail _ (.tail _ (.tail _ (.tail _ (.head _)))))) ki ke k6 (by decide +kernel) (by decide +kernel)) (xv_and (f.isi (.tail _ (.tail _ (.tail _ (.tail _ (.tail _ (.tail _ (.head _))))))) ki ke k5.2 (by decide +kernel) (by decide +kernel)) (xv_one (xv_not (b:=false) (f.isi (.tail _ (.tail _ (.tail _ (.tail _ (.head _))))) ki ke k5.1 (by decide +kernel) (by decide +kernel)))))))⟩
  simp only [List.mem_cons,List.not_mem_nil,or_false] at hx
  rcases hx with rfl|rfl|rfl|rfl
  ·exact f.isi (.head _) ki ke k1 (by decide +kernel) (by decide +kernel)
  ·exact f.isi (.tail _ (.head _)) ki ke k2 (by decide +kernel) (by decide +kernel)
  ·exact f.isi (.tail _ (.tail _ (.head _))) ki ke k3 (by decide +kernel) (by decide +kernel)
  ·exact f.isi (.tail _ (.tail _ (.tail _ (.head _)))) ki ke k4 (by decide +kernel) (by decide +kernel)
 ·cases e
structure XiL (Gq:GT) (P:PEnv) (d:Nat):Prop where
 rd:∀ args H Q X,RRead2 args H Q X->CallOK P d "read" args H Q X
 st:P.hd=none/\Catches P "NoText" "NoText" /\ ∀ B' ea,P.B.StaysIn B'->NoCtx ea B'->GOK (PEnv.mk P.prog P.w B' P.mg P.mb (some ea)) Gq/\∀ args H Q,RRef args H Q->CallOK (PEnv.mk P.prog P.w B' P.mg P.mb (some ea)) d "_law_refused" args H Q XF
end
section
open PySem PySem.W PyProof.Rows
set_option Elab.async false
set_option maxRecDepth 100000
set_option maxHeartbeats 8000000
noncomputable def Q:Program:=view PySem.Challenge.pw_uf030003_09 [1,2,3,4,5,6,7,8,10,11,12,13,14,15,17,18,20,21,22,23,24,25,26,27,29,30,31,32,33,34,35,36,37,38,39,40,41,42,43,44,45,46,47,48,49]
noncomputable def clsN:List Str:=[Str.ofString "SlipError",Str.ofString "NoNumber",Str.ofString "NoSlip",Str.ofString "NoRow",Str.ofString "NotHeld",Str.ofString "Needed",Str.ofString "NoText"]
noncomputable def clsQ:List ClsQ:=clsQs
noncomputable def Xt (s:Shared):Bool:=(xlAt Q [(Str.ofString "BOUND",.int 1000000000000000000000000000000)] s&&recOk [] s)&&cfAt clsN clsQ s
theorem said:OpenLaw.wellSaid PySem.Challenge.rw_uf030003_09=true:=by
 rw [PySem.W.Fast.te9446332074065402090];kernel_rfl
theorem run (w:World) (os:OsState):headOf PySem.Challenge.pw_uf030003_09 Q [Str.ofString "BOUND"] Xt 3000 w os=some (true,openGood Q [Str.ofString "BOUND"]):=by
 rw [PySem.W.Fast.te12803096626720038307];kernel_rfl
theorem left:LeftO PySem.Challenge.pw_uf030003_09 Q [Str.ofString "BOUND"] Xt (Hook.obs Hook.none) (Hook.val Hook.none) 3000 :=
 left_of_head (by kernel_rfl) rfl (fun _=>by kernel_rfl) rfl run
noncomputable def gtS (b:Bool):GT:=⟨[Str.ofString "is_whole",Str.ofString "are_powers",Str.ofString "are_facts",Str.ofString "is_row",Str.ofString "is_slip",Str.ofString "row_text",Str.ofString "written",Str.ofString "number_of",Str.ofString "power_of",Str.ofString "row_of",Str.ofString "read",Str.ofString "_law_cell_at",Str.ofString "_law_mixed",Str.ofString "_law_power",Str.ofString "_law_round",Str.ofString "_law_is_prime",Str.ofString "_law_factors",Str.ofString "_law_prime_row",Str.ofString "_law_parted_row",Str.ofString "_law_big_row",Str.ofString "_law_great_row",Str.ofString "_law_needs",Str.ofString "_law_closed",Str.ofString "_law_rows_by",Str.ofString "_law_rising",Str.ofString "_law_within",Str.ofString "_law_row_right",Str.ofString "_law_line",Str.ofString "_law_slip_right",Str.ofString "_law_changed",Str.ofString "_law_refused",Str.ofString "law"],[("BOUND",c_BOUND),("WORDS",c_WORDS),("MOST_TIMES",c_MOST_TIMES),("MOST_ROWS",c_MOST_ROWS),("FIGURES",c_FIGURES),("MOST_FIGURES",c_MOST_FIGURES)],b⟩
theorem ok_is_whole (b:Bool):FnOK Q (gtS b) "is_whole" ["thing", "least", "most"] ["thing", "least", "most"] m_is_whole :=
 ⟨⟨_,List.mem_of_getElem? (i:=0) rfl,rfl,rfl,rfl,rfl,rfl,
 (.cons (.ret (.and3 (.isi ⟨rfl,rfl⟩ ⟨rfl,rfl⟩ (.loc rfl rfl rfl)) (.and2 (.not (.isi ⟨rfl,rfl⟩ ⟨rfl,rfl⟩ (.loc rfl rfl rfl))) (.cmp2 (.loc rfl rfl rfl) (.loc rfl rfl rfl) (.loc rfl rfl rfl)))))
 .nil),
 rfl,rfl,fun _ _ _=>all3 fun _ _ _=>rfl⟩⟩
theorem ok_are_powers (b:Bool):FnOK Q (gtS b) "are_powers" ["thing", "ahead", "pair"] ["thing"] m_are_powers :=
 ⟨⟨_,List.mem_of_getElem? (i:=1) rfl,rfl,rfl,rfl,rfl,rfl,
 (.cons (.ite (.or2 (.not (.isi ⟨rfl,rfl⟩ ⟨rfl,rfl⟩ (.loc rfl rfl rfl))) (.cmp (.bi (.inl rfl) ⟨rfl,rfl⟩ (.loc rfl rfl rfl) .nil) .int)) (.cons (.ret .bool)
  .nil) .nil)
 (.cons (.asg (Slot.of rfl) .int (fun _=>rfl))
 (.cons (.for1 (Slot.of rfl) (.plain (.loc rfl rfl rfl)) (.cons (.ite (.or2 (.not (.isi ⟨rfl,rfl⟩ ⟨rfl,rfl⟩ (.loc rfl rfl rfl))) (.cmp (.bi (.inl rfl) ⟨rfl,rfl⟩ (.loc rfl rfl rfl) .nil) .int)) (.cons (.ret .bool)
   .nil) .nil)
  (.cons (.ite (.or2 (.not (.call rfl ⟨rfl,rfl⟩ (.idx (.loc rfl rfl rfl) .int) (.cons (.bin (.loc rfl rfl rfl) .int) (.cons (.glob rfl ⟨rfl,rfl⟩) .nil)))) (.not (.call rfl ⟨rfl,rfl⟩ (.idx (.loc rfl rfl rfl) .int) (.cons .int (.cons (.glob rfl ⟨rfl,rfl⟩) .nil))))) (.cons (.ret .bool)
   .nil) .nil)
  (.cons (.asg (Slot.of rfl) (.idx (.loc rfl rfl rfl) .int) (fun _=>rfl))
  .nil))) rfl)
 (.cons (.ret .bool)
 .nil)))),
 rfl,rfl,fun _ _ _=>all1 fun _=>rfl⟩⟩
theorem ok_are_facts (b:Bool):FnOK Q (gtS b) "are_facts" ["word", "facts"] ["word", "facts"] m_are_facts :=
 ⟨⟨_,List.mem_of_getElem? (i:=2) rfl,rfl,rfl,rfl,rfl,rfl,
 (.cons (.ite (.cmp (.loc rfl rfl rfl) (.str (by decide +kernel))) (.cons (.ret (.cmp (.bi (.inl rfl) ⟨rfl,rfl⟩ (.loc rfl rfl rfl) .nil) .int))
  .nil) .nil)
 (.cons (.ite (.cmp (.loc rfl rfl rfl) (.str (by decide +kernel))) (.cons (.ret (.and3 (.cmp (.bi (.inl rfl) ⟨rfl,rfl⟩ (.loc rfl rfl rfl) .nil) .int) (.and2 (.call rfl ⟨rfl,rfl⟩ (.idx (.loc rfl rfl rfl) .int) (.cons .int (.cons (.glob rfl ⟨rfl,rfl⟩) .nil))) (.call rfl ⟨rfl,rfl⟩ (.idx (.loc rfl rfl rfl) .int) .nil))))
  .nil) .nil)
 (.cons (.ite (.cmp (.loc rfl rfl rfl) (.str (by decide +kernel))) (.cons (.ret (.and3 (.cmp (.bi (.inl rfl) ⟨rfl,rfl⟩ (.loc rfl rfl rfl) .nil) .int) (.and2 (.call rfl ⟨rfl,rfl⟩ (.idx (.loc rfl rfl rfl) .int) (.cons .int (.cons (.glob rfl ⟨rfl,rfl⟩) .nil))) (.call rfl ⟨rfl,rfl⟩ (.idx (.loc rfl rfl rfl) .int) (.cons .int (.cons (.glob rfl ⟨rfl,rfl⟩) .nil))))))
  .nil) .nil)
 (.cons (.ret (.and2 (.cmp (.bi (.inl rfl) ⟨rfl,rfl⟩ (.loc rfl rfl rfl) .nil) .int) (.call rfl ⟨rfl,rfl⟩ (.idx (.loc rfl rfl rfl) .int) (.cons .int (.cons (.glob rfl ⟨rfl,rfl⟩) .nil)))))
 .nil)))),
 rfl,rfl,fun _ _ _=>all2 fun _ _=>rfl⟩⟩
theorem ok_is_row (b:Bool):FnOK Q (gtS b) "is_row" ["thing"] ["thing"] m_is_row :=
 ⟨⟨_,List.mem_of_getElem? (i:=3) rfl,rfl,rfl,rfl,rfl,rfl,
 (.cons (.ite (.or3 (.not (.isi ⟨rfl,rfl⟩ ⟨rfl,rfl⟩ (.loc rfl rfl rfl))) (.or2 (.cmp (.bi (.inl rfl) ⟨rfl,rfl⟩ (.loc rfl rfl rfl) .nil) .int) (.not (.call rfl ⟨rfl,rfl⟩ (.idx (.loc rfl rfl rfl) .int) (.cons .int (.cons (.glob rfl ⟨rfl,rfl⟩) .nil)))))) (.cons (.ret .bool)
  .nil) .nil)
 (.cons (.ite (.or3 (.not (.isi ⟨rfl,rfl⟩ ⟨rfl,rfl⟩ (.idx (.loc rfl rfl rfl) .int))) (.or2 (.cmp (.idx (.loc rfl rfl rfl) .int) (.glob rfl ⟨rfl,rfl⟩)) (.not (.isi ⟨rfl,rfl⟩ ⟨rfl,rfl⟩ (.idx (.loc rfl rfl rfl) .int))))) (.cons (.ret .bool)
  .nil) .nil)
 (.cons (.ret (.call rfl ⟨rfl,rfl⟩ (.idx (.loc rfl rfl rfl) .int) (.cons (.idx (.loc rfl rfl rfl) .int) .nil)))
 .nil))),
 rfl,rfl,fun _ _ _=>all1 fun _=>rfl⟩⟩
theorem ok_is_slip (b:Bool):FnOK Q (gtS b) "is_slip" ["thing", "ahead", "row"] ["thing"] m_is_slip :=
 ⟨⟨_,List.mem_of_getElem? (i:=4) rfl,rfl,rfl,rfl,rfl,rfl,
 (.cons (.ite (.or2 (.not (.isi ⟨rfl,rfl⟩ ⟨rfl,rfl⟩ (.loc rfl rfl rfl))) (.not (.cmp2 .int (.bi (.inl rfl) ⟨rfl,rfl⟩ (.loc rfl rfl rfl) .nil) (.glob rfl ⟨rfl,rfl⟩)))) (.cons (.ret .bool)
  .nil) .nil)
 (.cons (.asg (Slot.of rfl) .int (fun _=>rfl))
 (.cons (.for1 (Slot.of rfl) (.plain (.loc rfl rfl rfl)) (.cons (.ite (.or2 (.not (.call rfl ⟨rfl,rfl⟩ (.loc rfl rfl rfl) .nil)) (.cmp (.idx (.loc rfl rfl rfl) .int) (.loc rfl rfl rfl))) (.cons (.ret .bool)
   .nil) .nil)
  (.cons (.asg (Slot.of rfl) (.idx (.loc rfl rfl rfl) .int) (fun _=>rfl))
  .nil)) rfl)
 (.cons (.ret .bool)
 .nil)))),
 rfl,rfl,fun _ _ _=>all1 fun _=>rfl⟩⟩
theorem ok_row_text (b:Bool):FnOK Q (gtS b) "row_text" ["row", "number", "word", "facts", "words", "q", "times", "fact"] ["row"] m_row_text :=
 ⟨⟨_,List.mem_of_getElem? (i:=5) rfl,rfl,rfl,rfl,rfl,rfl,
 (.cons (.asgT (.cons (Slot.of rfl) (.cons (Slot.of rfl) (.cons (Slot.of rfl) .nil))) (.loc rfl rfl rfl) (fun _=>rfl) (fun _=>rfl))
 (.cons (.asg (Slot.of rfl) (.lst (.cons (.strI ⟨rfl,rfl⟩ (.loc rfl rfl rfl)) (.cons (.loc rfl rfl rfl) .nil))) (fun _=>rfl))
 (.cons (.ite (.cmp (.loc rfl rfl rfl) (.str (by decide +kernel))) (.cons (.expr (.meth (.loc rfl rfl rfl) (.strI ⟨rfl,rfl⟩ (.idx (.loc rfl rfl rfl) .int)) .nil ⟨fun _=>rfl⟩) (fun _=>rfl))
  (.cons (.forT (.cons (Slot.of rfl) (.cons (Slot.of rfl) .nil)) (.plain (.idx (.loc rfl rfl rfl) .int)) (.cons (.expr (.meth (.loc rfl rfl rfl) (.fmt2 (by decide +kernel) (by decide +kernel) (.loc rfl rfl rfl) (.loc rfl rfl rfl)) .nil ⟨fun _=>rfl⟩) (fun _=>rfl))
   .nil))
  .nil)) (.cons (.for1 (Slot.of rfl) (.plain (.loc rfl rfl rfl)) (.cons (.expr (.meth (.loc rfl rfl rfl) (.strI ⟨rfl,rfl⟩ (.loc rfl rfl rfl)) .nil ⟨fun _=>rfl⟩) (fun _=>rfl))
   .nil) rfl)
  .nil))
 (.cons (.ret (.joinS (.str (by decide +kernel)) (.loc rfl rfl rfl) ⟨fun _=>rfl⟩))
 .nil)))),
 rfl,rfl,fun _ _ _=>all1 fun _=>rfl⟩⟩
theorem ok_written (b:Bool):FnOK Q (gtS b) "written" ["slip"] ["slip"] m_written :=
 ⟨⟨_,List.mem_of_getElem? (i:=6) rfl,rfl,rfl,rfl,rfl,rfl,
 (.cons (.ret (.joinS (.str (by decide +kernel)) (.comp (locals:=["row"]) ⟨compGood_ok rfl,(.plain (.loc rfl rfl rfl)),(.call rfl ⟨rfl,rfl⟩ (.loc rfl rfl rfl) .nil),.nil,.one (Slot.of rfl)⟩ (fun h=>nomatch h)) ⟨fun _=>rfl⟩))
 .nil),
 rfl,rfl,fun _ _ _=>all1 fun _=>rfl⟩⟩
theorem ok_number_of (b:Bool):FnX XiN Q (gtS b) "number_of" ["word"] ["word"] m_number_of :=
 ⟨⟨_,List.mem_of_getElem? (i:=7) rfl,rfl,rfl,rfl,rfl,rfl,
 (.cons (.ite (.or2 (.not (.cmp2 .int (.lenS ⟨rfl,rfl⟩ (.loc rfl rfl rfl)) (.glob rfl ⟨rfl,rfl⟩))) (.not (.bi (.inl rfl) ⟨rfl,rfl⟩ (.comp (locals:=["sign"]) ⟨compGood_ok rfl,(.plain (.loc rfl rfl rfl)),(.inS (.loc rfl rfl rfl) (.glob rfl ⟨rfl,rfl⟩)),.nil,.one (Slot.of rfl)⟩ (fun h=>nomatch h)) .nil))) (.cons (.raise ⟨rfl,rfl⟩ PySem.F.excBase_ValueError (.str (by decide +kernel)) .nil (fun ξ=>ξ))
  .nil) .nil)
 (.cons (.of (.ret (.intS ⟨rfl,rfl⟩ (.loc rfl rfl rfl))))
 .nil)),
 rfl,rfl,fun _ _ _=>all1 fun _=>rfl⟩⟩
theorem ok_power_of (b:Bool):FnX XiP Q (gtS b) "power_of" ["word", "parts"] ["word"] (m_power_of RNum) :=
 ⟨⟨_,List.mem_of_getElem? (i:=8) rfl,rfl,rfl,rfl,rfl,rfl,
 (.cons (.of (.asg (Slot.of rfl) (.splitS (.loc rfl rfl rfl) (.str (by decide +kernel)) ⟨fun _=>rfl⟩) (fun _=>rfl)))
 (.cons (.ite (.cmp (.bi (.inl rfl) ⟨rfl,rfl⟩ (.loc rfl rfl rfl) .nil) .int) (.cons (.raise ⟨rfl,rfl⟩ PySem.F.excBase_ValueError (.str (by decide +kernel)) .nil (fun ξ=>ξ.own))
  .nil) .nil)
 (.cons (.retE (.ret (.tup (.cons (.call rfl ⟨rfl,rfl⟩ (.idx (.loc rfl rfl rfl) .int) .nil) (.cons (.call rfl ⟨rfl,rfl⟩ (.idx (.loc rfl rfl rfl) .int) .nil) .nil)))) (.or2 (.tup0 (.call rfl ⟨rfl,rfl⟩ (.idx (.loc rfl rfl rfl) .int) .nil (fun ξ=>ξ.num)) (fun _=>rfl)) (.tup1 (.call rfl ⟨rfl,rfl⟩ (.idx (.loc rfl rfl rfl) .int) .nil) (.call rfl ⟨rfl,rfl⟩ (.idx (.loc rfl rfl rfl) .int) .nil (fun ξ=>ξ.num)) (fun _=>rfl))))
 .nil))),
 rfl,rfl,fun _ _ _=>all1 fun _=>rfl⟩⟩
theorem ok_row_of (b:Bool):FnX XiO Q (gtS b) "row_of" ["line", "words", "facts"] ["line"] (m_row_of RNum RPow) :=
 ⟨⟨_,List.mem_of_getElem? (i:=9) rfl,rfl,rfl,rfl,rfl,rfl,
 (.cons (.of (.asg (Slot.of rfl) (.splitS (.loc rfl rfl rfl) (.str (by decide +kernel)) ⟨fun _=>rfl⟩) (fun _=>rfl)))
 (.cons (.ite (.cmp (.bi (.inl rfl) ⟨rfl,rfl⟩ (.loc rfl rfl rfl) .nil) .int) (.cons (.raise ⟨rfl,rfl⟩ PySem.F.excBase_ValueError (.str (by decide +kernel)) .nil (fun ξ=>ξ.own))
  .nil) .nil)
 (.cons (.ite (.cmp (.idx (.loc rfl rfl rfl) .int) (.str (by decide +kernel))) (.cons (.ite (.cmp (.bi (.inl rfl) ⟨rfl,rfl⟩ (.loc rfl rfl rfl) .nil) .int) (.cons (.raise ⟨rfl,rfl⟩ PySem.F.excBase_ValueError (.str (by decide +kernel)) .nil (fun ξ=>ξ.own))
   .nil) .nil)
  (.cons (.asgE (.asg (Slot.of rfl) (.tup (.cons (.call rfl ⟨rfl,rfl⟩ (.idx (.loc rfl rfl rfl) .int) .nil) (.cons (.bi (.inl rfl) ⟨rfl,rfl⟩ (.comp (locals:=["word"]) ⟨compGood_ok rfl,(.plain (.slc (.loc rfl rfl rfl) (.some .int) .none)),(.call rfl ⟨rfl,rfl⟩ (.loc rfl rfl rfl) .nil),.nil,.one (Slot.of rfl)⟩ (fun h=>nomatch h)) .nil) .nil))) (fun _=>rfl)) (.or2 (.tup0 (.call rfl ⟨rfl,rfl⟩ (.idx (.loc rfl rfl rfl) .int) .nil (fun ξ=>ξ.num)) (fun _=>rfl)) (.tup1 (.call rfl ⟨rfl,rfl⟩ (.idx (.loc rfl rfl rfl) .int) .nil) (.tuple ⟨rfl,rfl⟩ (.comp (v := "word") (compGood_ok rfl) (.plain (.slc (.loc rfl rfl rfl) (.some .int) .none)) (.call rfl ⟨rfl,rfl⟩ (.loc rfl rfl rfl) .nil) (.one (Slot.of rfl)) rfl ⟨rfl,rfl⟩ (.loc rfl rfl rfl) .nil (fun ξ=>ξ.pow)) (fun _=>rfl)) (fun _=>rfl))) (fun _=>rfl))
  .nil)) (.cons (.asgE (.asg (Slot.of rfl) (.bi (.inl rfl) ⟨rfl,rfl⟩ (.comp (locals:=["word"]) ⟨compGood_ok rfl,(.plain (.slc (.loc rfl rfl rfl) (.some .int) .none)),(.call rfl ⟨rfl,rfl⟩ (.loc rfl rfl rfl) .nil),.nil,.one (Slot.of rfl)⟩ (fun h=>nomatch h)) .nil) (fun _=>rfl)) (.tuple ⟨rfl,rfl⟩ (.comp (v := "word") (compGood_ok rfl) (.plain (.slc (.loc rfl rfl rfl) (.some .int) .none)) (.call rfl ⟨rfl,rfl⟩ (.loc rfl rfl rfl) .nil) (.one (Slot.of rfl)) rfl ⟨rfl,rfl⟩ (.loc rfl rfl rfl) .nil (fun ξ=>ξ.num)) (fun _=>rfl)) (fun _=>rfl))
  .nil))
 (.cons (.retE (.ret (.tup (.cons (.call rfl ⟨rfl,rfl⟩ (.idx (.loc rfl rfl rfl) .int) .nil) (.cons (.idx (.loc rfl rfl rfl) .int) (.cons (.loc rfl rfl rfl) .nil))))) (.tup0 (.call rfl ⟨rfl,rfl⟩ (.idx (.loc rfl rfl rfl) .int) .nil (fun ξ=>ξ.num)) (fun _=>rfl)))
 .nil)))),
 rfl,rfl,fun _ _ _=>all1 fun _=>rfl⟩⟩
theorem ok_read (b:Bool):FnX XiD Q (gtS b) "read" ["text", "slip"] ["text"] (m_read RRow) :=
 ⟨⟨_,List.mem_of_getElem? (i:=10) rfl,rfl,rfl,rfl,rfl,rfl,
 (.cons (.asgE (.asg (Slot.of rfl) (.bi (.inl rfl) ⟨rfl,rfl⟩ (.comp (locals:=["line"]) ⟨compGood_ok rfl,(.plain (.splitS (.loc rfl rfl rfl) (.str (by decide +kernel)) ⟨fun _=>rfl⟩)),(.call rfl ⟨rfl,rfl⟩ (.loc rfl rfl rfl) .nil),.nil,.one (Slot.of rfl)⟩ (fun h=>nomatch h)) .nil) (fun _=>rfl)) (.tuple ⟨rfl,rfl⟩ (.comp (v := "line") (compGood_ok rfl) (.plain (.splitS (.loc rfl rfl rfl) (.str (by decide +kernel)) ⟨fun _=>rfl⟩)) (.call rfl ⟨rfl,rfl⟩ (.loc rfl rfl rfl) .nil) (.one (Slot.of rfl)) rfl ⟨rfl,rfl⟩ (.loc rfl rfl rfl) .nil (fun ξ=>ξ.row)) (fun _=>rfl)) (fun _=>rfl))
 (.cons (.ite (.or2 (.not (.call rfl ⟨rfl,rfl⟩ (.loc rfl rfl rfl) .nil)) (.cmp (.call rfl ⟨rfl,rfl⟩ (.loc rfl rfl rfl) .nil) (.loc rfl rfl rfl))) (.cons (.raise ⟨rfl,rfl⟩ PySem.F.excBase_ValueError (.str (by decide +kernel)) .nil (fun ξ=>ξ.own))
  .nil) .nil)
 (.cons (.of (.ret (.loc rfl rfl rfl)))
 .nil))),
 rfl,rfl,fun _ _ _=>all1 fun _=>rfl⟩⟩
theorem ok_law_cell_at:FnOK Q (gtS true) "_law_cell_at" ["_law_script", "_law_k"] ["_law_script", "_law_k"] m_law_cell_at :=
 ⟨⟨_,List.mem_of_getElem? (i:=11) rfl,rfl,rfl,rfl,rfl,rfl,
 (.cons (.ite (.cmp (.loc rfl rfl rfl) (.bi (.inl rfl) ⟨rfl,rfl⟩ (.loc rfl rfl rfl) .nil)) (.cons (.ret (.idx (.loc rfl rfl rfl) (.loc rfl rfl rfl)))
  .nil) .nil)
 (.cons (.ret .int)
 .nil)),
 rfl,rfl,fun _ _ _=>all2 fun _ _=>rfl⟩⟩
theorem ok_law_mixed:FnOK Q (gtS true) "_law_mixed" ["_law_script", "_law_start", "_law_many", "_law_found", "_law_more", "_law_k"] ["_law_script", "_law_start", "_law_many"] m_law_mixed :=
 ⟨⟨_,List.mem_of_getElem? (i:=12) rfl,rfl,rfl,rfl,rfl,rfl,
 (.cons (.asg (Slot.of rfl) (.lst .nil) (fun _=>rfl))
 (.cons (.asg (Slot.of rfl) .int (fun _=>rfl))
 (.cons (.for1 (Slot.of rfl) (.ty (t:=.range) rfl ⟨rfl,rfl⟩ (.loc rfl rfl rfl) .nil) (.cons (.asg (Slot.of rfl) (.bin (.bin (.bin (.bin (.bin (.loc rfl rfl rfl) .int) (.call rfl ⟨rfl,rfl⟩ (.loc rfl rfl rfl) (.cons (.bin (.loc rfl rfl rfl) (.loc rfl rfl rfl)) .nil))) (.bin .int (.loc rfl rfl rfl))) .int) .int) (fun _=>rfl))
  (.cons (.expr (.meth (.loc rfl rfl rfl) (.loc rfl rfl rfl) .nil ⟨fun _=>rfl⟩) (fun _=>rfl))
  .nil)) rfl)
 (.cons (.ret (.loc rfl rfl rfl))
 .nil)))),
 rfl,rfl,fun _ _ _=>all3 fun _ _ _=>rfl⟩⟩
theorem ok_law_power:FnOK Q (gtS true) "_law_power" ["_law_base", "_law_exponent", "_law_by", "_law_bits", "_law_found", "_law_bit"] ["_law_base", "_law_exponent", "_law_by"] m_law_power :=
 ⟨⟨_,List.mem_of_getElem? (i:=13) rfl,rfl,rfl,rfl,rfl,rfl,
 (.cons (.asg (Slot.of rfl) (.lst .nil) (fun _=>rfl))
 (.cons (.whl (.cmp (.loc rfl rfl rfl) .int) (.cons (.expr (.meth (.loc rfl rfl rfl) (.bin (.loc rfl rfl rfl) .int) .nil ⟨fun _=>rfl⟩) (fun _=>rfl))
  (.cons (.asg (Slot.of rfl) (.bin (.loc rfl rfl rfl) .int) (fun _=>rfl))
  .nil)))
 (.cons (.asg (Slot.of rfl) (.bin .int (.loc rfl rfl rfl)) (fun _=>rfl))
 (.cons (.for1 (Slot.of rfl) (.ty (t:=.revd) rfl ⟨rfl,rfl⟩ (.loc rfl rfl rfl) .nil) (.cons (.asg (Slot.of rfl) (.bin (.bin (.loc rfl rfl rfl) (.loc rfl rfl rfl)) (.loc rfl rfl rfl)) (fun _=>rfl))
  (.cons (.ite (.cmp (.loc rfl rfl rfl) .int) (.cons (.asg (Slot.of rfl) (.bin (.bin (.loc rfl rfl rfl) (.loc rfl rfl rfl)) (.loc rfl rfl rfl)) (fun _=>rfl))
   .nil) .nil)
  .nil)) rfl)
 (.cons (.ret (.loc rfl rfl rfl))
 .nil))))),
 rfl,rfl,fun _ _ _=>all3 fun _ _ _=>rfl⟩⟩
theorem ok_law_round:FnOK Q (gtS true) "_law_round" ["_law_number", "_law_base", "_law_powers", "_law_q", "_law_times"] ["_law_number", "_law_base", "_law_powers"] m_law_round :=
 ⟨⟨_,List.mem_of_getElem? (i:=14) rfl,rfl,rfl,rfl,rfl,rfl,
 (.cons (.ite (.cmp (.call rfl ⟨rfl,rfl⟩ (.loc rfl rfl rfl) (.cons (.bin (.loc rfl rfl rfl) .int) (.cons (.loc rfl rfl rfl) .nil))) .int) (.cons (.ret .bool)
  .nil) .nil)
 (.cons (.forT (.cons (Slot.of rfl) (.cons (Slot.of rfl) .nil)) (.plain (.loc rfl rfl rfl)) (.cons (.ite (.cmp (.call rfl ⟨rfl,rfl⟩ (.loc rfl rfl rfl) (.cons (.bin (.bin (.loc rfl rfl rfl) .int) (.loc rfl rfl rfl)) (.cons (.loc rfl rfl rfl) .nil))) .int) (.cons (.ret .bool)
   .nil) .nil)
  .nil))
 (.cons (.ret .bool)
 .nil))),
 rfl,rfl,fun _ _ _=>all3 fun _ _ _=>rfl⟩⟩
theorem ok_law_is_prime:FnOK Q (gtS true) "_law_is_prime" ["_law_number", "_law_at"] ["_law_number"] m_law_is_prime :=
 ⟨⟨_,List.mem_of_getElem? (i:=15) rfl,rfl,rfl,rfl,rfl,rfl,
 (.cons (.asg (Slot.of rfl) .int (fun _=>rfl))
 (.cons (.whl (.cmp (.bin (.loc rfl rfl rfl) (.loc rfl rfl rfl)) (.loc rfl rfl rfl)) (.cons (.ite (.cmp (.bin (.loc rfl rfl rfl) (.loc rfl rfl rfl)) .int) (.cons (.ret .bool)
   .nil) .nil)
  (.cons (.asg (Slot.of rfl) (.bin (.loc rfl rfl rfl) .int) (fun _=>rfl))
  .nil)))
 (.cons (.ret (.cmp (.loc rfl rfl rfl) .int))
 .nil))),
 rfl,rfl,fun _ _ _=>all1 fun _=>rfl⟩⟩
theorem ok_law_factors:FnOK Q (gtS true) "_law_factors" ["_law_number", "_law_found", "_law_at", "_law_times"] ["_law_number"] m_law_factors :=
 ⟨⟨_,List.mem_of_getElem? (i:=16) rfl,rfl,rfl,rfl,rfl,rfl,
 (.cons (.asg (Slot.of rfl) (.lst .nil) (fun _=>rfl))
 (.cons (.asg (Slot.of rfl) .int (fun _=>rfl))
 (.cons (.whl (.cmp (.loc rfl rfl rfl) .int) (.cons (.asg (Slot.of rfl) .int (fun _=>rfl))
  (.cons (.whl (.cmp (.bin (.loc rfl rfl rfl) (.loc rfl rfl rfl)) .int) (.cons (.asg (Slot.of rfl) (.bin (.loc rfl rfl rfl) (.loc rfl rfl rfl)) (fun _=>rfl))
   (.cons (.asg (Slot.of rfl) (.bin (.loc rfl rfl rfl) .int) (fun _=>rfl))
   .nil)))
  (.cons (.ite (.cmp (.loc rfl rfl rfl) .int) (.cons (.expr (.meth (.loc rfl rfl rfl) (.tup (.cons (.loc rfl rfl rfl) (.cons (.loc rfl rfl rfl) .nil))) .nil ⟨fun _=>rfl⟩) (fun _=>rfl))
   .nil) .nil)
  (.cons (.asg (Slot.of rfl) (.bin (.loc rfl rfl rfl) .int) (fun _=>rfl))
  .nil)))))
 (.cons (.ret (.bi (.inl rfl) ⟨rfl,rfl⟩ (.loc rfl rfl rfl) .nil))
 .nil)))),
 rfl,rfl,fun _ _ _=>all1 fun _=>rfl⟩⟩
theorem ok_law_prime_row:FnOK Q (gtS true) "_law_prime_row" ["_law_number", "_law_cell", "_law_powers", "_law_base"] ["_law_number", "_law_cell"] m_law_prime_row :=
 ⟨⟨_,List.mem_of_getElem? (i:=17) rfl,rfl,rfl,rfl,rfl,rfl,
 (.cons (.ite (.cmp (.loc rfl rfl rfl) .int) (.cons (.ret (.tup (.cons .int (.cons (.str (by decide +kernel)) (.cons (.tup .nil) .nil)))))
  .nil) .nil)
 (.cons (.asg (Slot.of rfl) (.call rfl ⟨rfl,rfl⟩ (.bin (.loc rfl rfl rfl) .int) .nil) (fun _=>rfl))
 (.cons (.asg (Slot.of rfl) (.bin .int (.bin (.loc rfl rfl rfl) (.bin (.loc rfl rfl rfl) .int))) (fun _=>rfl))
 (.cons (.whl (.not (.call rfl ⟨rfl,rfl⟩ (.loc rfl rfl rfl) (.cons (.loc rfl rfl rfl) (.cons (.loc rfl rfl rfl) .nil)))) (.cons (.asg (Slot.of rfl) (.bin (.bin (.loc rfl rfl rfl) (.bin (.loc rfl rfl rfl) .int)) .int) (fun _=>rfl))
  .nil))
 (.cons (.ret (.tup (.cons (.loc rfl rfl rfl) (.cons (.str (by decide +kernel)) (.cons (.tup (.cons (.loc rfl rfl rfl) (.cons (.loc rfl rfl rfl) .nil))) .nil)))))
 .nil))))),
 rfl,rfl,fun _ _ _=>all2 fun _ _=>rfl⟩⟩
theorem ok_law_parted_row:FnOK Q (gtS true) "_law_parted_row" ["_law_number", "_law_cell", "_law_parts", "_law_roots", "_law_a", "_law_base"] ["_law_number", "_law_cell"] m_law_parted_row :=
 ⟨⟨_,List.mem_of_getElem? (i:=18) rfl,rfl,rfl,rfl,rfl,rfl,
 (.cons (.asgC (locals:=["_law_at"]) (Slot.of rfl) ⟨compGood_ok rfl,(.ty (t:=.range) rfl ⟨rfl,rfl⟩ .int (.cons (.loc rfl rfl rfl) .nil)),(.loc rfl rfl rfl),(.one (.cmp (.bin (.loc rfl rfl rfl) (.loc rfl rfl rfl)) .int)),.one (Slot.of rfl)⟩ (fun h=>nomatch h))
 (.cons (.asgC (locals:=["_law_at"]) (Slot.of rfl) ⟨compGood_ok rfl,(.ty (t:=.range) rfl ⟨rfl,rfl⟩ .int (.cons (.bin (.loc rfl rfl rfl) .int) .nil)),(.loc rfl rfl rfl),(.one (.cmp (.bin (.bin (.loc rfl rfl rfl) (.loc rfl rfl rfl)) (.loc rfl rfl rfl)) .int)),.one (Slot.of rfl)⟩ (fun h=>nomatch h))
 (.cons (.asg (Slot.of rfl) (.idx (.loc rfl rfl rfl) (.bin (.bin (.loc rfl rfl rfl) .int) (.bi (.inl rfl) ⟨rfl,rfl⟩ (.loc rfl rfl rfl) .nil))) (fun _=>rfl))
 (.cons (.ite (.and2 (.cmp (.bin (.loc rfl rfl rfl) .int) .int) (.cmp (.bi (.inl rfl) ⟨rfl,rfl⟩ (.loc rfl rfl rfl) .nil) .int)) (.cons (.ret (.tup (.cons (.loc rfl rfl rfl) (.cons (.str (by decide +kernel)) (.cons (.tup (.cons (.idx (.loc rfl rfl rfl) (.bin (.bin (.loc rfl rfl rfl) .int) (.bi (.inl rfl) ⟨rfl,rfl⟩ (.loc rfl rfl rfl) .nil))) .nil)) .nil)))))
  .nil) .nil)
 (.cons (.ite (.cmp (.bin (.loc rfl rfl rfl) .int) .int) (.cons (.ret (.tup (.cons (.loc rfl rfl rfl) (.cons (.str (by decide +kernel)) (.cons (.tup (.cons (.loc rfl rfl rfl) (.cons (.bin (.loc rfl rfl rfl) (.loc rfl rfl rfl)) .nil))) .nil)))))
  .nil) .nil)
 (.cons (.asg (Slot.of rfl) (.bin .int (.bin (.bin (.loc rfl rfl rfl) .int) (.bin (.loc rfl rfl rfl) .int))) (fun _=>rfl))
 (.cons (.whl (.cmp (.call rfl ⟨rfl,rfl⟩ (.loc rfl rfl rfl) (.cons (.bin (.loc rfl rfl rfl) .int) (.cons (.loc rfl rfl rfl) .nil))) .int) (.cons (.asg (Slot.of rfl) (.bin (.bin (.loc rfl rfl rfl) (.bin (.loc rfl rfl rfl) .int)) .int) (fun _=>rfl))
  .nil))
 (.cons (.ret (.tup (.cons (.loc rfl rfl rfl) (.cons (.str (by decide +kernel)) (.cons (.tup (.cons (.loc rfl rfl rfl) .nil)) .nil)))))
 .nil)))))))),
 rfl,rfl,fun _ _ _=>all2 fun _ _=>rfl⟩⟩
theorem ok_law_big_row:FnOK Q (gtS true) "_law_big_row" ["_law_cell", "_law_some", "_law_number", "_law_base", "_law_powers"] ["_law_cell"] m_law_big_row :=
 ⟨⟨_,List.mem_of_getElem? (i:=19) rfl,rfl,rfl,rfl,rfl,rfl,
 (.cons (.asg (Slot.of rfl) (.lst (.cons (.tup (.cons .int (.cons .int (.cons (.tup (.cons (.tup (.cons .int (.cons .int .nil))) .nil)) .nil)))) (.cons (.tup (.cons .int (.cons .int (.cons (.tup (.cons (.tup (.cons .int (.cons .int .nil))) (.cons (.tup (.cons .int (.cons .int .nil))) (.cons (.tup (.cons .int (.cons .int .nil))) .nil)))) .nil)))) .nil))) (fun _=>rfl))
 (.cons (.asg (Slot.of rfl) (.bin (.loc rfl rfl rfl) (.lst (.cons (.tup (.cons .int (.cons .int (.cons (.tup (.cons (.tup (.cons .int (.cons .int .nil))) (.cons (.tup (.cons .int (.cons .int .nil))) (.cons (.tup (.cons .int (.cons .int .nil))) .nil)))) .nil)))) (.cons (.tup (.cons .int (.cons .int (.cons (.tup (.cons (.tup (.cons .int (.cons .int .nil))) (.cons (.tup (.cons .int (.cons .int .nil))) .nil))) .nil)))) .nil)))) (fun _=>rfl))
 (.cons (.asgT (.cons (Slot.of rfl) (.cons (Slot.of rfl) (.cons (Slot.of rfl) .nil))) (.idx (.loc rfl rfl rfl) (.bin (.loc rfl rfl rfl) .int)) (fun _=>rfl) (fun _=>rfl))
 (.cons (.asg (Slot.of rfl) (.call rfl ⟨rfl,rfl⟩ (.loc rfl rfl rfl) (.cons (.idx (.lst (.cons .int (.cons .int (.cons .int (.cons .int (.cons .int .nil)))))) (.bin (.bin (.loc rfl rfl rfl) .int) .int)) (.cons (.loc rfl rfl rfl) .nil))) (fun _=>rfl))
 (.cons (.ret (.tup (.cons (.loc rfl rfl rfl) (.cons (.str (by decide +kernel)) (.cons (.tup (.cons (.loc rfl rfl rfl) (.cons (.loc rfl rfl rfl) .nil))) .nil)))))
 .nil))))),
 rfl,rfl,fun _ _ _=>all1 fun _=>rfl⟩⟩
theorem ok_law_great_row:FnOK Q (gtS true) "_law_great_row" ["_law_cell", "_law_more", "_law_a", "_law_b"] ["_law_cell", "_law_more"] m_law_great_row :=
 ⟨⟨_,List.mem_of_getElem? (i:=20) rfl,rfl,rfl,rfl,rfl,rfl,
 (.cons (.asg (Slot.of rfl) (.bin .int (.bin (.bin (.bin (.loc rfl rfl rfl) .int) (.loc rfl rfl rfl)) (.bin .int .int))) (fun _=>rfl))
 (.cons (.asg (Slot.of rfl) (.bin .int (.bin (.bin (.bin (.loc rfl rfl rfl) .int) (.loc rfl rfl rfl)) (.bin (.bin .int .int) .int))) (fun _=>rfl))
 (.cons (.ite (.cmp (.bin (.loc rfl rfl rfl) .int) .int) (.cons (.ret (.tup (.cons (.bin (.loc rfl rfl rfl) (.loc rfl rfl rfl)) (.cons (.str (by decide +kernel)) (.cons (.tup (.cons (.loc rfl rfl rfl) (.cons (.loc rfl rfl rfl) .nil))) .nil)))))
  .nil) .nil)
 (.cons (.ite (.cmp (.bin (.loc rfl rfl rfl) .int) .int) (.cons (.ret (.tup (.cons (.bin (.loc rfl rfl rfl) (.loc rfl rfl rfl)) (.cons (.str (by decide +kernel)) (.cons (.tup (.cons (.loc rfl rfl rfl) .nil)) .nil)))))
  .nil) .nil)
 (.cons (.ret (.tup (.cons (.bin (.bin (.bin (.loc rfl rfl rfl) .int) (.bin (.loc rfl rfl rfl) .int)) .int) (.cons (.str (by decide +kernel)) (.cons (.tup (.cons (.bin (.loc rfl rfl rfl) .int) .nil)) .nil)))))
 .nil))))),
 rfl,rfl,fun _ _ _=>all2 fun _ _=>rfl⟩⟩
theorem ok_law_needs:FnOK Q (gtS true) "_law_needs" ["_law_row"] ["_law_row"] m_law_needs :=
 ⟨⟨_,List.mem_of_getElem? (i:=21) rfl,rfl,rfl,rfl,rfl,rfl,
 (.cons (.ite (.cmp (.idx (.loc rfl rfl rfl) .int) (.str (by decide +kernel))) (.cons (.ret (.comp (locals:=["_law_q", "_law_times"]) ⟨compGood_ok rfl,(.plain (.idx (.idx (.loc rfl rfl rfl) .int) .int)),(.loc rfl rfl rfl),.nil,.tup rfl (.cons (Slot.of rfl) (.cons (Slot.of rfl) .nil))⟩ (fun h=>nomatch h)))
  .nil) .nil)
 (.cons (.ret (.lst .nil))
 .nil)),
 rfl,rfl,fun _ _ _=>all1 fun _=>rfl⟩⟩
theorem ok_law_closed:FnOK Q (gtS true) "_law_closed" ["_law_rows", "_law_waiting", "_law_cells", "_law_here", "_law_cell"] ["_law_rows", "_law_waiting", "_law_cells"] m_law_closed :=
 ⟨⟨_,List.mem_of_getElem? (i:=22) rfl,rfl,rfl,rfl,rfl,rfl,
 (.cons (.whl (.cmp (.bi (.inl rfl) ⟨rfl,rfl⟩ (.loc rfl rfl rfl) .nil) .int) (.cons (.asg (Slot.of rfl) (.meth0 (.loc rfl rfl rfl) ⟨fun _=>rfl⟩) (fun _=>rfl))
  (.cons (.ite (.cmp (.loc rfl rfl rfl) (.loc rfl rfl rfl)) (.cons (.asg (Slot.of rfl) (.idx (.loc rfl rfl rfl) (.bin (.bin (.loc rfl rfl rfl) (.bi (.inl rfl) ⟨rfl,rfl⟩ (.loc rfl rfl rfl) .nil)) (.bi (.inl rfl) ⟨rfl,rfl⟩ (.loc rfl rfl rfl) .nil))) (fun _=>rfl))
   (.cons (.ite (.call rfl ⟨rfl,rfl⟩ (.loc rfl rfl rfl) .nil) (.cons (.sto (.call rfl ⟨rfl,rfl⟩ (.loc rfl rfl rfl) (.cons (.loc rfl rfl rfl) .nil)) (.loc rfl rfl rfl) (.loc rfl rfl rfl) (fun _=>rfl))
    .nil) (.cons (.sto (.call rfl ⟨rfl,rfl⟩ (.loc rfl rfl rfl) (.cons (.loc rfl rfl rfl) .nil)) (.loc rfl rfl rfl) (.loc rfl rfl rfl) (fun _=>rfl))
    .nil))
   (.cons (.expr (.meth (.loc rfl rfl rfl) (.call rfl ⟨rfl,rfl⟩ (.idx (.loc rfl rfl rfl) (.loc rfl rfl rfl)) .nil) .nil ⟨fun _=>rfl⟩) (fun _=>rfl))
   .nil))) .nil)
  .nil)))
 (.cons (.ret (.comp (locals:=["_law_number"]) ⟨compGood_ok rfl,(.plain (.bi (.inr rfl) ⟨rfl,rfl⟩ (.loc rfl rfl rfl) .nil)),(.idx (.loc rfl rfl rfl) (.loc rfl rfl rfl)),.nil,.one (Slot.of rfl)⟩ (fun h=>nomatch h)))
 .nil)),
 rfl,rfl,fun _ _ _=>all3 fun _ _ _=>rfl⟩⟩
theorem ok_law_rows_by:FnOK Q (gtS true) "_law_rows_by" ["_law_cells", "_law_rows", "_law_waiting", "_law_row"] ["_law_cells"] m_law_rows_by :=
 ⟨⟨_,List.mem_of_getElem? (i:=23) rfl,rfl,rfl,rfl,rfl,rfl,
 (.cons (.asg (Slot.of rfl) .dic0 (fun _=>rfl))
 (.cons (.asgC (locals:=["_law_k"]) (Slot.of rfl) ⟨compGood_ok rfl,(.ty (t:=.range) rfl ⟨rfl,rfl⟩ (.bin .int (.bin (.idx (.loc rfl rfl rfl) .int) .int)) .nil),(.bin .int (.bin (.bin (.idx (.loc rfl rfl rfl) (.loc rfl rfl rfl)) .int) (.idx (.lst (.cons .int (.cons .int .nil))) (.bin (.bin (.idx (.loc rfl rfl rfl) (.loc rfl rfl rfl)) .int) .int)))),.nil,.one (Slot.of rfl)⟩ (fun h=>nomatch h))
 (.cons (.ite (.cmp (.bin (.idx (.loc rfl rfl rfl) .int) .int) .int) (.cons (.asg (Slot.of rfl) (.call rfl ⟨rfl,rfl⟩ (.bin (.idx (.loc rfl rfl rfl) .int) .int) .nil) (fun _=>rfl))
  (.cons (.sto (.loc rfl rfl rfl) (.loc rfl rfl rfl) (.idx (.loc rfl rfl rfl) .int) (fun _=>rfl))
  (.cons (.expr (.meth (.loc rfl rfl rfl) (.call rfl ⟨rfl,rfl⟩ (.loc rfl rfl rfl) .nil) .nil ⟨fun _=>rfl⟩) (fun _=>rfl))
  .nil))) .nil)
 (.cons (.ite (.cmp (.bin (.idx (.loc rfl rfl rfl) .int) .int) .int) (.cons (.asg (Slot.of rfl) (.call rfl ⟨rfl,rfl⟩ (.idx (.loc rfl rfl rfl) .int) (.cons (.idx (.loc rfl rfl rfl) .int) .nil)) (fun _=>rfl))
  (.cons (.sto (.loc rfl rfl rfl) (.loc rfl rfl rfl) (.idx (.loc rfl rfl rfl) .int) (fun _=>rfl))
  .nil)) .nil)
 (.cons (.ret (.call rfl ⟨rfl,rfl⟩ (.loc rfl rfl rfl) (.cons (.loc rfl rfl rfl) (.cons (.loc rfl rfl rfl) .nil))))
 .nil))))),
 rfl,rfl,fun _ _ _=>all1 fun _=>rfl⟩⟩
theorem ok_law_rising:FnOK Q (gtS true) "_law_rising" ["_law_powers", "_law_last", "_law_pair"] ["_law_powers"] m_law_rising :=
 ⟨⟨_,List.mem_of_getElem? (i:=24) rfl,rfl,rfl,rfl,rfl,rfl,
 (.cons (.asg (Slot.of rfl) .int (fun _=>rfl))
 (.cons (.for1 (Slot.of rfl) (.plain (.loc rfl rfl rfl)) (.cons (.ite (.or3 (.not (.isi ⟨rfl,rfl⟩ ⟨rfl,rfl⟩ (.loc rfl rfl rfl))) (.or2 (.cmp (.bi (.inl rfl) ⟨rfl,rfl⟩ (.loc rfl rfl rfl) .nil) .int) (.not (.call rfl ⟨rfl,rfl⟩ (.idx (.loc rfl rfl rfl) .int) (.cons (.bin (.loc rfl rfl rfl) .int) (.cons (.bin .int .int) .nil)))))) (.cons (.ret .bool)
   .nil) .nil)
  (.cons (.ite (.not (.call rfl ⟨rfl,rfl⟩ (.idx (.loc rfl rfl rfl) .int) (.cons .int (.cons .int .nil)))) (.cons (.ret .bool)
   .nil) .nil)
  (.cons (.asg (Slot.of rfl) (.idx (.loc rfl rfl rfl) .int) (fun _=>rfl))
  .nil))) rfl)
 (.cons (.ret .bool)
 .nil))),
 rfl,rfl,fun _ _ _=>all1 fun _=>rfl⟩⟩
theorem ok_law_within:FnOK Q (gtS true) "_law_within" ["_law_thing", "_law_low", "_law_high"] ["_law_thing", "_law_low", "_law_high"] m_law_within :=
 ⟨⟨_,List.mem_of_getElem? (i:=25) rfl,rfl,rfl,rfl,rfl,rfl,
 (.cons (.ret (.and3 (.isi ⟨rfl,rfl⟩ ⟨rfl,rfl⟩ (.loc rfl rfl rfl)) (.and2 (.not (.isi ⟨rfl,rfl⟩ ⟨rfl,rfl⟩ (.loc rfl rfl rfl))) (.cmp2 (.loc rfl rfl rfl) (.loc rfl rfl rfl) (.loc rfl rfl rfl)))))
 .nil),
 rfl,rfl,fun _ _ _=>all3 fun _ _ _=>rfl⟩⟩
theorem ok_law_row_right:FnOK Q (gtS true) "_law_row_right" ["_law_row", "_law_facts"] ["_law_row"] m_law_row_right :=
 ⟨⟨_,List.mem_of_getElem? (i:=26) rfl,rfl,rfl,rfl,rfl,rfl,
 (.cons (.ite (.or3 (.not (.isi ⟨rfl,rfl⟩ ⟨rfl,rfl⟩ (.loc rfl rfl rfl))) (.or2 (.cmp (.bi (.inl rfl) ⟨rfl,rfl⟩ (.loc rfl rfl rfl) .nil) .int) (.not (.call rfl ⟨rfl,rfl⟩ (.idx (.loc rfl rfl rfl) .int) (.cons .int (.cons (.bin .int .int) .nil)))))) (.cons (.ret .bool)
  .nil) .nil)
 (.cons (.ite (.or2 (.not (.isi ⟨rfl,rfl⟩ ⟨rfl,rfl⟩ (.idx (.loc rfl rfl rfl) .int))) (.not (.isi ⟨rfl,rfl⟩ ⟨rfl,rfl⟩ (.idx (.loc rfl rfl rfl) .int)))) (.cons (.ret .bool)
  .nil) .nil)
 (.cons (.asg (Slot.of rfl) (.idx (.loc rfl rfl rfl) .int) (fun _=>rfl))
 (.cons (.ite (.cmp (.idx (.loc rfl rfl rfl) .int) (.str (by decide +kernel))) (.cons (.ret (.cmp (.loc rfl rfl rfl) (.tup .nil)))
  .nil) .nil)
 (.cons (.ite (.cmp (.idx (.loc rfl rfl rfl) .int) (.str (by decide +kernel))) (.cons (.ret (.and3 (.cmp (.bi (.inl rfl) ⟨rfl,rfl⟩ (.loc rfl rfl rfl) .nil) .int) (.and2 (.call rfl ⟨rfl,rfl⟩ (.idx (.loc rfl rfl rfl) .int) (.cons .int (.cons (.bin .int .int) .nil))) (.call rfl ⟨rfl,rfl⟩ (.idx (.loc rfl rfl rfl) .int) (.cons .int (.cons (.bin .int .int) .nil))))))
  .nil) .nil)
 (.cons (.ite (.or2 (.cmp (.idx (.loc rfl rfl rfl) .int) (.str (by decide +kernel))) (.cmp (.idx (.loc rfl rfl rfl) .int) (.str (by decide +kernel)))) (.cons (.ret (.and2 (.cmp (.bi (.inl rfl) ⟨rfl,rfl⟩ (.loc rfl rfl rfl) .nil) .int) (.call rfl ⟨rfl,rfl⟩ (.idx (.loc rfl rfl rfl) .int) (.cons .int (.cons (.bin .int .int) .nil)))))
  .nil) .nil)
 (.cons (.ite (.or3 (.cmp (.idx (.loc rfl rfl rfl) .int) (.str (by decide +kernel))) (.or2 (.cmp (.bi (.inl rfl) ⟨rfl,rfl⟩ (.loc rfl rfl rfl) .nil) .int) (.not (.call rfl ⟨rfl,rfl⟩ (.idx (.loc rfl rfl rfl) .int) (.cons .int (.cons (.bin .int .int) .nil)))))) (.cons (.ret .bool)
  .nil) .nil)
 (.cons (.ret (.and3 (.isi ⟨rfl,rfl⟩ ⟨rfl,rfl⟩ (.idx (.loc rfl rfl rfl) .int)) (.and2 (.cmp (.bi (.inl rfl) ⟨rfl,rfl⟩ (.idx (.loc rfl rfl rfl) .int) .nil) .int) (.call rfl ⟨rfl,rfl⟩ (.idx (.loc rfl rfl rfl) .int) .nil))))
 .nil)))))))),
 rfl,rfl,fun _ _ _=>all1 fun _=>rfl⟩⟩
theorem ok_law_line:FnOK Q (gtS true) "_law_line" ["_law_row", "_law_text", "_law_q", "_law_times", "_law_number"] ["_law_row"] m_law_line :=
 ⟨⟨_,List.mem_of_getElem? (i:=27) rfl,rfl,rfl,rfl,rfl,rfl,
 (.cons (.asg (Slot.of rfl) (.bin (.bin (.strI ⟨rfl,rfl⟩ (.idx (.loc rfl rfl rfl) .int)) (.str (by decide +kernel))) (.idx (.loc rfl rfl rfl) .int)) (fun _=>rfl))
 (.cons (.ite (.cmp (.idx (.loc rfl rfl rfl) .int) (.str (by decide +kernel))) (.cons (.asg (Slot.of rfl) (.bin (.bin (.loc rfl rfl rfl) (.str (by decide +kernel))) (.strI ⟨rfl,rfl⟩ (.idx (.idx (.loc rfl rfl rfl) .int) .int))) (fun _=>rfl))
  (.cons (.forT (.cons (Slot.of rfl) (.cons (Slot.of rfl) .nil)) (.plain (.idx (.idx (.loc rfl rfl rfl) .int) .int)) (.cons (.asg (Slot.of rfl) (.bin (.bin (.bin (.bin (.loc rfl rfl rfl) (.str (by decide +kernel))) (.strI ⟨rfl,rfl⟩ (.loc rfl rfl rfl))) (.str (by decide +kernel))) (.strI ⟨rfl,rfl⟩ (.loc rfl rfl rfl))) (fun _=>rfl))
   .nil))
  (.cons (.ret (.loc rfl rfl rfl))
  .nil))) .nil)
 (.cons (.for1 (Slot.of rfl) (.plain (.idx (.loc rfl rfl rfl) .int)) (.cons (.asg (Slot.of rfl) (.bin (.bin (.loc rfl rfl rfl) (.str (by decide +kernel))) (.strI ⟨rfl,rfl⟩ (.loc rfl rfl rfl))) (fun _=>rfl))
  .nil) rfl)
 (.cons (.ret (.loc rfl rfl rfl))
 .nil)))),
 rfl,rfl,fun _ _ _=>all1 fun _=>rfl⟩⟩
theorem ok_law_slip_right:FnOK Q (gtS true) "_law_slip_right" ["_law_slip", "_law_k"] ["_law_slip"] m_law_slip_right :=
 ⟨⟨_,List.mem_of_getElem? (i:=28) rfl,rfl,rfl,rfl,rfl,rfl,
 (.cons (.ite (.or3 (.not (.isi ⟨rfl,rfl⟩ ⟨rfl,rfl⟩ (.loc rfl rfl rfl))) (.or2 (.not (.cmp2 .int (.bi (.inl rfl) ⟨rfl,rfl⟩ (.loc rfl rfl rfl) .nil) .int)) (.not (.bi (.inl rfl) ⟨rfl,rfl⟩ (.comp (locals:=["_law_row"]) ⟨compGood_ok rfl,(.plain (.loc rfl rfl rfl)),(.call rfl ⟨rfl,rfl⟩ (.loc rfl rfl rfl) .nil),.nil,.one (Slot.of rfl)⟩ (fun h=>nomatch h)) .nil)))) (.cons (.ret .bool)
  .nil) .nil)
 (.cons (.for1 (Slot.of rfl) (.ty (t:=.range) rfl ⟨rfl,rfl⟩ .int (.cons (.bi (.inl rfl) ⟨rfl,rfl⟩ (.loc rfl rfl rfl) .nil) .nil)) (.cons (.ite (.cmp (.idx (.idx (.loc rfl rfl rfl) (.bin (.loc rfl rfl rfl) .int)) .int) (.idx (.idx (.loc rfl rfl rfl) (.loc rfl rfl rfl)) .int)) (.cons (.ret .bool)
   .nil) .nil)
  .nil) rfl)
 (.cons (.ret .bool)
 .nil))),
 rfl,rfl,fun _ _ _=>all1 fun _=>rfl⟩⟩
theorem ok_law_changed:FnOK Q (gtS true) "_law_changed" ["_law_text", "_law_cell", "_law_more", "_law_at", "_law_signs", "_law_sign", "_law_lines", "_law_place", "_law_powers", "_law_words", "_law_put"] ["_law_text", "_law_cell", "_law_more"] m_law_changed :=
 ⟨⟨_,List.mem_of_getElem? (i:=29) rfl,rfl,rfl,rfl,rfl,rfl,
 (.cons (.asg (Slot.of rfl) (.bin (.loc rfl rfl rfl) (.bin .int (.lenS ⟨rfl,rfl⟩ (.loc rfl rfl rfl)))) (fun _=>rfl))
 (.cons (.asg (Slot.of rfl) (.str (by decide +kernel)) (fun _=>rfl))
 (.cons (.asg (Slot.of rfl) (.idxS (.loc rfl rfl rfl) (.bin (.bin (.loc rfl rfl rfl) .int) (.lenS ⟨rfl,rfl⟩ (.loc rfl rfl rfl)))) (fun _=>rfl))
 (.cons (.ite (.cmp (.bin (.loc rfl rfl rfl) .int) .int) (.cons (.ret (.bin (.slcS (.loc rfl rfl rfl) .none (.some (.loc rfl rfl rfl))) (.slcS (.loc rfl rfl rfl) (.some (.bin (.loc rfl rfl rfl) .int)) .none)))
  .nil) .nil)
 (.cons (.ite (.cmp (.bin (.loc rfl rfl rfl) .int) .int) (.cons (.ret (.bin (.bin (.slcS (.loc rfl rfl rfl) .none (.some (.loc rfl rfl rfl))) (.loc rfl rfl rfl)) (.slcS (.loc rfl rfl rfl) (.some (.loc rfl rfl rfl)) .none)))
  .nil) .nil)
 (.cons (.ite (.cmp (.bin (.loc rfl rfl rfl) .int) .int) (.cons (.ret (.bin (.bin (.slcS (.loc rfl rfl rfl) .none (.some (.loc rfl rfl rfl))) (.loc rfl rfl rfl)) (.slcS (.loc rfl rfl rfl) (.some (.bin (.loc rfl rfl rfl) .int)) .none)))
  .nil) .nil)
 (.cons (.asg (Slot.of rfl) (.splitS (.loc rfl rfl rfl) (.str (by decide +kernel)) ⟨fun _=>rfl⟩) (fun _=>rfl))
 (.cons (.asg (Slot.of rfl) (.bin (.loc rfl rfl rfl) (.bi (.inl rfl) ⟨rfl,rfl⟩ (.loc rfl rfl rfl) .nil)) (fun _=>rfl))
 (.cons (.ite (.cmp (.bin (.loc rfl rfl rfl) .int) .int) (.cons (.ret (.joinS (.str (by decide +kernel)) (.bin (.bin (.slc (.loc rfl rfl rfl) .none (.some (.loc rfl rfl rfl))) (.lst (.cons (.idx (.loc rfl rfl rfl) (.bin (.loc rfl rfl rfl) .int)) .nil))) (.slc (.loc rfl rfl rfl) (.some (.loc rfl rfl rfl)) .none)) ⟨fun _=>rfl⟩))
  .nil) .nil)
 (.cons (.ite (.cmp (.bin (.loc rfl rfl rfl) .int) .int) (.cons (.asgC (locals:=["_law_k"]) (Slot.of rfl) ⟨compGood_ok rfl,(.ty (t:=.range) rfl ⟨rfl,rfl⟩ (.bi (.inl rfl) ⟨rfl,rfl⟩ (.loc rfl rfl rfl) .nil) .nil),(.loc rfl rfl rfl),(.one (.inS (.str (by decide +kernel)) (.idx (.loc rfl rfl rfl) (.loc rfl rfl rfl)))),.one (Slot.of rfl)⟩ (fun h=>nomatch h))
  (.cons (.ite (.and2 (.cmp (.bi (.inl rfl) ⟨rfl,rfl⟩ (.loc rfl rfl rfl) .nil) .int) (.cmp (.bin (.bin (.loc rfl rfl rfl) .int) .int) .int)) (.cons (.asg (Slot.of rfl) (.idx (.loc rfl rfl rfl) (.bin (.loc rfl rfl rfl) (.bi (.inl rfl) ⟨rfl,rfl⟩ (.loc rfl rfl rfl) .nil))) (fun _=>rfl))
   .nil) .nil)
  (.cons (.asg (Slot.of rfl) (.splitS (.idx (.loc rfl rfl rfl) (.loc rfl rfl rfl)) (.str (by decide +kernel)) ⟨fun _=>rfl⟩) (fun _=>rfl))
  (.cons (.asg (Slot.of rfl) (.idx (.lst (.cons (.str (by decide +kernel)) (.cons (.str (by decide +kernel)) (.cons (.str (by decide +kernel)) (.cons (.str (by decide +kernel)) (.cons (.mulS (.str (by decide +kernel)) .int) (.cons (.mulS (.str (by decide +kernel)) .int) (.cons (.str (by decide +kernel)) (.cons (.mulS (.str (by decide +kernel)) .int) .nil))))))))) (.bin (.bin (.loc rfl rfl rfl) .int) .int)) (fun _=>rfl))
  (.cons (.asg (Slot.of rfl) (.bin (.bin (.loc rfl rfl rfl) .int) (.bi (.inl rfl) ⟨rfl,rfl⟩ (.loc rfl rfl rfl) .nil)) (fun _=>rfl))
  (.cons (.ite (.cmp (.bin (.bin (.loc rfl rfl rfl) .int) .int) .int) (.cons (.expr (.meth (.loc rfl rfl rfl) (.loc rfl rfl rfl) (.cons (.loc rfl rfl rfl) .nil) ⟨fun _=>rfl⟩) (fun _=>rfl))
   .nil) (.cons (.asg (Slot.of rfl) (.idx (.lst (.cons (.loc rfl rfl rfl) (.cons (.bin (.bi (.inl rfl) ⟨rfl,rfl⟩ (.loc rfl rfl rfl) .nil) .int) .nil))) (.bin (.bin (.loc rfl rfl rfl) .int) .int)) (fun _=>rfl))
   (.cons (.sto (.idx (.lst (.cons (.bin (.str (by decide +kernel)) (.idx (.loc rfl rfl rfl) (.loc rfl rfl rfl))) (.cons (.bin (.idx (.loc rfl rfl rfl) (.loc rfl rfl rfl)) (.str (by decide +kernel))) (.cons (.bin (.str (by decide +kernel)) (.idx (.loc rfl rfl rfl) (.loc rfl rfl rfl))) (.cons (.bin (.idx (.loc rfl rfl rfl) (.loc rfl rfl rfl)) (.str (by decide +kernel))) .nil))))) (.bin (.bin (.loc rfl rfl rfl) .int) .int)) (.loc rfl rfl rfl) (.loc rfl rfl rfl) (fun _=>rfl))
   .nil)))
  (.cons (.ret (.joinS (.str (by decide +kernel)) (.bin (.bin (.slc (.loc rfl rfl rfl) .none (.some (.loc rfl rfl rfl))) (.lst (.cons (.joinS (.str (by decide +kernel)) (.loc rfl rfl rfl) ⟨fun _=>rfl⟩) .nil))) (.slc (.loc rfl rfl rfl) (.some (.bin (.loc rfl rfl rfl) .int)) .none)) ⟨fun _=>rfl⟩))
  .nil))))))) .nil)
 (.cons (.ret (.slcS (.loc rfl rfl rfl) .none (.some (.loc rfl rfl rfl))))
 .nil))))))))))),
 rfl,rfl,fun _ _ _=>all3 fun _ _ _=>rfl⟩⟩
theorem ok_law_refused (b:Bool):FnX XiR Q (gtS b) "_law_refused" ["_law_text", "e", "_law_other"] ["_law_text"] (m_law_refused RRead hdT) :=
 ⟨⟨_,List.mem_of_getElem? (i:=30) rfl,rfl,rfl,rfl,rfl,rfl,
 (.cons (.tryE rfl ⟨rfl,rfl⟩ (.loc rfl rfl rfl) .nil (fun ξ=>ξ.rd) ⟨rfl,rfl⟩ (.cons (Slot.of rfl) (.cons (Slot.of rfl) .nil)) (by decide +kernel) rfl (fun _=>rfl) (fun ξ _ _ e=>tryT ξ e rfl rfl rfl rfl rfl rfl rfl ⟨rfl,rfl⟩ rfl))
 (.cons (.of (.ret .bool))
 .nil)),
 rfl,rfl,fun _ _ _=>all1 fun _=>rfl⟩⟩
theorem ok_law:FnX (XiL (gtS false)) Q (gtS true) "law" ["_law_script", "_law_cells", "_law_text", "_law_k", "_law_found"] ["_law_script"] (m_law RRead2 RRef) :=
 ⟨⟨_,List.mem_of_getElem? (i:=31) rfl,rfl,rfl,rfl,rfl,rfl,
 (.cons (.of (.asg (Slot.of rfl) (.call rfl ⟨rfl,rfl⟩ (.loc rfl rfl rfl) (.cons .int (.cons .int .nil))) (fun _=>rfl)))
 (.cons (.of (.asg (Slot.of rfl) (.joinS (.str (by decide +kernel)) (.comp (locals:=["_law_row"]) ⟨compGood_ok rfl,(.plain (.call rfl ⟨rfl,rfl⟩ (.loc rfl rfl rfl) .nil)),(.call rfl ⟨rfl,rfl⟩ (.loc rfl rfl rfl) .nil),.nil,.one (Slot.of rfl)⟩ (fun h=>nomatch h)) ⟨fun _=>rfl⟩) (fun _=>rfl)))
 (.cons (.of (.for1 (Slot.of rfl) (.ty (t:=.range) rfl ⟨rfl,rfl⟩ (.bin .int (.bin (.idx (.loc rfl rfl rfl) .int) .int)) .nil) (.cons (.asg (Slot.of rfl) (.call rfl ⟨rfl,rfl⟩ (.loc rfl rfl rfl) (.cons (.idx (.loc rfl rfl rfl) (.bin .int (.loc rfl rfl rfl))) (.cons (.idx (.loc rfl rfl rfl) (.bin .int (.loc rfl rfl rfl))) .nil))) (fun _=>rfl))
  .nil) rfl))
 (.cons (.tryD (Gq:=gtS false) (Slot.of rfl) rfl ⟨rfl,rfl⟩ (.loc rfl rfl rfl) .nil rfl ⟨rfl,rfl⟩ (.loc rfl rfl rfl) .nil ⟨rfl,rfl⟩ (fun ξ=>ξ.rd) (fun ξ=>ξ.st) (fun _=>rfl))
 (.cons (.of (.ret (.and2 (.call rfl ⟨rfl,rfl⟩ (.loc rfl rfl rfl) .nil) (.cmp (.joinS (.str (by decide +kernel)) (.comp (locals:=["_law_row"]) ⟨compGood_ok rfl,(.plain (.loc rfl rfl rfl)),(.call rfl ⟨rfl,rfl⟩ (.loc rfl rfl rfl) .nil),.nil,.one (Slot.of rfl)⟩ (fun h=>nomatch h)) ⟨fun _=>rfl⟩) (.loc rfl rfl rfl)))))
 .nil))))),
 rfl,rfl,fun _ _ _=>all1 fun _=>rfl⟩⟩
theorem free_b:bnames.all (fun x=>freeB Q [Str.ofString "BOUND"] x)=true:=by decide +kernel
theorem fns_b:(gtS true).fns.all (fun x=>((recsOf Q).map (·.name)).contains x)=true:=by decide +kernel
end
section
open PySem PySem.W PyProof.Rows
set_option maxRecDepth 100000
set_option maxHeartbeats 8000000
theorem VRs.strs {B h:Heap}{ι:List Addr}{ss:List Str}{vs:List Value}(q:StrsAre vs ss) (ok:ss.all PyData.strOk=true):VRs B h ι (ss.map .str) vs:=by
 induction q with
 | nil=>rfl
 | cons _ t r ih =>
  simp only [List.all_cons,Bool.and_eq_true] at ok
  exact ⟨_,_,rfl,VR.mkStr _ _ ok.1,ih ok.2⟩
theorem words_ok:wordsL.all PyData.strOk=true:=by decide +kernel
theorem words_of:tupStrsOf Q "WORDS" = some wordsL:=by decide +kernel
theorem gok09 {prog:Program}{R:WRecords}{w:World}{s₀:Shared}{mg mb:Str->Option Value}{h B:Heap}{hd:Option Addr}(G:Ground Q [Str.ofString "BOUND"] R (XC Q [(Str.ofString "BOUND",.int 1000000000000000000000000000000)] clsQ) w s₀ mg mb h) (st:h.StaysIn B) (b:Bool) (hq:b=true->hd=none):GOK (PEnv.mk prog w B mg mb hd) (gtS b) :=
 gok_of G st hq free_b fns_b (fun x v e=>by
  simp only [gtS,List.lookup_cons] at e
  split at e
  ·rename_i hx
   have hx:=beq_iff_eq.mp hx
   subst hx
   cases e
   obtain ⟨u,h1,h2⟩:=G.X.1.2.val (Str.ofString "BOUND",.int 1000000000000000000000000000000) (List.mem_singleton.mpr rfl)
   cases h2
   exact ⟨_,h1,fun _ _ _=>VR.mkInt _ _⟩
  split at e
  ·rename_i hx
   have hx:=beq_iff_eq.mp hx
   subst hx
   cases e
   obtain ⟨a,vs,h1,h2,h3⟩:=G.B.tupS (Str.ofString "WORDS") wordsL words_of
   refine ⟨_,h1,fun h' ι st'=>?_⟩
   show VR B h' ι (.tup (wordsL.map .str)) _
   unfold VR
   exact ⟨_,vs,rfl,PTup.of (h2.keeps fun b o e=>st' b o (st b o e)),VRs.strs h3 words_ok⟩
  split at e
  ·rename_i hx
   have hx:=beq_iff_eq.mp hx
   subst hx
   cases e
   obtain ⟨u,h1,h2⟩:=G.T.const (Str.ofString "MOST_TIMES") (.int 100) rfl
   cases h2 default
   exact ⟨_,h1,fun _ _ _=>VR.mkInt _ _⟩
  split at e
  ·rename_i hx
   have hx:=beq_iff_eq.mp hx
   subst hx
   cases e
   obtain ⟨u,h1,h2⟩:=G.T.const (Str.ofString "MOST_ROWS") (.int 200) rfl
   cases h2 default
   exact ⟨_,h1,fun _ _ _=>VR.mkInt _ _⟩
  split at e
  ·rename_i hx
   have hx:=beq_iff_eq.mp hx
   subst hx
   cases e
   obtain ⟨u,h1,h2⟩:=G.T.const (Str.ofString "FIGURES") (.str (Str.ofString "0123456789")) rfl
   cases h2 default
   exact ⟨_,h1,fun _ _ _=>VR.mkStr _ _ (by decide +kernel)⟩
  split at e
  ·rename_i hx
   have hx:=beq_iff_eq.mp hx
   subst hx
   cases e
   obtain ⟨u,h1,h2⟩:=G.T.const (Str.ofString "MOST_FIGURES") (.int 31) rfl
   cases h2 default
   exact ⟨_,h1,fun _ _ _=>VR.mkInt _ _⟩
  ·simp at e)
section
variable {prog:Program}{R:WRecords}{w:World}{s₀:Shared}{mg mb:Str->Option Value}{h B:Heap}{hd:Option Addr}
theorem own09 (G:Ground Q [Str.ofString "BOUND"] R (XC Q [(Str.ofString "BOUND",.int 1000000000000000000000000000000)] clsQ) w s₀ mg mb h) (st:h.StaysIn B) (n:Nat):XiN (PEnv.mk prog w B mg mb hd) n:=by
 obtain ⟨C,O,_⟩:=G.T.ownAt (x := "NoText") (newId := "ValueError.__new__") (bm:=[.type "ValueError",.type "Exception",.type "BaseException",.type "object"]) (by decide +kernel)
 exact ⟨C,O.own.keeps st⟩
theorem rd09 (G:Ground Q [Str.ofString "BOUND"] R (XC Q [(Str.ofString "BOUND",.int 1000000000000000000000000000000)] clsQ) w s₀ mg mb h) (st:h.StaysIn B) (b:Bool) (hq:b=true->hd=none) (n:Nat){args:List AV}{H:Hp}{Q:PQ}{X:XP}(hr:RRead2 args H Q X):CallOK (PEnv.mk prog w B mg mb hd) (n+6) "read" args H Q X:=by
 have ok:GOK (PEnv.mk prog w B mg mb hd) (gtS b):=gok09 G st b hq
 have own:∀ n,XiN (PEnv.mk prog w B mg mb hd) n:=fun n=>own09 G st n
 have wh:∀ n,SWh "is_whole" (CK (PEnv.mk prog w B mg mb hd) (n+1)):=fun n v a c H Q h1=>(ok_is_whole b).call (n:=n) G st ok (Φ:=CK _ n) (fun _ _ _ _ h=>h) (is_whole h1)
 have pws:∀ n,SPw "are_powers" (CK (PEnv.mk prog w B mg mb hd) (n+2)):=fun n v m H Q h1 h2=>(ok_are_powers b).call (n:=n+1) G st ok (Φ:=CK _ (n+1)) (fun _ _ _ _ h=>h) (are_powers (wh n) h1 h2)
 have fac:∀ n,SFac (CK (PEnv.mk prog w B mg mb hd) (n+3)):=fun n w f m H Q h1 h2=>(ok_are_facts b).call (n:=n+2) G st ok (Φ:=CK _ (n+2)) (fun _ _ _ _ h=>h) (are_facts (wh (n+1)) (pws n) h1 h2)
 have isrow:∀ n,SRow "is_row" (CK (PEnv.mk prog w B mg mb hd) (n+4)):=fun n v H Q h1 h2=>(ok_is_row b).call (n:=n+3) G st ok (Φ:=CK _ (n+3)) (fun _ _ _ _ h=>h) (is_row (wh (n+2)) (fac n) h1 h2)
 have slip:∀ n,SSlip (CK (PEnv.mk prog w B mg mb hd) (n+5)):=fun n v H Q h1 h2=>(ok_is_slip b).call (n:=n+4) G st ok (Φ:=CK _ (n+4)) (fun _ _ _ _ h=>h) (is_slip (isrow n) h1 h2)
 have rowt:∀ n,SRowT "row_text" (CK (PEnv.mk prog w B mg mb hd) (n+1)):=fun n m f H Q h1 h2=>(ok_row_text b).call (n:=n) G st ok (Φ:=CK _ n) (fun _ _ _ _ h=>h) (row_text h1 h2)
 have wri:∀ n,SWritten (CK (PEnv.mk prog w B mg mb hd) (n+2)):=fun n rs H Q h1 h2=>(ok_written b).call (n:=n+1) G st ok (Φ:=CK _ (n+1)) (fun _ _ _ _ h=>h) (written (rowt n) h1 h2)
 have num:∀ n,SNum (CK (PEnv.mk prog w B mg mb hd) (n+1)):=fun n v H Q h1 h2=>(ok_number_of b).call (n:=n) G st ok (own n) (Φ:=CK _ n) (fun _ _ _ _ h=>h) (number_of h1 h2)
 have numX:∀ n args H X,RNum args H X->CallOK (PEnv.mk prog w B mg mb hd) (n+1) "number_of" args H (fun _ _=>False) X:=fun n args H X h1=>(ok_number_of b).call (n:=n) G st ok (own n) (Φ:=CK _ n) (fun _ _ _ _ h=>h) (number_no h1)
 have pof:∀ n,SPowOf (CK (PEnv.mk prog w B mg mb hd) (n+2)):=fun n v H Q h1 h2 h3=>(ok_power_of b).call (n:=n+1) G st ok ⟨own _,numX n⟩ (Φ:=CK _ (n+1)) (fun _ _ _ _ h=>h) (power_of (num n) h1 h2 h3)
 have powX:∀ n args H X,RPow args H X->CallOK (PEnv.mk prog w B mg mb hd) (n+2) "power_of" args H (fun _ _=>False) X:=fun n args H X h1=>(ok_power_of b).call (n:=n+1) G st ok ⟨own _,numX n⟩ (Φ:=CK _ (n+1)) (fun _ _ _ _ h=>h) (power_no (num n) h1)
 have rof:∀ n,SRowOf (CK (PEnv.mk prog w B mg mb hd) (n+3)):=fun n v H Q h1 h2 h3 h4=>(ok_row_of b).call (n:=n+2) G st ok ⟨own _,numX (n+1),powX n⟩ (Φ:=CK _ (n+2)) (fun _ _ _ _ h=>h) (row_of (num (n+1)) (pof n) h1 h2 h3 h4)
 have rowX:∀ n args H X,RRow args H X->CallOK (PEnv.mk prog w B mg mb hd) (n+3) "row_of" args H (fun _ _=>False) X:=fun n args H X h1=>(ok_row_of b).call (n:=n+2) G st ok ⟨own _,numX (n+1),powX n⟩ (Φ:=CK _ (n+2)) (fun _ _ _ _ h=>h) (row_no (num (n+1)) (pof n) h1)
 exact (ok_read b).call (n:=n+5) G st ok ⟨own _,rowX (n+2)⟩ (Φ:=CK _ (n+5)) (fun _ _ _ _ h=>h) (read (rof (n+2)) (slip n) (wri (n+3)) hr)
theorem rf09 (G:Ground Q [Str.ofString "BOUND"] R (XC Q [(Str.ofString "BOUND",.int 1000000000000000000000000000000)] clsQ) w s₀ mg mb h) (st:h.StaysIn B) (b:Bool) (hq:b=true->hd=none){args:List AV}{H:Hp}{Q:PQ}(hr:RRef args H Q):CallOK (PEnv.mk prog w B mg mb hd) 7 "_law_refused" args H Q XF:=by
 have ok:GOK (PEnv.mk prog w B mg mb hd) (gtS b):=gok09 G st b hq
 obtain ⟨K,hK,hq'⟩:=G.X.2
 obtain ⟨D,F⟩:=hq' _ (.head _)
 have isf:IsF (PEnv.mk prog w B mg mb hd) D kitsB:=⟨ok.toOK,.inr ok.isi,K,hK.keeps st,F.exc,fun p hp=>by
  rcases List.mem_append.mp (show p∈kits++[((Str.ofString "ValueError"),true)] from hp) with z|z
  ·obtain ⟨v,h1,h2⟩:=F.kit p z
   exact ⟨v,.inl h1,h2⟩
  ·rw [List.mem_singleton.mp z]
   exact ⟨.type "ValueError",.inr ⟨free_of G (by decide +kernel),(G.T.builtins _ (by decide +kernel)).trans (by decide +kernel)⟩,F.ty ("ValueError",true) (.head _)⟩⟩
 have xir:XiR (PEnv.mk prog w B mg mb hd) 6:=⟨fun args H X h1=>rd09 G st b hq 0 h1.two,by
   obtain ⟨v,h1,h2⟩:=F.ct "SlipError" (.head _)
   exact catches_of (hK.keeps st) F.at_ h1 h2,D,F.at_,isf⟩
 exact (ok_law_refused b).call (n:=6) G st ok xir (Φ:=CK _ 6) (fun _ _ _ _ h=>h) (refused hr)
end
theorem main09 {prog:Program}{R:WRecords}{w:World}{s₀:Shared}{mg mb:Str->Option Value}{h:Heap}(G:Ground Q [Str.ofString "BOUND"] R (XC Q [(Str.ofString "BOUND",.int 1000000000000000000000000000000)] clsQ) w s₀ mg mb h){ns:List Int}(hl:ns.length<=63) :
  CallOK (PEnv.mk prog w h mg mb none) 8 "law" [.fro (ns.map .int)] [] (fun v _=>v=.bool true) XF:=by
 have st0:h.StaysIn h:=fun _ _ e=>e
 have ok:GOK (PEnv.mk prog w h mg mb none) (gtS true):=gok09 G st0 true (fun _=>rfl)
 have cell:∀ n,SCell (CK (PEnv.mk prog w h mg mb none) (n+1)):=fun n l k H Q h1 h2 h3=>ok_law_cell_at.call (n:=n) G st0 ok (Φ:=CK _ n) (fun _ _ _ _ h=>h) (cell_at h1 h2 h3)
 have p1:∀ n,SPower (CK (PEnv.mk prog w h mg mb none) (n+1)):=fun n b e m H Q h1 h2 h3 h4 h5 h6=>call_gc (ok_law_power.call (n:=n) G st0 ok (Φ:=CK _ n) (fun _ _ _ _ h=>h) (power h1 h2 h3 h4 h5 fun H' p=>⟨p,rfl,h6⟩))
 have p2:∀ n,SRound (CK (PEnv.mk prog w h mg mb none) (n+2)):=fun n m b ps H Q h1 h2 h3 h4 h5=>ok_law_round.call (n:=n+1) G st0 ok (Φ:=CK _ (n+1)) (fun _ _ _ _ h=>h) (round (p1 n) h1 h2 h3 h4 h5)
 have isp:∀ n,SIsP (CK (PEnv.mk prog w h mg mb none) (n+1)):=fun n m H Q h1 h2 h3=>ok_law_is_prime.call (n:=n) G st0 ok (Φ:=CK _ n) (fun _ _ _ _ h=>h) (is_prime h1 h2 h3)
 have fct:∀ n,SFact (CK (PEnv.mk prog w h mg mb none) (n+1)):=fun n m H Q h1 h2 h3=>call_gc (ok_law_factors.call (n:=n) G st0 ok (Φ:=CK _ n) (fun _ _ _ _ h=>h) (factors h1 h2 fun H' p=>⟨p,psT_clean _,h3⟩))
 have prow:∀ n,SPRow (CK (PEnv.mk prog w h mg mb none) (n+3)):=fun n m c H Q h1 h2 h3 h4 h5=>ok_law_prime_row.call (n:=n+2) G st0 ok (Φ:=CK _ (n+2)) (fun _ _ _ _ h=>h) (prime_row (fct (n+1)) (p2 n) h1 h2 h3 h4 h5)
 have part:∀ n,SPart (CK (PEnv.mk prog w h mg mb none) (n+2)):=fun n m c H Q h1 h2 h3 h4 h5=>call_gc (ok_law_parted_row.call (n:=n+1) G st0 ok (Φ:=CK _ (n+1)) (fun _ _ _ _ h=>h) (parted_row (p1 n) h1 h2 h3 h4 fun r a t b c H' p=>⟨p,av_clean r,h5 r a t b c⟩))
 have big:∀ n,SBig (CK (PEnv.mk prog w h mg mb none) (n+2)):=fun n c H Q h1 h2=>call_gc (ok_law_big_row.call (n:=n+1) G st0 ok (Φ:=CK _ (n+1)) (fun _ _ _ _ h=>h) (big_row (p1 n) h1 fun r a t b c H' p=>⟨p,av_clean r,h2 r a t b c⟩))
 have great:∀ n,SGreat (CK (PEnv.mk prog w h mg mb none) (n+1)):=fun n c m H Q h1 h2 h3 h4 h5=>ok_law_great_row.call (n:=n) G st0 ok (Φ:=CK _ n) (fun _ _ _ _ h=>h) (great_row h1 h2 h3 h4 h5)
 have nds:∀ n,SNeeds (CK (PEnv.mk prog w h mg mb none) (n+1)):=fun n r H Q h1 h2=>ok_law_needs.call (n:=n) G st0 ok (Φ:=CK _ n) (fun _ _ _ _ h=>h) (needs h1 h2)
 have cls:∀ n,SClosed (CK (PEnv.mk prog w h mg mb none) (n+4)):=fun n P N i j k m D W cs H H0 Q a1 a2 h1 h2 h3 h4 h5 h6 h7 h8 h9 h10 h11 h12 h13 h14 h15=>ok_law_closed.call (n:=n+3) G st0 ok (Φ:=CK _ (n+3)) (fun _ _ _ _ h=>h) (closed (isp (n+2)) (prow n) (part (n+1)) (nds (n+2)) a1 a2 h1 h2 h3 h4 h5 h6 h7 h8 h9 h10 h11 h12 h13 h14 h15)
 have rby:∀ n,SRowsBy (CK (PEnv.mk prog w h mg mb none) (n+5)):=fun n k m cs H Q h1 h2 h3 h4 h5=>call_gcL (ok_law_rows_by.call (n:=n+4) G st0 ok (Φ:=CK _ (n+4)) (fun _ _ _ _ h=>h) (rows_by (big (n+2)) (great (n+3)) (nds (n+3)) (cls n) h1 h2 h3 h4 fun m rs H' a b c d=>⟨_,m,a,rfl,b,c,avs_clean rs,h5 rs d⟩))
 -- clsQ
 have mixA:∀ n,SMixedA (CK (PEnv.mk prog w h mg mb none) (n+2)):=fun n l a m H Q h1 h2 h3 h4=>ok_law_mixed.call (n:=n+1) G st0 ok (Φ:=CK _ (n+1)) (fun _ _ _ _ h=>h) (mixedA (cell n) h1 h2 h3 h4)
 have lin:∀ n,SRowT "_law_line" (CK (PEnv.mk prog w h mg mb none) (n+1)):=fun n m f H Q h1 h2=>ok_law_line.call (n:=n) G st0 ok (Φ:=CK _ n) (fun _ _ _ _ h=>h) (line_law h1 h2)
 have chg:∀ n,SChg (CK (PEnv.mk prog w h mg mb none) (n+1)):=fun n k t c m H Q h1 h2 h3 h4 h5 h6=>ok_law_changed.call (n:=n) G st0 ok (Φ:=CK _ n) (fun _ _ _ _ h=>h) (changed h1 h2 h3 h4 h5 h6)
 have wit:∀ n,SWh "_law_within" (CK (PEnv.mk prog w h mg mb none) (n+1)):=fun n v a b H Q h1=>ok_law_within.call (n:=n) G st0 ok (Φ:=CK _ n) (fun _ _ _ _ h=>h) (within h1)
 have rsg:∀ n,SRis (CK (PEnv.mk prog w h mg mb none) (n+2)):=fun n l m H Q h1 h2=>ok_law_rising.call (n:=n+1) G st0 ok (Φ:=CK _ (n+1)) (fun _ _ _ _ h=>h) (rising (wit n) h1 h2)
 have rrt:∀ n,SRow "_law_row_right" (CK (PEnv.mk prog w h mg mb none) (n+3)):=fun n v H Q h1 h2=>ok_law_row_right.call (n:=n+2) G st0 ok (Φ:=CK _ (n+2)) (fun _ _ _ _ h=>h) (row_right (wit (n+1)) (rsg n) h1 h2)
 have srt:∀ n,SSRight (CK (PEnv.mk prog w h mg mb none) (n+4)):=fun n rs H Q h1 h2=>ok_law_slip_right.call (n:=n+3) G st0 ok (Φ:=CK _ (n+3)) (fun _ _ _ _ h=>h) (slip_right (rrt n) h1 h2)
 obtain ⟨K,hK,hq'⟩:=G.X.2
 obtain ⟨D,F⟩:=hq' _ (.head _)
 have xil:XiL (gtS false) (PEnv.mk prog w h mg mb none) 7:=⟨fun args H Q X h1=>rd09 G st0 true (fun _=>rfl) 1 h1,rfl,by
   obtain ⟨v,h1,h2⟩:=F.ct "NoText" (.tail _ (.head _))
   exact catches_of hK F.at_ h1 h2,fun B' ea st nc=>⟨gok09 G st false (fun z=>by cases z),fun args H Q h1=>rf09 G st false (fun z=>by cases z) h1⟩⟩
 exact ok_law.call (n:=7) G st0 ok xil (Φ:=CK _ 7) (fun _ _ _ _ h=>h) (law09 (mixA 5) (rby 2) (lin 6) (chg 6) (srt 3) hl fun H'=>rfl)
end
end Mine
open PySem PySem.W PyProof.Rows
set_option maxRecDepth 100000
set_option maxHeartbeats 8000000
theorem PySem.Challenge.cw_uf030003_09_holds : PySem.Challenge.rw_uf030003_09.Holds := by
 w_on
 refine holds_law Mine.said fun k=>?_
 refine holds_open (q:=Mine.Q) (loose:=[Str.ofString "BOUND"]) (Xt:=Mine.Xt) (XP:=Mine.XC Mine.Q [(Str.ofString "BOUND",.int 1000000000000000000000000000000)] Mine.clsQ) (Yf:=Hook.obs Hook.none) (Ya:=Hook.val Hook.none) (YP:=Hook.says Hook.none) (N:=3000) Mine.left (Hook.of Hook.none) (Hook.keeps Hook.none) (fun s e=>⟨xl_of s (Bool.and_eq_true_iff.mp (Bool.and_eq_true_iff.mp e).1).1,Mine.cf_of s (Bool.and_eq_true_iff.mp e).2⟩) Mine.XC.keeps (by rfl) (by rfl) (by rfl) (fun s e=>recFacts_of (Bool.and_eq_true_iff.mp (Bool.and_eq_true_iff.mp e).1).2) rfl k (by decide +kernel) ⟨rfl,rfl,rfl,rfl,rfl,by decide +kernel⟩ ?hw ?hc
 case hw=>w_witness2
 intro w s₀ s₁ mg mb G Y fa o pm cd doc dV kV ho hd hcd hD hmg hg args vals as hpre hlay hrd hwl hlo
 have hm:mg (Str.ofString "law")=some (.ref fa):=hmg
 clear ho hd hcd hD Y hmg
 have T:=G.T
 wrow_args hpre hlay hrd hwl hlo
 rename_i hI hr h63 ht
 refine enter_call ?_
 exact Mine.finish (n:=8) hm hg (by decide) (by assumption) hI (fun _=>rfl) (Mine.post_true _ _) (Mine.main09 G (by (first|lia|omega)))
