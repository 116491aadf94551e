import Derived.Test.YthfhocgpjjkjlaaGreatDoorZf
import Derived.Test.YthfhocgpjjkjlaaGreatDoorAb
import Derived.Conc.WgGenN3
import Derived.Test.YthfhocgpjjkjlaaGreatDoorChecked
set_option maxRecDepth 100000
set_option maxHeartbeats 4000000
set_option linter.all false
noncomputable section
open Go renaming World->Cl,undef->D,World->H,execOp->Hn,Frame->Kf,Oper->Kp,TypeId->Lk,stepG->Lq,bits->Lw,Value->M,Program->Ps,Goroutine->QP,yielded->aw,FuncId->ba,deafBehind->bc
open Go.Proofs.Tryz renaming prog->F
open Option renaming none->I,some->Y
namespace Go.Co
open Go.Conc Go.RowKit Go.Conc.Lib Go.ConcR.Gen
section
open Go.ConcN (upd upd_same upd_ne)
variable{g:QP}{w:H}{Wg i:Nat}{s:Prop}{ops:Array Kp}{rest:List Nat}{o:Kp}
section
variable{P:Ps}{post:M->H->Prop}{i:Nat}{ty:Lk}{Wg:Nat}{F:Gh->H->Prop}
def SW.goes(S:yw i ty Wg F)(h:∀w,Cs ty Wg w->(Lq P (i==0) g w).goes λg' w' es=>(w'=w/\∀e∈es,False)/\g'.status=.running/\core g'=g'/\SW P post i F g'):SW P post i F g:=by
 intro J w hF;refine sZ.own λ(σ1:Gh) bj t hrel (d:FI σ1 bj t)=>?_;have n:=hrel.2 (S.live J w hF).1;have b:=S.rely _ _ _ _ hF n;obtain⟨o,p,q⟩:=S.YP _ _ b;have hl:Cs ty Wg bj:=by rw[<- p,<- q];exact d.TC o
 have a:=h bj hl
 cases c:Lq P (i==0) g bj with
 | go x w' es=>
  rw[c]at a;obtain⟨⟨rfl,l⟩,f,k,next⟩:=a;have m:es= #[]:=Array.eq_empty_iff_forall_not_mem.2 l;subst m;refine⟨x,w', #[],σ1,c,.inl f,rfl,?_,λj r _=>ua.refl j σ1 w',⟨λ_ _ h=>.inl h,.inl,λ_ _=>il⟩,.inl ⟨f,λhi=>(S.live _ _ b).2 hi,?_⟩⟩
  .show FI σ1 w' (t++#[]);rw[Array.append_empty];exact d
  .rw[k];exact next _ _ b
 | _=>rw[c]at a;exact a.elim
def Cs.cell0(h:Cs ty Wg w):∃v,w (Wg,0)=Y v:=let⟨_,_,x⟩:=h;⟨_,Go.ConcR.WgAt.cellSt (ty:=ty) x⟩
def Cs.cell1(h:Cs ty Wg w):∃v,w (Wg,1)=Y v:=let⟨_,_,x⟩:=h;⟨_,Go.ConcR.WgAt.cellSm (ty:=ty) x⟩
end
def BW:∀e∈ #[jd .disable],jE Wg s e:=λe a=>by obtain rfl:e=jd .disable:=(by simpa using a);exact .inr (.inr (.inl rfl))
def uo:∀e∈ #[jd .disable],(MemAct.ofEvent e).touch?=I:=λe a=>by obtain rfl:e=jd .disable:=(by simpa using a);rfl
def BX:∀e∈ #[jd .enable],jE Wg s e:=λe a=>by obtain rfl:e=jd .enable:=(by simpa using a);exact .inr (.inr (.inr (.inl rfl)))
def Hx(d:Nat):bc d #[jd .disable]=d+1:=by simp[bc,jd]
def Jw(d:Nat):bc d #[jd .enable]=d-1:=by simp[bc,jd]
def QE(P:Ps)(d:Nat)(g:QP):Prop:=∃q,QuitsD P q d g
section
variable{P:Ps}{b:Kf}{a:Act}{k:List Item}{cs:List Kf}{d:Nat}
def QE.ctl{g g':QP}(b:g.status=.running)(h:∀w,Lq P false g w=.go g' w)(a:QE P d g'):QE P d g:=let⟨_,x⟩:=a;⟨_,QuitsD.ctl b h x⟩
def QE.value(v:M)(e:ops[i]?=Y o)(h:Region.wanted o (aw ops a.tmps)=true)(hk:b.kind≠.early)
  (g:∀w,(Hn a.eval o).run P w=.ok (.value v) w)(c:∀w,(Hn a.eval o).events P w #[]= #[])
  (f:QE P d (G (b.at (a.put o.dst v) (.inRegion ops rest::k)) cs)):QE P d (G (b.at a (.inRegion ops (i::rest)::k)) cs):=let⟨_,x⟩:=f;⟨_,QuitsD.value v e h hk g c x⟩
def QE.unwanted(c:ops[i]?=Y o)(f:Region.wanted o (aw ops a.tmps)=false)
  (e:QE P d (G (b.at (a.put o.dst D) (.inRegion ops rest::k)) cs)):QE P d (G (b.at a (.inRegion ops (i::rest)::k)) cs):=let⟨_,x⟩:=e;⟨_,QuitsD.unwanted c f x⟩
variable{fn:Func}{todo:List Item}{ds:List Deferred}{f:ba}
def QE.unwind_mark(e:a.defers=dcall f #[]::ds)
  (h:P.funcs[f]?=Y fn)(j:(fn.name == "runtime.NumGoroutine")=false)(c:fn.body.isNone=true)(i:Extern.findNext fn=I)
  (g:Extern.find fn=Y (λ_=>do mark .enable;pure Extern.Race.none_))
  (k:QE P (bc d #[⟨.mark .enable,false,true⟩]) (G {b.at ⟨a.tmps,ds⟩ todo with mode:=.returning} cs)):QE P d (G {b.at a todo with mode:=.returning} cs):=let⟨_,x⟩:=k;⟨_,QuitsD.unwind_mark .enable rfl ss e h j c i g x⟩
variable{b0:Kf}{a0:Act}{ops:Array Kp}{i:Nat}{rest:List Nat}
def QE.leave0(f:b.kind=.normal)(c:a.defers=[])(e:P.funcs[b.fn]?=Y fn)(h:fn.results= #[])
  (g:QE P d (G (b0.at (a0.put ((ops[i]?).bind (·.dst)) (.tuple #[])) (.inRegion ops rest::k)) cs)):
  QE P d (G {b.at a todo with mode:=.returning} (b0.at a0 (.inRegion ops (i::rest)::k)::cs)):=let⟨_,x⟩:=g;⟨_,QuitsD.leave0 f c e h x⟩
def QE.leave1{t:Tmp}(f:b.kind=.normal)(c:a.defers=[])(e:P.funcs[b.fn]?=Y fn)(h:fn.results= #[.tmp t])
  (g:QE P d (G (b0.at (a0.put ((ops[i]?).bind (·.dst)) (a.tmps.getD t D)) (.inRegion ops rest::k)) cs)):
  QE P d (G {b.at a todo with mode:=.returning} (b0.at a0 (.inRegion ops (i::rest)::k)::cs)):=let⟨_,x⟩:=g;⟨_,QuitsD.leave1 f c e h x⟩
def QE.leaveD{c:Kf}(h:b.kind=.deferred)(f:a.defers=[])(g:P.funcs[b.fn]?=Y fn)(j:fn.results= #[])(e:c.mode=.returning)
  (i:QE P d (G c cs)):QE P d (G {b.at a todo with mode:=.returning} (c::cs)):=let⟨_,x⟩:=i;⟨_,QuitsD.leaveD h f g j e x⟩
end
end
section
open Go.ConcN (upd upd_same upd_ne)
section
variable{P:Ps}{post:M->H->Prop}{i:Nat}{L:WgLink}{σ0:Gh}{w0:H}
attribute [local irreducible] Go.stepG
theorem S5(H:WgLib P L)(hi:0<i)(g:σ0.md=.clash)(A:σ0.ty=L.tWg)(x:σ0.snt i){pt:Pt}(s:pt.st=.run)(u:pt.df=0){b0:Kf}{a0:Act}{fj:Array Kp}{i0:Nat}{fh:List Nat}{k0:List Item}{cs:List Kf}
  (j:QE P 0 (G (b0.at (a0.put ((fj[i0]?).bind (·.dst)) (.tuple #[])) (.inRegion fj fh::k0)) cs)):
  SW P post i (gO i σ0 w0 pt) (G ((base L.add).at ⟨#[.pointer (Y ⟨σ0.Wg,0,I⟩),.int .i64 (-1)]++Array.replicate 115 D,[]⟩ [.code (body_add L)]) (b0.at a0 (.inRegion fj (i0::fh)::k0)::cs)):=by
 lib_facts;have Sb:∀pt,yw i σ0.ty σ0.Wg (gO i σ0 w0 pt):=λpt=>gO.rQ w0 g pt;simp only[body_add,addFn,zQ,zR];refine sg ?_
 (refine SW.goes (Sb _) (λb a=>?_);refine goes_oper_k rfl rfl knn (λKx hKx=>?_);obtain⟨y,hcx⟩:=Cs.cell0 a;have t:=run_convert_to_unsafe H.underlying_tWgP H.underlying_tUP H.room_tWg hcx;have hce:=λes=>events_convert_to_unsafe H.underlying_tWgP H.underlying_tUP H.room_tWg hcx es;go_simp;refine hKx _ _ ⟨⟨rfl,?_⟩,rfl,rfl,?_⟩;(· (intro z hex;have hmx:=mem_listed hex;simp[go_sem,hce]at hmx));clear hKx Kx t hce hcx y a b)
 refine SW.release hi g x s u (λw hl=>stepG_markAt .releaseMerge ss rfl rfl knn rfl H.f_relMerge (x_relMerge_n L) (x_relMerge_b L) (x_relMerge_x L) (x_relMerge_f L) (by simp[Act.eval,jX])) ?_;walk_nrm;refine sg ?_;refine SW.cD g (es:= #[jd .disable]) BW (.inr (.inr (.inr uo))) (λw hl=>stepG_mark0 .disable ss rfl rfl knn rfl H.f_disable (x_disable_n L) (x_disable_b L) (x_disable_x L) (x_disable_f L)) ?_;simp only[Hx,kx];walk_nrm;refine SW.ctl (Sb _) (λ_=>stepG_region_end) ?_
 (refine SW.ctl (Sb _) (λ_=>stepG_region) ?_;simp only[List.size_toArray,ed,lA,Nat.reduceAdd,kx,List.range,List.range.loop])
 (refine SW.ctl (Sb _) (λ_=>stepG_defer rfl rfl knn rfl) ?_;walk_nrm)
 refine sg ?_
 (refine SW.ctl (Sb _) (λ_=>stepG_entry_pure (.bool false) rfl rfl knn rfl H.f_inBubble (x_inBubble_n L) (x_inBubble_b L) (x_inBubble_x L) (x_inBubble_f L)) ?_;walk_nrm)
 refine sg ?_
 (refine SW.goes (Sb _) (λb a=>?_);refine goes_call rfl rfl knn rfl H.f_uAdd (nm_uAdd L) rfl ⟨⟨rfl,by simp⟩,rfl,rfl,?_⟩;clear a b;walk_nrmf uAddFn)
 refine sg ?_;refine SW.sub hi g rfl rfl Nat.one_pos λw v d m r c=>?_;have k:Go.ConcR.WgAt σ0.ty σ0.Wg w (((v:Int)+1)*4294967296+(d:Int)) 0:=c;obtain⟨S,f⟩:∃S:Int,S=(v:Int)*4294967296+(d:Int):=⟨_,rfl⟩;have l:IntKind.u64.wrap (((v:Int)+1)*4294967296+(d:Int)+18446744069414584320)=S:=by rw[IntKind.wrap_u64];omega
 have o:S/4294967296=(v:Int):=zz;have p:0<=S/\S<9223372036854775808:=zz;have q:Lw .and .u64 S 2147483648=0:=by rw[f];exact Go.ConcN.st_flag v d zz m
 have h:Lw .and .u64 S 2147483647=(d:Int):=by rw[f];exact Go.ConcN.st_waiters v d zz m
 rw[<- f];refine⟨?fr,?cs,Eq.tn (stepG_add_atomic (w:=w) (v:=((v:Int)+1)*4294967296+(d:Int)) rfl rfl knn rfl H.f_addU64 (x_addU64_n L) (x_addU64_b L) (x_addU64_x L) .u64 (x_addU64_f L) rfl rfl k.cellSt (k.thaw 0)) ?e,λhl=>?_,λhl=>?_⟩
 case e=>rw[l];rfl
 .obtain⟨rfl,rfl⟩:=hl;have e0:S=1:=zz;clear f o p q h r c k l m;subst e0;walk_nrm;refine sg ?_
  (refine SW.goes (Sb _) (λb a=>?_);refine goes_leave1 rfl rfl H.f_uAdd rfl ⟨⟨rfl,by simp⟩,rfl,rfl,?_⟩;clear a b;walk_nrm)
  refine sg ?_
  (refine SW.goes (Sb _) (λb a=>?_);refine goes_call rfl rfl knn rfl H.f_uLoad (nm_uLoad L) rfl ⟨⟨rfl,by simp⟩,rfl,rfl,?_⟩;clear a b;walk_nrmf uLoadFn)
  refine sg ?_;refine SW.OQ g rfl Nat.one_pos (λw c=>stepG_load_atomic (v:=1) rfl rfl knn rfl H.f_loadU64 (x_loadU64_n L) (x_loadU64_b L) (x_loadU64_x L) .u64 (x_loadU64_f L) rfl (Go.ConcR.WgAt.cellSt (ty:=σ0.ty) c)) ?_;walk_nrm;refine sg ?_
  (refine SW.goes (Sb _) (λb a=>?_);refine goes_leave1 rfl rfl H.f_uLoad rfl ⟨⟨rfl,by simp⟩,rfl,rfl,?_⟩;clear a b;walk_nrm)
  refine sg ?_
  (refine SW.goes (Sb _) (λb a=>?_);refine goes_call rfl rfl knn rfl H.f_uStore (nm_uStore L) rfl ⟨⟨rfl,by simp⟩,rfl,rfl,?_⟩;clear a b;walk_nrmf uStoreFn)
  refine sg ?_;refine SW.WR hi g rfl rfl rfl Nat.one_pos (λw c=>stepG_store_atomic rfl rfl knn rfl H.f_storeU64 (x_storeU64_n L) (x_storeU64_b L) (x_storeU64_x L) (x_storeU64_f L) rfl rfl (Go.ConcR.WgAt.cellSt (ty:=σ0.ty) c) (Go.ConcR.WgAt.thaw (ty:=σ0.ty) c 0)) ?_;walk_nrm;refine sg ?_
  (refine SW.goes (Sb _) (λb a=>?_);refine goes_leave0 rfl rfl H.f_uStore rfl ⟨⟨rfl,by simp⟩,rfl,rfl,?_⟩;clear a b;walk_nrm)
  refine sg ?_;refine SW.ctl (Sb _) (λ_=>stepG_block) ?_;refine SW.ctl (Sb _) (λ_=>stepG_loop) ?_;refine sg ?_;refine SW.ctl (Sb _) (λ_=>stepG_block) ?_;refine sg ?_;refine SW.aa8 hi g rfl rfl Nat.one_pos (mayWake_entry rfl rfl H.f_semrelease (x_semrelease_b L)) (λw c=>(stepG_semrelease (n:=0) rfl rfl knn rfl H.f_semrelease (x_semrelease_n L) (x_semrelease_b L) (x_semrelease_x L) (x_semrelease_f L) (by simp[Act.eval,wG];rfl) (Go.ConcR.WgAt.cellSm (ty:=σ0.ty) c) (Go.ConcR.WgAt.thaw (ty:=σ0.ty) c 1)).tn (by rfl)) ?_;show QE P 1 _;walk_nrm;refine xg ?_;refine QE.ctl rfl (λ_=>stepG_inBlock) ?_;refine xg ?_
  (refine QE.value (.int .u32 1) rfl rfl knn kv kww ?_;walk_nrm)
  (refine QE.value (.int .u32 0) rfl rfl knn kv kww ?_;walk_nrm)
  (refine QE.value (.int .u32 0) rfl rfl knn kv kww ?_;walk_nrm)
  refine xg ?_;refine QE.ctl rfl (λ_=>stepG_inLoop) ?_;refine xg ?_
  (refine QE.value (.int .u32 0) rfl rfl knn kv kww ?_;walk_nrm)
  (refine QE.value (.bool false) rfl rfl knn kv kww ?_;walk_nrm)
  refine xg ?_;refine QE.ctl rfl (λ_=>stepG_exit rfl) ?_;refine xg ?_
  (refine QE.unwind_mark rfl H.f_enable (x_enable_n L) (x_enable_b L) (x_enable_x L) (x_enable_f L) ?_;simp only[deafBehind_enable1])
  (refine QE.leave0 rfl rfl H.f_add rfl ?_;walk_nrm)
  exact j
 .show QE P _ _;walk_nrm;clear c k l;rcases ln v with rfl|B<;>(obtain rfl|rfl:d=0\/d=1:=zz)
  .have e0:S=0:=zz;clear f o p q h r hl;subst e0
   (refine QE.value (.int .u64 0) rfl rfl knn kv kww ?_;walk_nrm)
   refine xg ?_
   (refine QE.leave1 rfl rfl H.f_uAdd rfl ?_;walk_nrm)
   (refine QE.value (.int .u64 0) rfl rfl knn kv kww ?_;walk_nrm)
   refine xg ?_
   (refine QE.value (.int .u64 0) rfl rfl knn kv kww ?_;walk_nrm)
   (refine QE.value (.int .u64 0) rfl rfl knn kv kww ?_;walk_nrm)
   (refine QE.value (.bool false) rfl rfl knn kv kww ?_;walk_nrm)
   (refine QE.value (.bool false) rfl rfl knn kv kww ?_;walk_nrm)
   refine xg ?_
   (refine QE.value (.bool false) rfl rfl knn kv kww ?_;walk_nrm)
   refine xg ?_
   (refine QE.value (.int .u64 0) rfl rfl knn kv kww ?_;walk_nrm)
   (refine QE.value (.int .u64 0) rfl rfl knn kv kww ?_;walk_nrm)
   (refine QE.value (.int .i32 0) rfl rfl knn kv kww ?_;walk_nrm)
   (refine QE.value (.int .i32 0) rfl rfl knn kv kww ?_;walk_nrm)
   refine xg ?_
   (refine QE.value (.int .u64 0) rfl rfl knn kv kww ?_;walk_nrm)
   (refine QE.value (.int .u64 0) rfl rfl knn kv kww ?_;walk_nrm)
   (refine QE.value (.int .u32 0) rfl rfl knn kv kww ?_;walk_nrm)
   (refine QE.value (.int .u32 0) rfl rfl knn kv kww ?_;walk_nrm)
   refine xg ?_
   (refine QE.value (.bool true) rfl rfl knn kv kww ?_;walk_nrm)
   (refine QE.value (.int .i64 (-1)) rfl rfl knn kv kww ?_;walk_nrm)
   (refine QE.value (.bool false) rfl rfl knn kv kww ?_;walk_nrm)
   (refine QE.value (.bool false) rfl rfl knn kv kww ?_;walk_nrm)
   (refine QE.value (.bool false) rfl rfl knn kv kww ?_;walk_nrm)
   refine xg ?_
   (refine QE.value (.bool false) rfl rfl knn kv kww ?_;walk_nrm)
   refine xg ?_
   (refine QE.value (.int .i32 0) rfl rfl knn kv kww ?_;walk_nrm)
   (refine QE.value (.bool false) rfl rfl knn kv kww ?_;walk_nrm)
   refine xg ?_
   (refine QE.value (.int .u32 0) rfl rfl knn kv kww ?_;walk_nrm)
   (refine QE.value (.bool false) rfl rfl knn kv kww ?_;walk_nrm)
   (refine QE.value (.bool false) rfl rfl knn kv kww ?_;walk_nrm)
   refine xg ?_
   (refine QE.value (.bool false) rfl rfl knn kv kww ?_;walk_nrm)
   (refine QE.value (.bool false) rfl rfl knn kv kww ?_;walk_nrm)
   refine xg ?_
   (refine QE.value (.bool false) rfl rfl knn kv kww ?_;walk_nrm)
   refine xg ?_
   (refine QE.value (.int .i32 0) rfl rfl knn kv kww ?_;walk_nrm)
   (refine QE.value (.bool false) rfl rfl knn kv kww ?_;walk_nrm)
   (refine QE.value (.bool false) rfl rfl knn kv kww ?_;walk_nrm)
   (refine QE.value (.int .u32 0) rfl rfl knn kv kww ?_;walk_nrm)
   (refine QE.value (.bool true) rfl rfl knn kv kww ?_;walk_nrm)
   (refine QE.value (.bool true) rfl rfl knn kv kww ?_;walk_nrm)
   refine xg ?_
   (refine QE.unwind_mark rfl H.f_enable (x_enable_n L) (x_enable_b L) (x_enable_x L) (x_enable_f L) ?_;simp only[deafBehind_enable1])
   (refine QE.leave0 rfl rfl H.f_add rfl ?_;walk_nrm)
   exact j
  .exact mi ⟨rfl,rfl⟩ hl
  .clear f hl;simp only[Int.natCast_zero]at h
   (refine QE.value (.int .u64 S) rfl rfl knn kv kww ?_;walk_nrm)
   refine xg ?_
   (refine QE.leave1 rfl rfl H.f_uAdd rfl ?_;walk_nrm)
   (refine QE.value (.int .u64 S) rfl rfl knn kv kww ?_;walk_nrm)
   refine xg ?_
   (refine QE.value (.int .u64 S) rfl rfl knn kv kww ?_;walk_nrm)
   (refine QE.value (.int .u64 0) rfl rfl knn kv kww ?_;walk_nrm)
   (refine QE.value (.bool false) rfl rfl knn kv kww ?_;walk_nrm)
   (refine QE.value (.bool false) rfl rfl knn kv kww ?_;walk_nrm)
   refine xg ?_
   (refine QE.value (.bool false) rfl rfl knn kv kww ?_;walk_nrm)
   refine xg ?_
   (refine QE.value (.int .u64 S) rfl rfl knn kv kww ?_;walk_nrm)
   (refine QE.value (.int .u64 (v:Int)) rfl rfl knn kv kww ?_;walk_nrm)
   (refine QE.value (.int .i32 (v:Int)) rfl rfl knn kv kww ?_;walk_nrm)
   (refine QE.value (.int .i32 (v:Int)) rfl rfl knn kv kww ?_;walk_nrm)
   refine xg ?_
   (refine QE.value (.int .u64 S) rfl rfl knn kv kww ?_;walk_nrm)
   (refine QE.value (.int .u64 0) rfl rfl knn kv kww ?_;walk_nrm)
   (refine QE.value (.int .u32 0) rfl rfl knn kv kww ?_;walk_nrm)
   (refine QE.value (.int .u32 0) rfl rfl knn kv kww ?_;walk_nrm)
   refine xg ?_
   (refine QE.value (.bool true) rfl rfl knn kv kww ?_;walk_nrm)
   (refine QE.value (.int .i64 (-1)) rfl rfl knn kv kww ?_;walk_nrm)
   (refine QE.value (.bool false) rfl rfl knn kv kww ?_;walk_nrm)
   (refine QE.value (.bool false) rfl rfl knn kv kww ?_;walk_nrm)
   (refine QE.value (.bool false) rfl rfl knn kv kww ?_;walk_nrm)
   refine xg ?_
   (refine QE.value (.bool false) rfl rfl knn kv kww ?_;walk_nrm)
   refine xg ?_
   (refine QE.value (.int .i32 (v:Int)) rfl rfl knn kv kww ?_;walk_nrm)
   (refine QE.value (.bool false) rfl rfl knn kv kww ?_;walk_nrm)
   refine xg ?_
   (refine QE.value (.int .u32 0) rfl rfl knn kv kww ?_;walk_nrm)
   (refine QE.value (.bool false) rfl rfl knn kv kww ?_;walk_nrm)
   (refine QE.value (.bool false) rfl rfl knn kv kww ?_;walk_nrm)
   refine xg ?_
   (refine QE.value (.bool false) rfl rfl knn kv kww ?_;walk_nrm)
   (refine QE.value (.bool false) rfl rfl knn kv kww ?_;walk_nrm)
   refine xg ?_
   (refine QE.value (.bool false) rfl rfl knn kv kww ?_;walk_nrm)
   refine xg ?_
   (refine QE.value (.int .i32 (v:Int)) rfl rfl knn kv kww ?_;walk_nrm)
   (refine QE.value (.bool true) rfl rfl knn kv kww ?_;walk_nrm)
   (refine QE.value (.bool true) rfl rfl knn kv kww ?_;walk_nrm)
   refine xg ?_
   (refine QE.value (.bool true) rfl rfl knn kv kww ?_;walk_nrm)
   refine xg ?_
   (refine QE.unwind_mark rfl H.f_enable (x_enable_n L) (x_enable_b L) (x_enable_x L) (x_enable_f L) ?_;simp only[deafBehind_enable1])
   (refine QE.leave0 rfl rfl H.f_add rfl ?_;walk_nrm)
   exact j
  .clear f hl;simp only[Int.natCast_one]at h
   (refine QE.value (.int .u64 S) rfl rfl knn kv kww ?_;walk_nrm)
   refine xg ?_
   (refine QE.leave1 rfl rfl H.f_uAdd rfl ?_;walk_nrm)
   (refine QE.value (.int .u64 S) rfl rfl knn kv kww ?_;walk_nrm)
   refine xg ?_
   (refine QE.value (.int .u64 S) rfl rfl knn kv kww ?_;walk_nrm)
   (refine QE.value (.int .u64 0) rfl rfl knn kv kww ?_;walk_nrm)
   (refine QE.value (.bool false) rfl rfl knn kv kww ?_;walk_nrm)
   (refine QE.value (.bool false) rfl rfl knn kv kww ?_;walk_nrm)
   refine xg ?_
   (refine QE.value (.bool false) rfl rfl knn kv kww ?_;walk_nrm)
   refine xg ?_
   (refine QE.value (.int .u64 S) rfl rfl knn kv kww ?_;walk_nrm)
   (refine QE.value (.int .u64 (v:Int)) rfl rfl knn kv kww ?_;walk_nrm)
   (refine QE.value (.int .i32 (v:Int)) rfl rfl knn kv kww ?_;walk_nrm)
   (refine QE.value (.int .i32 (v:Int)) rfl rfl knn kv kww ?_;walk_nrm)
   refine xg ?_
   (refine QE.value (.int .u64 S) rfl rfl knn kv kww ?_;walk_nrm)
   (refine QE.value (.int .u64 1) rfl rfl knn kv kww ?_;walk_nrm)
   (refine QE.value (.int .u32 1) rfl rfl knn kv kww ?_;walk_nrm)
   (refine QE.value (.int .u32 1) rfl rfl knn kv kww ?_;walk_nrm)
   refine xg ?_
   (refine QE.value (.bool true) rfl rfl knn kv kww ?_;walk_nrm)
   (refine QE.value (.int .i64 (-1)) rfl rfl knn kv kww ?_;walk_nrm)
   (refine QE.value (.bool false) rfl rfl knn kv kww ?_;walk_nrm)
   (refine QE.value (.bool false) rfl rfl knn kv kww ?_;walk_nrm)
   (refine QE.value (.bool false) rfl rfl knn kv kww ?_;walk_nrm)
   refine xg ?_
   (refine QE.value (.bool false) rfl rfl knn kv kww ?_;walk_nrm)
   refine xg ?_
   (refine QE.value (.int .i32 (v:Int)) rfl rfl knn kv kww ?_;walk_nrm)
   (refine QE.value (.bool false) rfl rfl knn kv kww ?_;walk_nrm)
   refine xg ?_
   (refine QE.value (.int .u32 1) rfl rfl knn kv kww ?_;walk_nrm)
   (refine QE.value (.bool true) rfl rfl knn kv kww ?_;walk_nrm)
   (refine QE.value (.bool true) rfl rfl knn kv kww ?_;walk_nrm)
   (refine QE.value (.int .i64 (-1)) rfl rfl knn kv kww ?_;walk_nrm)
   (refine QE.value (.bool false) rfl rfl knn kv kww ?_;walk_nrm)
   (refine QE.value (.bool false) rfl rfl knn kv kww ?_;walk_nrm)
   (refine QE.value (.bool false) rfl rfl knn kv kww ?_;walk_nrm)
   refine xg ?_
   (refine QE.value (.bool false) rfl rfl knn kv kww ?_;walk_nrm)
   refine xg ?_
   (refine QE.value (.int .i32 (v:Int)) rfl rfl knn kv kww ?_;walk_nrm)
   (refine QE.value (.bool true) rfl rfl knn kv kww ?_;walk_nrm)
   (refine QE.value (.bool true) rfl rfl knn kv kww ?_;walk_nrm)
   refine xg ?_
   (refine QE.value (.bool true) rfl rfl knn kv kww ?_;walk_nrm)
   refine xg ?_
   (refine QE.unwind_mark rfl H.f_enable (x_enable_n L) (x_enable_b L) (x_enable_x L) (x_enable_f L) ?_;simp only[deafBehind_enable1])
   (refine QE.leave0 rfl rfl H.f_add rfl ?_;walk_nrm)
   exact j
end
end
section
variable{P:Ps}{post:M->H->Prop}{i:Nat}{L:WgLink}{σ0:Gh}{w0:H}
attribute [local irreducible] Go.stepG
def Zw(H:WgLib P L)(hi:0<i)(d:σ0.md=.clash)(k:σ0.ty=L.tWg)(j:σ0.snt i){pt:Pt}(e:pt.st=.run)(g:pt.df=0){c:Kf}{cs:List Kf}(f:c.mode=.returning)(a:QE P 0 (G c cs)):
  SW P post i (gO i σ0 w0 pt) (G ((baseD L.done).at ⟨#[.pointer (Y (σ0.Wg,0)),D,D,D],[]⟩ [.code (body_done L)]) (c::cs)):=by
 lib_facts;have Sb:∀pt,yw i σ0.ty σ0.Wg (gO i σ0 w0 pt):=λpt=>gO.rQ w0 d pt;have b:=λ{b0 a0 fj i0 fh k0 cs} a=>@S5 P post i L σ0 w0 H hi d k j pt e g b0 a0 fj i0 fh k0 cs a;simp only[body_done,body_add,doneFn,addFn,zQ,zR]at b|-;refine sg ?_
 (refine SW.goes (Sb _) (λl h=>?_);refine goes_call rfl rfl knn rfl H.f_add (nm_add L) rfl ⟨⟨rfl,by simp⟩,rfl,rfl,?_⟩;clear h l;walk_nrmf addFn)
 refine b ?_;walk_nrm;refine xg ?_;exact QE.leaveD rfl rfl H.f_done rfl f a
end
open Go.Proofs
abbrev link:Go.Conc.Lib.WgLink:= {add:=67,done:=69,wait:=71,relMerge:=91,disable:=92,enable:=93,inBubble:=94,associate:=95,fatal:=96,uOr:=97,uAdd:=98,raceRead:=99,uLoad:=100,uStore:=101,disassociate:=102,semrelease:=103,acquire:=104,isAssociated:=105,uCas:=106,raceWrite:=107,semacquire:=108,orU64:=123,addU64:=124,loadU64:=125,storeU64:=126,casU64:=127,tWgP:=159,tUP:=161,tAssoc:=162,tWg:=135,tAU:=132,tU64:=130,tUint:=154,tU32:=133,tPU32:=166,tPAU:=187,tPU64:=189,tNoCopy:=127,tANoCopy:=128,tAlign64:=129}
def Pr:Go.Conc.Lib.WgLib F link:=
 ⟨Tryz.func67,Tryz.func69,Tryz.func71,Tryz.func91,Tryz.func92,Tryz.func93,Tryz.func94,Tryz.func95,Tryz.func96,Tryz.func97,Tryz.func98,Tryz.func99,Tryz.func100,Tryz.func101,Tryz.func102,Tryz.func103,Tryz.func104,Tryz.func105,Tryz.func106,Tryz.func107,Tryz.func108,Tryz.func123,Tryz.func124,Tryz.func125,Tryz.func126,Tryz.func127,Tryz.underlying159,Tryz.runUnderlying159,Tryz.sizeOf159,Tryz.isAgg159,Tryz.zeroValue159,Tryz.underlying161,Tryz.runUnderlying161,Tryz.sizeOf161,Tryz.isAgg161,Tryz.zeroValue161,Tryz.underlying162,Tryz.runUnderlying162,Tryz.sizeOf162,Tryz.isAgg162,Tryz.zeroValue162,Tryz.underlying135,Tryz.runUnderlying135,Tryz.sizeOf135,Tryz.isAgg135,Tryz.zeroValue135,Tryz.underlying132,Tryz.runUnderlying132,Tryz.sizeOf132,Tryz.isAgg132,Tryz.zeroValue132,Tryz.underlying130,Tryz.runUnderlying130,Tryz.sizeOf130,Tryz.isAgg130,Tryz.zeroValue130,Tryz.underlying154,Tryz.runUnderlying154,Tryz.sizeOf154,Tryz.isAgg154,Tryz.zeroValue154,Tryz.underlying133,Tryz.runUnderlying133,Tryz.sizeOf133,Tryz.isAgg133,Tryz.zeroValue133,Tryz.underlying166,Tryz.runUnderlying166,Tryz.sizeOf166,Tryz.isAgg166,Tryz.zeroValue166,Tryz.underlying187,Tryz.runUnderlying187,Tryz.sizeOf187,Tryz.isAgg187,Tryz.zeroValue187,Tryz.underlying189,Tryz.runUnderlying189,Tryz.sizeOf189,Tryz.isAgg189,Tryz.zeroValue189,Tryz.underlying0,Tryz.runUnderlying0,Tryz.sizeOf0,Tryz.isAgg0,Tryz.zeroValue0,Tryz.underlying3,Tryz.runUnderlying3,Tryz.sizeOf3,Tryz.isAgg3,Tryz.zeroValue3,Tryz.underlying4,Tryz.runUnderlying4,Tryz.sizeOf4,Tryz.isAgg4,Tryz.zeroValue4,Tryz.underlying9,Tryz.runUnderlying9,Tryz.sizeOf9,Tryz.isAgg9,Tryz.zeroValue9,Tryz.underlying20,Tryz.runUnderlying20,Tryz.sizeOf20,Tryz.isAgg20,Tryz.zeroValue20,Tryz.underlying21,Tryz.runUnderlying21,Tryz.sizeOf21,Tryz.isAgg21,Tryz.zeroValue21,kr,kr⟩
section
open Go.ConcN (upd upd_same upd_ne)
variable{Wg:Nat}{b:Kf}{a:Act}{cs:List Kf}
section
variable{P:Ps}{post:M->H->Prop}{L:WgLink}{σ0:Gh}{w0:H}
def Pu{s:Prop}(h:s):∀e∈ #[jd (.read (wG Wg))],jE Wg s e:=λe a=>by obtain rfl:e=jd (.read (wG Wg)):=(by simpa using a);exact .inr (.inl ⟨_,rfl,h,.inl rfl⟩)
def S6(d:Nat)(a:Addr):bc d #[jd (.read a)]=d:=by simp[bc,jd]
def sC(H:WgLib P L){main:Bool}{todo:List Item}{ds:List Deferred}(d:a.defers=dcall L.enable #[]::ds)(w:Cl):
  Lq P main (G {b.at a todo with mode:=.returning} cs) w=.go (G {b.at ⟨a.tmps,ds⟩ todo with mode:=.returning} cs) w #[jd .enable]:=
 stepG_unwind_entry (v:=.tuple #[]) d H.f_enable (x_enable_n L) (x_enable_b L) (x_enable_x L) (x_enable_f L) (by simp[Extern.Race.none_]) (by simp[jd]) (by
  intro x c;simp at c;subst c;exact⟨rfl,λg h=>by cases h⟩)
def SW.value{i:Nat}{ty:Lk}{F:Gh->H->Prop}(S:yw i ty Wg F){k:List Item}{ops:Array Kp}{j:Nat}{rest:List Nat}{o:Kp}(v:M)(d:ops[j]?=Y o)(f:Region.wanted o (aw ops a.tmps)=true)(hk:b.kind≠.early)
  (e:∀w,(Hn a.eval o).run P w=.ok (.value v) w)(c:∀w,(Hn a.eval o).events P w #[]= #[])(next:SW P post i F (G (b.at (a.put o.dst v) (.inRegion ops rest::k)) cs)):SW P post i F (G (b.at a (.inRegion ops (j::rest)::k)) cs):=
 SW.ctl S (λw=>by rw[stepG_value d f hk (e w)];unfold listed;rw[c w,seen_none]) next
attribute [local irreducible] Go.stepG
theorem S7(H:WgLib P L)(c:σ0.md=.clash)(t:σ0.ty=L.tWg)(k:σ0.num<σ0.base+1999999990)(l:σ0.cD 0){kn:Kn}{b0:Kf}{a0:Act}{fj:Array Kp}{i0:Nat}{fh:List Nat}{k0:List Item}
  (h:SW P post 0 (gO 0 σ0 w0 {st:=.quit,kn:=kn,df:=0,pend:=1}) (G (b0.at (a0.put ((fj[i0]?).bind (·.dst)) (.tuple #[])) (.inRegion fj fh::k0)) cs)):
  SW P post 0 (gO 0 σ0 w0 {st:=.quit,kn:=kn,df:=0,pend:=0}) (G ((base L.add).at ⟨#[.pointer (Y (σ0.Wg,0)),.int .i64 1]++Array.replicate 115 D,[]⟩ [.code (body_add L)]) (b0.at a0 (.inRegion fj (i0::fh)::k0)::cs)):=by
 lib_facts;have Sb:∀pt,yw 0 σ0.ty σ0.Wg (gO 0 σ0 w0 pt):=λpt=>gO.rQ w0 c pt;simp only[body_add,addFn,zQ,zR];refine sg ?_;refine SW.cD c (es:= #[jd .disable]) BW (.inl rfl) (λw hl=>stepG_mark0 .disable ss rfl rfl knn rfl H.f_disable (x_disable_n L) (x_disable_b L) (x_disable_x L) (x_disable_f L)) ?_;simp only[Hx,kx];walk_nrm;refine SW.ctl (Sb _) (λ_=>stepG_region_end) ?_
 (refine SW.ctl (Sb _) (λ_=>stepG_region) ?_;simp only[List.size_toArray,ed,lA,Nat.reduceAdd,kx,List.range,List.range.loop])
 (refine SW.ctl (Sb _) (λ_=>stepG_defer rfl rfl knn rfl) ?_;walk_nrm)
 refine sg ?_
 (refine SW.ctl (Sb _) (λ_=>stepG_entry_pure (.bool false) rfl rfl knn rfl H.f_inBubble (x_inBubble_n L) (x_inBubble_b L) (x_inBubble_x L) (x_inBubble_f L)) ?_;walk_nrm)
 refine sg ?_
 (refine SW.goes (Sb _) (λb a=>?_);refine goes_call rfl rfl knn rfl H.f_uAdd (nm_uAdd L) rfl ⟨⟨rfl,by simp⟩,rfl,rfl,?_⟩;clear a b;walk_nrmf uAddFn)
 refine sg ?_;refine SW.add1 c rfl k rfl rfl rfl rfl λw v m i=>?_;have f:Go.ConcR.WgAt σ0.ty σ0.Wg w ((v:Int)*4294967296) 0:=i;obtain⟨S,d⟩:∃S:Int,S=((v:Int)+1)*4294967296:=⟨_,rfl⟩;have g:IntKind.u64.wrap ((v:Int)*4294967296+4294967296)=S:=by rw[IntKind.wrap_u64];omega
 rw[<- d];refine⟨?fr,?cs,Eq.tn (stepG_add_atomic (w:=w) (v:=(v:Int)*4294967296) rfl rfl knn rfl H.f_addU64 (x_addU64_n L) (x_addU64_b L) (x_addU64_x L) .u64 (x_addU64_f L) rfl rfl f.cellSt (f.thaw 0)) ?e,?nx⟩
 case e=>rw[g];rfl
 case nx=>
  walk_nrm;clear i f g;rcases ln v with rfl|u
  .have e0:S=4294967296:=zz;clear d m;subst e0;refine sg ?_
   (refine SW.goes (Sb _) (λb a=>?_);refine goes_leave1 rfl rfl H.f_uAdd rfl ⟨⟨rfl,by simp⟩,rfl,rfl,?_⟩;clear a b;walk_nrm)
   refine sg ?_
   (refine SW.goes (Sb _) (λb a=>?_);refine goes_oper_k rfl rfl knn (λKx hKx=>?_);obtain⟨n,hcx⟩:=Cs.cell1 a;have j:=run_convert_to_unsafe H.underlying_tPU32 H.underlying_tUP H.room_tU32 hcx;have hce:=λes=>events_convert_to_unsafe H.underlying_tPU32 H.underlying_tUP H.room_tU32 hcx es;go_simp;refine hKx _ _ ⟨⟨rfl,?_⟩,rfl,rfl,?_⟩;(· (intro s hex;have hmx:=mem_listed hex;simp[go_sem,hce]at hmx));clear hKx Kx j hce hcx n a b)
   refine SW.cD c (es:= #[jd (.read (wG σ0.Wg))]) (Pu l) (.inl rfl) (λw hl=>stepG_markAt .read ss rfl rfl knn rfl H.f_raceRead (x_raceRead_n L) (x_raceRead_b L) (x_raceRead_x L) (x_raceRead_f L) (by simp[Act.eval,wG])) ?_;simp only[S6];walk_nrm;refine sg ?_;refine SW.cD c (es:= #[jd .enable]) BX (.inl rfl) (λw hl=>sC H rfl w) ?_;simp only[Jw]
   (refine SW.goes (Sb _) (λb a=>?_);refine goes_leave0 rfl rfl H.f_add rfl ⟨⟨rfl,by simp⟩,rfl,rfl,?_⟩;clear a b;walk_nrm)
   exact h
  .have o:S/4294967296=(v:Int)+1:=zz;have p:0<=S/\S<9223372036854775808:=zz;have q:Lw .and .u64 S 2147483648=0:=by have:=Go.ConcN.st_flag (v+1) 0 zz zz;rw[d];simpa using this
   have r:Lw .and .u64 S 2147483647=0:=by have:=Go.ConcN.st_waiters (v+1) 0 zz zz;rw[d];simpa using this
   clear d
   (refine SW.value (Sb _) (.int .u64 S) rfl rfl knn kv kww ?_;walk_nrm)
   refine sg0 ?_
   (refine SW.goes (Sb _) (λb a=>?_);refine goes_leave1 rfl rfl H.f_uAdd rfl ⟨⟨rfl,by simp⟩,rfl,rfl,?_⟩;clear a b;walk_nrm)
   (refine SW.value (Sb _) (.int .u64 S) rfl rfl knn kv kww ?_;walk_nrm)
   refine sg0 ?_
   (refine SW.value (Sb _) (.int .u64 S) rfl rfl knn kv kww ?_;walk_nrm)
   (refine SW.value (Sb _) (.int .u64 0) rfl rfl knn kv kww ?_;walk_nrm)
   (refine SW.value (Sb _) (.bool false) rfl rfl knn kv kww ?_;walk_nrm)
   (refine SW.value (Sb _) (.bool false) rfl rfl knn kv kww ?_;walk_nrm)
   refine sg0 ?_
   (refine SW.value (Sb _) (.bool false) rfl rfl knn kv kww ?_;walk_nrm)
   refine sg0 ?_
   (refine SW.value (Sb _) (.int .u64 S) rfl rfl knn kv kww ?_;walk_nrm)
   (refine SW.value (Sb _) (.int .u64 ((v:Int)+1)) rfl rfl knn kv kww ?_;walk_nrm)
   (refine SW.value (Sb _) (.int .i32 ((v:Int)+1)) rfl rfl knn kv kww ?_;walk_nrm)
   (refine SW.value (Sb _) (.int .i32 ((v:Int)+1)) rfl rfl knn kv kww ?_;walk_nrm)
   refine sg0 ?_
   (refine SW.value (Sb _) (.int .u64 S) rfl rfl knn kv kww ?_;walk_nrm)
   (refine SW.value (Sb _) (.int .u64 0) rfl rfl knn kv kww ?_;walk_nrm)
   (refine SW.value (Sb _) (.int .u32 0) rfl rfl knn kv kww ?_;walk_nrm)
   (refine SW.value (Sb _) (.int .u32 0) rfl rfl knn kv kww ?_;walk_nrm)
   refine sg0 ?_
   (refine SW.value (Sb _) (.bool true) rfl rfl knn kv kww ?_;walk_nrm)
   (refine SW.value (Sb _) (.int .i64 1) rfl rfl knn kv kww ?_;walk_nrm)
   (refine SW.value (Sb _) (.bool true) rfl rfl knn kv kww ?_;walk_nrm)
   (refine SW.value (Sb _) (.bool true) rfl rfl knn kv kww ?_;walk_nrm)
   (refine SW.value (Sb _) (.bool true) rfl rfl knn kv kww ?_;walk_nrm)
   (refine SW.value (Sb _) (.int .i32 ((v:Int)+1)) rfl rfl knn kv kww ?_;walk_nrm)
   (refine SW.value (Sb _) (.int .i64 1) rfl rfl knn kv kww ?_;walk_nrm)
   (refine SW.value (Sb _) (.int .i32 1) rfl rfl knn kv kww ?_;walk_nrm)
   (refine SW.value (Sb _) (.bool false) rfl rfl knn kv kww ?_;walk_nrm)
   (refine SW.value (Sb _) (.bool false) rfl rfl knn kv kww ?_;walk_nrm)
   refine sg0 ?_
   (refine SW.value (Sb _) (.int .i32 ((v:Int)+1)) rfl rfl knn kv kww ?_;walk_nrm)
   (refine SW.value (Sb _) (.bool false) rfl rfl knn kv kww ?_;walk_nrm)
   refine sg0 ?_
   (refine SW.value (Sb _) (.int .u32 0) rfl rfl knn kv kww ?_;walk_nrm)
   (refine SW.value (Sb _) (.bool false) rfl rfl knn kv kww ?_;walk_nrm)
   (refine SW.value (Sb _) (.bool false) rfl rfl knn kv kww ?_;walk_nrm)
   refine sg0 ?_
   (refine SW.value (Sb _) (.bool false) rfl rfl knn kv kww ?_;walk_nrm)
   (refine SW.value (Sb _) (.bool false) rfl rfl knn kv kww ?_;walk_nrm)
   refine sg0 ?_
   (refine SW.value (Sb _) (.bool false) rfl rfl knn kv kww ?_;walk_nrm)
   refine sg0 ?_
   (refine SW.value (Sb _) (.int .i32 ((v:Int)+1)) rfl rfl knn kv kww ?_;walk_nrm)
   (refine SW.value (Sb _) (.bool true) rfl rfl knn kv kww ?_;walk_nrm)
   (refine SW.value (Sb _) (.bool true) rfl rfl knn kv kww ?_;walk_nrm)
   refine sg0 ?_
   (refine SW.value (Sb _) (.bool true) rfl rfl knn kv kww ?_;walk_nrm)
   refine sg0 ?_;refine SW.cD c (es:= #[jd .enable]) BX (.inl rfl) (λw hl=>sC H rfl w) ?_;simp only[Jw]
   (refine SW.goes (Sb _) (λb a=>?_);refine goes_leave0 rfl rfl H.f_add rfl ⟨⟨rfl,by simp⟩,rfl,rfl,?_⟩;clear a b;walk_nrm)
   exact h
end
end
section
variable{P:Ps}{post:M->H->Prop}{i:Nat}{L:WgLink}{σ0:Gh}{w0:H}
def SW.bound{pt:Pt}{g:QP}(b:σ0.cz=Y i)(c:pt.cb=I)(h:∀n,SW P post i (gO i σ0 w0 {pt with cb:=Y n}) g):SW P post i (gO i σ0 w0 pt) g:=λJ w hF=>
 h (nR J.gw) J w ⟨hF.c,hF.st,hF.kn,hF.df,hF.pend,hF.gl,hF.sm,λn a=>by cases a;exact⟨hF.c.z b,qN _⟩,hF.who⟩
def Mp{Wg:Nat}{s:Prop}(h:s):∀e∈ #[jd (.write (wG Wg))],jE Wg s e:=λe a=>by obtain rfl:e=jd (.write (wG Wg)):=(by simpa using a);exact .inr (.inl ⟨_,rfl,h,.inr rfl⟩)
def Pv(d:Nat)(a:Addr):bc d #[jd (.write a)]=d:=by simp[bc,jd]
attribute [local irreducible] Go.stepG
theorem Pw(H:WgLib P L)(hi:0<i)(g:σ0.md=.clash)(Q:σ0.ty=L.tWg)(u:σ0.cz=Y i)(K:σ0.cD i){b0:Kf}{a0:Act}{fj:Array Kp}{i0:Nat}{fh:List Nat}{k0:List Item}{cs:List Kf}
  (p:SW P post i (gO i σ0 w0 {st:=.done,kn:=.no,df:=0,pend:=0}) (G (b0.at (a0.put ((fj[i0]?).bind (·.dst)) (.tuple #[])) (.inRegion fj fh::k0)) cs)):
  ∀n (T:Array M),T.size=84->T[0]?=Y (.pointer (Y (σ0.Wg,0)))->SW P post i (gO i σ0 w0 {st:=.wait,kn:=.no,df:=1,pend:=0,sm:=Y false,cb:=Y n}) (G ((base L.wait).at ⟨T,[]⟩ [.code (L7 L),.inLoop (L7 L),.inBlock 0]) (b0.at a0 (.inRegion fj (i0::fh)::k0)::cs)):=by
 lib_facts;have Sb:∀pt,yw i σ0.ty σ0.Wg (gO i σ0 w0 pt):=λpt=>gO.rQ w0 g pt;intro n
 induction n using Nat.strongRecOn with
 | _ n k=>
 intro T q x;obtain⟨R,U,v2,v3,v4,v5,v6,v7,v8,v9,V,W,Z,a1,a2,a3,a4,a5,a6,a7,a8,a9,a',b1,b2,b3,b4,b5,b6,b7,b8,b9,b',c1,c2,c3,c4,c5,c6,c7,c8,c9,c',d1,d2,d3,d4,d5,d6,d7,d8,d9,d',d0,e2,e3,e4,e5,e6,e7,e8,e9,e',f1,f2,f3,f4,f5,f6,f7,f8,f9,f',f0,g1,g2,g3,g4,g5,g6,g7,g8,g9,g',rfl⟩:=array84 T q;simp only[zQ,fg]at x;subst x;clear q;simp only[L7,body_wait,waitFn,zQ]at k|-;refine SW.ctl (Sb _) (λ_=>stepG_block) ?_;refine sg ?_
 (refine SW.goes (Sb _) (λc b=>?_);refine goes_call rfl rfl knn rfl H.f_uLoad (nm_uLoad L) rfl ⟨⟨rfl,by simp⟩,rfl,rfl,?_⟩;clear b c;walk_nrmf uLoadFn)
 refine sg ?_;refine SW.Zb g rfl rfl rfl λw v o d=>?_;refine⟨?fr,?cs,Eq.tn (stepG_load_atomic (w:=w) (v:=(v:Int)*4294967296) rfl rfl knn rfl H.f_loadU64 (x_loadU64_n L) (x_loadU64_b L) (x_loadU64_x L) .u64 (x_loadU64_f L) rfl (Go.ConcR.WgAt.cellSt (ty:=σ0.ty) d)) ?e,λE=>?_,λr hle=>?_⟩
 case e=>rfl
 .subst E;have z:(((0:Nat):Int)*4294967296)=0:=by simp
  rw[z];clear d o z k;walk_nrm;refine sg ?_
  (refine SW.goes (Sb _) (λc b=>?_);refine goes_leave1 rfl rfl H.f_uLoad rfl ⟨⟨rfl,by simp⟩,rfl,rfl,?_⟩;clear b c;walk_nrm)
  refine sg ?_;refine SW.cD g (es:= #[jd .enable]) BX (.inr (.inl rfl)) (λw hl=>stepG_mark0 .enable ss rfl rfl knn rfl H.f_enable (x_enable_n L) (x_enable_b L) (x_enable_x L) (x_enable_f L)) ?_;simp only[Jw];walk_nrm;refine sg ?_
  (refine SW.goes (Sb _) (λc b=>?_);refine goes_oper_k rfl rfl knn (λKx hKx=>?_);obtain⟨l,hcx⟩:=Cs.cell0 b;have j:=run_convert_to_unsafe H.underlying_tWgP H.underlying_tUP H.room_tWg hcx;have hce:=λes=>events_convert_to_unsafe H.underlying_tWgP H.underlying_tUP H.room_tWg hcx es;go_simp;refine hKx _ _ ⟨⟨rfl,?_⟩,rfl,rfl,?_⟩;(· (intro f hex;have hmx:=mem_listed hex;simp[go_sem,hce]at hmx));clear hKx Kx j hce hcx l b c)
  refine SW.acq hi g rfl rfl rfl u (λw hl=>stepG_markAt .acquire ss rfl rfl knn rfl H.f_acquire (x_acquire_n L) (x_acquire_b L) (x_acquire_x L) (x_acquire_f L) (by simp[Act.eval,jX])) ?_;walk_nrm;refine sg ?_
  (refine SW.goes (Sb _) (λc b=>?_);refine goes_leave0 rfl rfl H.f_wait rfl ⟨⟨rfl,by simp⟩,rfl,rfl,?_⟩;clear b c;walk_nrm)
  exact p
 .obtain⟨S,h⟩:∃S:Int,S=(v:Int)*4294967296:=⟨_,rfl⟩;rw[<- h];have A:S/4294967296=(v:Int):=zz;have B:0<=S/\S<9223372036854775808:=zz;have m:Lw .and .u64 S 2147483648=0:=by have:=Go.ConcN.st_flag v 0 zz zz;rw[h];simpa using this
  have C:Lw .and .u64 S 2147483647=0:=by have:=Go.ConcN.st_waiters v 0 zz zz;rw[h];simpa using this
  have N:0<v:=zz;have J:(v:Int)*4294967296<=S/\S<=(v:Int)*4294967296:=zz;clear d h;walk_nrm
  (refine SW.value (Sb _) (.int .u64 S) rfl rfl knn kv kww ?_;walk_nrm)
  refine sg0 ?_
  (refine SW.goes (Sb _) (λc b=>?_);refine goes_leave1 rfl rfl H.f_uLoad rfl ⟨⟨rfl,by simp⟩,rfl,rfl,?_⟩;clear b c;walk_nrm)
  (refine SW.value (Sb _) (.int .u64 S) rfl rfl knn kv kww ?_;walk_nrm)
  refine sg0 ?_
  (refine SW.value (Sb _) (.int .u64 S) rfl rfl knn kv kww ?_;walk_nrm)
  (refine SW.value (Sb _) (.int .u64 (v:Int)) rfl rfl knn kv kww ?_;walk_nrm)
  (refine SW.value (Sb _) (.int .i32 (v:Int)) rfl rfl knn kv kww ?_;walk_nrm)
  (refine SW.value (Sb _) (.int .i32 (v:Int)) rfl rfl knn kv kww ?_;walk_nrm)
  refine sg0 ?_
  (refine SW.value (Sb _) (.int .u64 S) rfl rfl knn kv kww ?_;walk_nrm)
  (refine SW.value (Sb _) (.int .u64 0) rfl rfl knn kv kww ?_;walk_nrm)
  (refine SW.value (Sb _) (.int .u32 0) rfl rfl knn kv kww ?_;walk_nrm)
  (refine SW.value (Sb _) (.int .u32 0) rfl rfl knn kv kww ?_;walk_nrm)
  refine sg0 ?_
  (refine SW.value (Sb _) (.int .i32 (v:Int)) rfl rfl knn kv kww ?_;walk_nrm)
  (refine SW.value (Sb _) (.bool false) rfl rfl knn kv kww ?_;walk_nrm)
  refine sg0 ?_
  (refine SW.goes (Sb _) (λc b=>?_);refine goes_oper_k rfl rfl knn (λKx hKx=>?_);go_simp;refine hKx _ _ ⟨⟨rfl,?_⟩,rfl,rfl,?_⟩;(· (intro f hex;have hmx:=mem_listed hex;simp[go_sem, *]at hmx));clear hKx Kx b c;try w_num)
  (refine SW.goes (Sb _) (λc b=>?_);refine goes_oper_k rfl rfl knn (λKx hKx=>?_);go_simp;refine hKx _ _ ⟨⟨rfl,?_⟩,rfl,rfl,?_⟩;(· (intro f hex;have hmx:=mem_listed hex;simp[go_sem, *]at hmx));clear hKx Kx b c;try w_num)
  (refine SW.goes (Sb _) (λc b=>?_);refine goes_oper_k rfl rfl knn (λKx hKx=>?_);go_simp;refine hKx _ _ ⟨⟨rfl,?_⟩,rfl,rfl,?_⟩;(· (intro f hex;have hmx:=mem_listed hex;simp[go_sem, *]at hmx));clear hKx Kx b c;try w_num)
  (refine SW.value (Sb _) (.int .u64 S) rfl rfl knn kv kww ?_;walk_nrm)
  (refine SW.value (Sb _) (.int .u64 S) rfl rfl knn kv kww ?_;walk_nrm)
  (refine SW.value (Sb _) (.int .u64 (S+1)) rfl rfl knn kv kww ?_;walk_nrm)
  (refine SW.goes (Sb _) (λc b=>?_);refine goes_call rfl rfl knn rfl H.f_uCas (nm_uCas L) rfl ⟨⟨rfl,by simp⟩,rfl,rfl,?_⟩;clear b c;walk_nrmf uCasFn)
  refine sg0 ?_
  (refine SW.goes (Sb _) (λc b=>?_);refine goes_oper_k rfl rfl knn (λKx hKx=>?_);go_simp;refine hKx _ _ ⟨⟨rfl,?_⟩,rfl,rfl,?_⟩;(· (intro f hex;have hmx:=mem_listed hex;simp[go_sem, *]at hmx));clear hKx Kx b c;try w_num)
  refine sg0 ?_
  (refine SW.goes (Sb _) (λc b=>?_);refine goes_oper_k rfl rfl knn (λKx hKx=>?_);go_simp;refine hKx _ _ ⟨⟨rfl,?_⟩,rfl,rfl,?_⟩;(· (intro f hex;have hmx:=mem_listed hex;simp[go_sem, *]at hmx));clear hKx Kx b c;try w_num)
  (refine SW.goes (Sb _) (λc b=>?_);refine goes_oper_k rfl rfl knn (λKx hKx=>?_);go_simp;refine hKx _ _ ⟨⟨rfl,?_⟩,rfl,rfl,?_⟩;(· (intro f hex;have hmx:=mem_listed hex;simp[go_sem, *]at hmx));clear hKx Kx b c;try w_num)
  (refine SW.goes (Sb _) (λc b=>?_);refine goes_oper_k rfl rfl knn (λKx hKx=>?_);go_simp;refine hKx _ _ ⟨⟨rfl,?_⟩,rfl,rfl,?_⟩;(· (intro f hex;have hmx:=mem_listed hex;simp[go_sem, *]at hmx));clear hKx Kx b c;try w_num)
  (refine SW.value (Sb _) (.int .u64 S) rfl rfl knn kv kww ?_;walk_nrm)
  (refine SW.value (Sb _) (.int .u64 (S+1)) rfl rfl knn kv kww ?_;walk_nrm)
  clear A B C;refine SW.Xy (vs:=v) zz hi g rfl rfl rfl rfl rfl λw v' t d=>⟨λe=>?_,λO=>?_⟩
  ·
   subst e;have e0:S=(v':Int)*4294967296:=zz;clear J k;subst e0;refine⟨?eI,?fw,(stepG_cas_hit (v:=(v':Int)*4294967296) (n:=(v':Int)*4294967296+1) rfl rfl knn rfl H.f_casU64 (x_casU64_n L) (x_casU64_b L) (x_casU64_x L) .u64 (x_casU64_f L) rfl rfl rfl (Go.ConcR.WgAt.cellSt (ty:=σ0.ty) d) (Go.ConcR.WgAt.thaw (ty:=σ0.ty) d 0)).tn ?e1,?nx1⟩
   case e1=>rfl
   case nx1=>
   obtain⟨S,h⟩:∃S:Int,S=(v':Int)*4294967296:=⟨_,rfl⟩;rw[<- h]at m|-;clear h d t o hle r N;walk_nrm;refine sg ?_
   (refine SW.goes (Sb _) (λc b=>?_);refine goes_leave1 rfl rfl H.f_uCas rfl ⟨⟨rfl,by simp⟩,rfl,rfl,?_⟩;clear b c;walk_nrm)
   refine sg ?_
   (refine SW.goes (Sb _) (λc b=>?_);refine goes_oper_k rfl rfl knn (λKx hKx=>?_);obtain⟨l,hcx⟩:=Cs.cell1 b;have j:=run_convert_to_unsafe H.underlying_tPU32 H.underlying_tUP H.room_tU32 hcx;have hce:=λes=>events_convert_to_unsafe H.underlying_tPU32 H.underlying_tUP H.room_tU32 hcx es;go_simp;refine hKx _ _ ⟨⟨rfl,?_⟩,rfl,rfl,?_⟩;(· (intro f hex;have hmx:=mem_listed hex;simp[go_sem,hce]at hmx));clear hKx Kx j hce hcx l b c)
   refine SW.cD g (es:= #[jd (.write (wG σ0.Wg))]) (Mp K) (.inr (.inl rfl)) (λw hl=>stepG_markAt .write ss rfl rfl knn rfl H.f_raceWrite (x_raceWrite_n L) (x_raceWrite_b L) (x_raceWrite_x L) (x_raceWrite_f L) (by simp[Act.eval,wG])) ?_;simp only[Pv];walk_nrm;refine sg0 ?_
   (refine SW.goes (Sb _) (λc b=>?_);refine goes_oper_k rfl rfl knn (λKx hKx=>?_);go_simp;refine hKx _ _ ⟨⟨rfl,?_⟩,rfl,rfl,?_⟩;(· (intro f hex;have hmx:=mem_listed hex;simp[go_sem, *]at hmx));clear hKx Kx b c;try w_num)
   refine sg0 ?_
   (refine SW.value (Sb _) (.int .u64 S) rfl rfl knn kv kww ?_;walk_nrm)
   (refine SW.value (Sb _) (.int .u64 0) rfl rfl knn kv kww ?_;walk_nrm)
   (refine SW.value (Sb _) (.bool false) rfl rfl knn kv kww ?_;walk_nrm)
   (refine SW.value (Sb _) (.bool false) rfl rfl knn kv kww ?_;walk_nrm)
   clear m;refine sg ?_;refine SW.sem hi g rfl rfl rfl rfl (λw a d=>stepG_semacquire_wait rfl rfl rfl H.f_semacquire (x_semacquire_n L) (x_semacquire_b L) (x_semacquire_x L) (x_semacquire_f L) (by simp[Act.eval,wG];rfl) (Go.ConcR.WgAt.cellSm (ty:=σ0.ty) d)) (λw d=>(stepG_semacquire (n:=1) rfl rfl knn rfl H.f_semacquire (x_semacquire_n L) (x_semacquire_b L) (x_semacquire_x L) (x_semacquire_f L) (by simp[Act.eval,wG];rfl) (Go.ConcR.WgAt.cellSm (ty:=σ0.ty) d) knn (Go.ConcR.WgAt.thaw (ty:=σ0.ty) d 1)).tn (by rfl)) ?_;walk_nrm;refine sg ?_
   (refine SW.goes (Sb _) (λc b=>?_);refine goes_call rfl rfl knn rfl H.f_uLoad (nm_uLoad L) rfl ⟨⟨rfl,by simp⟩,rfl,rfl,?_⟩;clear b c;walk_nrmf uLoadFn)
   refine sg ?_;refine SW.Zc g rfl rfl (λw d=>stepG_load_atomic (v:=0) rfl rfl knn rfl H.f_loadU64 (x_loadU64_n L) (x_loadU64_b L) (x_loadU64_x L) .u64 (x_loadU64_f L) rfl (Go.ConcR.WgAt.cellSt (ty:=σ0.ty) d)) ?_;walk_nrm;refine sg ?_
   (refine SW.goes (Sb _) (λc b=>?_);refine goes_leave1 rfl rfl H.f_uLoad rfl ⟨⟨rfl,by simp⟩,rfl,rfl,?_⟩;clear b c;walk_nrm)
   refine sg ?_;refine SW.cD g (es:= #[jd .enable]) BX (.inr (.inl rfl)) (λw hl=>stepG_mark0 .enable ss rfl rfl knn rfl H.f_enable (x_enable_n L) (x_enable_b L) (x_enable_x L) (x_enable_f L)) ?_;simp only[Jw];walk_nrm;refine sg ?_
   (refine SW.goes (Sb _) (λc b=>?_);refine goes_oper_k rfl rfl knn (λKx hKx=>?_);obtain⟨l,hcx⟩:=Cs.cell0 b;have j:=run_convert_to_unsafe H.underlying_tWgP H.underlying_tUP H.room_tWg hcx;have hce:=λes=>events_convert_to_unsafe H.underlying_tWgP H.underlying_tUP H.room_tWg hcx es;go_simp;refine hKx _ _ ⟨⟨rfl,?_⟩,rfl,rfl,?_⟩;(· (intro f hex;have hmx:=mem_listed hex;simp[go_sem,hce]at hmx));clear hKx Kx j hce hcx l b c)
   refine SW.acq hi g rfl rfl rfl u (λw hl=>stepG_markAt .acquire ss rfl rfl knn rfl H.f_acquire (x_acquire_n L) (x_acquire_b L) (x_acquire_x L) (x_acquire_f L) (by simp[Act.eval,jX])) ?_;walk_nrm;refine sg ?_
   (refine SW.goes (Sb _) (λc b=>?_);refine goes_leave0 rfl rfl H.f_wait rfl ⟨⟨rfl,by simp⟩,rfl,rfl,?_⟩;clear b c;walk_nrm)
   exact p
  ·
   have s:(v':Int)*4294967296≠S:=zz;refine⟨_,_,stepG_cas_miss (v:=(v':Int)*4294967296) (old:=S) (n:=S+1) rfl rfl knn rfl H.f_casU64 (x_casU64_n L) (x_casU64_b L) (x_casU64_x L) .u64 (x_casU64_f L) rfl rfl rfl (Go.ConcR.WgAt.cellSt (ty:=σ0.ty) d) (Go.ConcR.WgAt.thaw (ty:=σ0.ty) d 0) s,?_⟩;have y:=k v' zz;clear k d t o hle r s m;walk_nrm
   (refine SW.value (Sb _) (.bool false) rfl rfl knn kv kww ?_;walk_nrm)
   refine sg0 ?_
   (refine SW.goes (Sb _) (λc b=>?_);refine goes_leave1 rfl rfl H.f_uCas rfl ⟨⟨rfl,by simp⟩,rfl,rfl,?_⟩;clear b c;walk_nrm)
   refine sg0 ?_;refine SW.ctl (Sb _) (λ_=>stepG_inBlock) ?_;refine SW.ctl (Sb _) (λ_=>stepG_inLoop) ?_;exact y _ rfl rfl
end
section
variable{P:Ps}{post:M->H->Prop}{i:Nat}{L:WgLink}{σ0:Gh}{w0:H}
attribute [local irreducible] Go.stepG
def Zy(H:WgLib P L)(hi:0<i)(a:σ0.md=.clash)(g:σ0.ty=L.tWg)(c:σ0.cz=Y i)(f:σ0.cD i){b0:Kf}{a0:Act}{fj:Array Kp}{i0:Nat}{fh:List Nat}{k0:List Item}{cs:List Kf}
  (e:SW P post i (gO i σ0 w0 {st:=.done,kn:=.no,df:=0,pend:=0}) (G (b0.at (a0.put ((fj[i0]?).bind (·.dst)) (.tuple #[])) (.inRegion fj fh::k0)) cs)):
  SW P post i (gO i σ0 w0 {st:=.wait,kn:=.no,df:=0,pend:=0,sm:=Y false}) (G ((base L.wait).at ⟨#[.pointer (Y (σ0.Wg,0))]++Array.replicate 83 D,[]⟩ [.code (body_wait L)]) (b0.at a0 (.inRegion fj (i0::fh)::k0)::cs)):=by
 lib_facts;have Sb:∀pt,yw i σ0.ty σ0.Wg (gO i σ0 w0 pt):=λpt=>gO.rQ w0 a pt;have b:=λn T d h2=>@Pw P post i L σ0 w0 H hi a g c f b0 a0 fj i0 fh k0 cs e n T d h2;simp only[L7,body_wait,waitFn,zQ,zR]at b|-;refine SW.ctl (Sb _) (λ_=>stepG_seq) ?_
 (refine SW.ctl (Sb _) (λ_=>stepG_cond (t:=true) rfl) ?_;simp only[if_true,if_false,lO, ↓reduceIte])
 (refine SW.ctl (Sb _) (λ_=>stepG_region) ?_;simp only[List.size_toArray,ed,lA,Nat.reduceAdd,kx,List.range,List.range.loop])
 refine SW.cD a (es:= #[jd .disable]) BW (.inr (.inr (.inr uo))) (λw hl=>stepG_mark0 .disable ss rfl rfl knn rfl H.f_disable (x_disable_n L) (x_disable_b L) (x_disable_x L) (x_disable_f L)) ?_;simp only[Hx,kx];walk_nrm;refine SW.ctl (Sb _) (λ_=>stepG_region_end) ?_;refine SW.ctl (Sb _) (λ_=>stepG_block) ?_;refine SW.ctl (Sb _) (λ_=>stepG_loop) ?_;refine SW.bound c rfl λn=>?_;exact b n _ rfl rfl
end
end Go.Co
