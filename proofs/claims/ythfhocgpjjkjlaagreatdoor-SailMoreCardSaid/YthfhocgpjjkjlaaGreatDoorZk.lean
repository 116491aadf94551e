import Derived.Test.YthfhocgpjjkjlaaGreatDoorZj
import Derived.Test.YthfhocgpjjkjlaaGreatDoorChecked
import Derived.WalkKit
import Derived.RangeFuncNested
import Derived.RangeFuncBound
import Derived.RangeFuncCalls
import Derived.RangeFuncLeaves
import Derived.Shelf.Abstract
import Derived.OwnWalkIn
import Derived.TacticsInMore
import Derived.LoopNIn
import Derived.LoopIn
import Derived.Outline
import Derived.Sort.CutIn
import Derived.Laws.EntriesVeiled
import Derived.Maps.AppendAt
import Derived.MapKept
set_option maxRecDepth 100000
set_option maxHeartbeats 4000000
set_option linter.all false
noncomputable section
open Go renaming undef->D,World->H,undef->Hc,execOp->Hn,Oper->Kp,TypeId->Lk,Code->Ly,Value->M,Calls->PH,Program->Ps,heap_alloc_old->QR,heap_alloc_new->Sp,resolve->ab,Operand->ae,FuncId->ba,bodyPost_ret->bd
open Go.Proofs.Tryz renaming prog->F
open Go.Lib renaming hid->Hm
open Option renaming none->I,some->Y
open Go.RowKit renaming Hid->PQ,Below->X
namespace Go.Proofs.YthfhocgpjjkjlaaGreatDoor
open Go.RowKit
theorem H6(x y:Int)(w:H):PH F 22 #[.int .i64 x,.int .i64 y] w λe w'=>e=.returned (.agg #[.int .i64 x,.int .i64 y])/\X w w w':=by
 go_enter Tryz.func22,Tryz.ntmps22;go_wp2
 (try simp only[Exit.inBlock,Exit.then])
 refine bd (v:=.agg #[.int .i64 x,.int .i64 y]) (by unfold results Tryz.f22;go_simp) rfl ⟨rfl,by exact bt⟩
theorem MD(s t:Sl)(l m:List Int)(w:H)(hl:eC w s l)(a:eC w t m):
  PH F 15 #[.slice s.A s.n s.c,.slice t.A t.n t.c] w λe w'=>e=.returned (.bool (decide (l=m)))/\X w w w':=by
 have h:=AS s t l m w hl a;clear hl a;go_enter Tryz.func15,Tryz.ntmps15;go_wp2_with (go_at_call 48;refine h.mono ?_;clear h;rintro e c ⟨rfl,b⟩);go_ret;exact⟨rfl,b⟩
def mX(b:aC):Bool:=decide (20<b.C.n)||decide (20<b.U.n)||decide (20<b.E.n)||decide (20<b.W.n)
theorem ME(b:aC)(w:H):PH F 9 #[b.v] w λe w'=>e=.returned (.bool (mX b))/\X w w w':=by
 by_cases a:20<b.C.n;all_goals by_cases h2:20<b.U.n
 all_goals by_cases c:20<b.E.n
 all_goals by_cases d:20<b.W.n
 all_goals
  unfold aC.v;go_enter Tryz.func9,Tryz.ntmps9;go_wp2;go_ret;exact⟨bR (by simp[mX,a,h2,c,d]<;>omega),by exact bt⟩
open Go.Shelf
variable{n l:Nat}{P:Ps}{assign body:Ly}{w A B C:H}{K K':Nat->Prop}
structure aS(K:Nat->Prop)(A B:H):Prop where
 os:B.os=A.os
 tape:B.tape=A.tape
 output:B.output=A.output
 size:A.heap.size<=B.heap.size
 block:∀b,b<A.heap.size->K b->B.heap[b]?=A.heap[b]?
def aS.refl(K:Nat->Prop)(A:H):aS K A A:=⟨rfl,rfl,rfl,qN _,λ_ _ _=>rfl⟩
def aS.tn(h:aS K A B)(k:aS K B C):aS K A C:=
 ⟨k.os.tn h.os,k.tape.tn h.tape,k.output.tn h.output,qO h.size k.size,λb c a=>(k.block b (qP c h.size) a).tn (h.block b c a)⟩
def aS.tn'(h:aS K A B)(k:aS K' B C)(c:∀b,b<A.heap.size->K b->K' b):aS K A C:=
 ⟨k.os.tn h.os,k.tape.tn h.tape,k.output.tn h.output,qO h.size k.size,λb a hk=>(k.block b (qP a h.size) (c b a hk)).tn (h.block b a hk)⟩
def aS.mono(h:aS K A B)(c:∀b,b<A.heap.size->K' b->K b):aS K' A B:=⟨h.os,h.tape,h.output,h.size,λb a hk=>h.block b a (c b a hk)⟩
def aS.dY(h:X n A B)(a:∀b,b<A.heap.size->K b->b<n):aS K A B:=⟨h.os,h.tape,h.output,h.size,λb c hk=>h.block b (a b c hk)⟩
def aS.below(h:aS K A B)(d:n<=A.heap.size)(a:∀b,b<n->K b):X n A B:=⟨h.os,h.tape,h.output,h.size,λb c=>h.block b zz (a b c)⟩
def aS.alloc(h:aS K A B)(o:Obj):aS K A (B.alloc o):=
 h.tn ⟨rfl,rfl,rfl,by simp,λb a _=>X.heap_alloc _ _ _ a⟩
def aS.set(h:aS K A B){p:Addr}(c:p.block<A.heap.size->¬K p.block)(v:M):aS K A (B.setCell p v):=
 h.tn' ⟨rfl,rfl,rfl,by simp[H.setCell],λb a hk=>X.heap_setCell _ _ _ _ hk⟩ λb a hk e=>by subst e;exact c a hk
def aS.put(h:aS K A B)(hl:l<A.heap.size->¬K l)(o:Obj):aS K A (B.putObj l o):=
 h.tn' ⟨rfl,rfl,rfl,by simp,λb a hk=>H.putObj_heap_other hk⟩ λb a hk e=>by subst e;exact hl a hk
def aS.drew(h:aS K A B):aS K A B.drew:=⟨h.os,h.tape,h.output,h.size,h.block⟩
def aS.grown{row:Option Nat}(h:aS K A B)(a:B.grownBy C row)(d:∀r,row=Y r->r<A.heap.size->¬K r):aS K A C:=
 h.tn' ⟨a.os,a.tape,a.output,a.size,λb c hk=>a.block b c (λe=>hk e.symm)⟩ λb c hk e=>d b e c hk
def aS.get(h:aS K A B){b:Nat}{o:Obj}(c:K b)(a:A.heap[b]?=Y o):B.heap[b]?=Y o:=(h.block b (ec.1 a).1 c).tn a
def Bm(K:Nat->Prop)(A B:H)(X:(Nat->Prop)->Prop):Prop:=
 ∃K':Nat->Prop,(∀b,K' b->b<B.heap.size/\(K b\/A.heap.size<=b))/\aS (λb=>¬K b) A B/\X K'
def xP{α:Type}(s:Nat)(J:(Nat->Prop)->List α->H->Prop):Prop:=
 ∀K a A B,J K a A->s<=A.heap.size->aS (λb=>K b\/b<s) A B->J K a B
def Yields{α:Type}(P:Ps)(l:Nat)(encs:α->Array M)(xs:List α)(s:Nat)(J c:(Nat->Prop)->List α->H->Prop):Prop:=
 ∀K a x A m,J K a A->a++[x] <+: xs->s<=A.heap.size->(∀b,K b->b<A.heap.size)->YieldAt Fence.wide m P l (encs x) A λe B=>
  Bm K A B λK'=>(e=.returned (.bool true)/\J K' (a++[x]) B)\/(e=.returned (.bool false)/\c K' (a++[x]) B)
def Y1{α:Type}(P:Ps)(g:Nat)(f:Array M)(encs:α->Array M)(R:Nat->Prop)(xs:List α)(w:H):Prop:=
 ∀(l:Nat) (J a:(Nat->Prop)->List α->H->Prop) (c:Nat->Prop) (W:H),aS R w W->(∀b,R b->¬c b)->(∀b,c b->b<W.heap.size)->
  xP W.heap.size J->xP W.heap.size a->Yields P l encs xs W.heap.size J a->J c [] W->
  PH P g (#[.func (.yield l) #[] #[]]++f) W λe B=>(∃v,e=.returned v)/\W.heap.size<=B.heap.size/\∃K',(J K' xs B)\/(∃d,d <+: xs/\a K' d B)
def uI{m m':Nat}{f:ba}{tmps:Array M}{R:Ending->H->Prop}
  (h:RoundIn Fence.wide m P l f tmps assign body w R):RoundIn Fence.wide m' P l f tmps assign body w R:=⟨h.1,λc cs _=>h.2 c cs (room_wide _)⟩
def Se{α:Type}(b c:(Nat->Prop)->List α->H->Prop)(K:Nat->Prop)(xs:List α)(W:H):Exit->Act->H->Prop
 | .normal,_,a=>Bm K W a λK'=>b K' xs a
 | .ret,_,a=>Bm K W a λK'=>c K' xs a
 | _,_,_=>False
theorem qg{α:Type}{g:ae}{ps:Array Tmp}{Q:Exit->Act->H->Prop}{a:Act}
  {gf:Nat}{lb:Array M}(d5:a.eval g=.func (.func gf) #[] lb)(b9:Enters P gf)
  {encs:α->Array M}{R:Nat->Prop}{xs:List α}(d':Y1 P gf lb encs R xs w)(d8:∀x,(encs x).size=ps.size)
  (N:Nat->Prop)(c9:∀b,R b->¬N b)(c':∀b,R b->b<w.heap.size)(b1:∀b,N b->b<w.heap.size)
  (z Z:(Nat->Prop)->List α->H->Prop)(S:xP w z)(a4:xP w Z)(h0:z N [] w)
  (T:Lk)(cs:α->Array M)(a1:α->Nat->Act)
  (d1:∀(l:Nat) (x:α) (W:H) (a':Act->H->Prop),a' (a1 x W) (W.alloc (.cells (cs x) T))->
   assign.wpIn (Fence.wide.inRound l) n P (Exit.then a' (λ_ _ _=>False)) {tmps:=(ps.zip (encs x)).foldl (λt (p,v)=>t.setIfInBounds p v) a.tmps,defers:=[]} W)
  (d2:∀(l:Nat) (K:Nat->Prop) (f:List α) (x:α) (W:H) (V:Nat),z K f W->f++[x] <+: xs->w.heap.size<=V->W.heap[V]?=Y (.cells (cs x) T (0,0))->(∀b,K b->b<W.heap.size/\b≠V)->
   body.wpIn (Fence.wide.inRound l) n P (Se z Z K (f++[x]) W) (a1 x V) W)
  (d3:∀(D:Nat) (K:Nat->Prop) (W:H),w.heap.size<=D->(w:Nat)<=W->z K xs W->W.heap[D]?=Y (.deferred (Y []))->Q .normal {a with defers:= {target:=.collected D,args:= #[]}::a.defers} W)
  (d0:∀(D:Nat) (K:Nat->Prop) (f:List α) (W:H),w.heap.size<=D->(w:Nat)<=W->f <+: xs->Z K f W->W.heap[D]?=Y (.deferred (Y []))->Ly.ret.wpIn Fence.wide n P Q {a with defers:= {target:=.collected D,args:= #[]}::a.defers} W):
  (Ly.rangeFunc g ps assign body).wpIn Fence.wide n P Q a w:=by
 refine wpIn_rangeFunc ?_;intro fn d4;obtain⟨d,r⟩:∃d:LoopState->Option Ly->Loop,d=λst e1=> {state:=st,pending:=e1,fn,tmps:=a.tmps,params:=ps,assign,body,defers:=w.heap.size}:=⟨_,rfl⟩;obtain⟨s,U⟩:∃s,(w.alloc (.deferred (Y []))).alloc (.loop (d .ready I))=s:=⟨_,rfl⟩;have b2:s.heap[w.heap.size+1]?=Y (.loop (d .ready I)):=by
  rw[<- U];have:=H.alloc_heap_new (w.alloc (.deferred (Y []))) (.loop (d .ready I));rwa[H.size_alloc]at this
 have c3:s.heap[w.heap.size]?=Y (.deferred (Y [])):=by
  rw[<- U];exact(X.heap_alloc _ _ _ ss).tn (H.alloc_heap_new w _)
 have b4:∀K,aS K w s:=λK=>by rw[<- U];exact((aS.refl K w).alloc _).alloc _
 have e3:s.heap.size=w.heap.size+1+1:=by rw[<- U];simp
 obtain⟨l,hl⟩:∃l,w.heap.size+1=l:=⟨_,rfl⟩;rw[hl]at b2;refine⟨w.heap.size+1,[{target:=.collected w.heap.size,args:= #[]}],s, {target:=.fn (.func gf) lb,args:= #[.func (.yield (w.heap.size+1)) #[] #[]]},s,gf,
  #[.func (.yield (w.heap.size+1)) #[] #[]]++lb,s,?_,?_,?_,?_,λh=>by simp[Fence.wide]at h,?_⟩
 .rw[<- U,r];exact run_enterLoop_outer _ _ _ _ _
 .simp only[ab,d5];simp[go_sem]
 .intro f' _;trivial
 .simp[invoke,go_sem];exact b9 _ _
 rw[hl];refine(callsIn_wide.2 (d' l
  (λK' f W=>∃K,K'=(λb=>K b\/b=l)/\z K f W/\(∀b,K b->b<w.heap.size\/l<b)/\W.heap[l]?=Y (.loop (d .ready I))/\W.heap[w.heap.size]?=Y (.deferred (Y [])))
  (λK' f W=>∃K,K'=(λb=>K b\/b=l)/\Z K f W/\(∀b,K b->b<w.heap.size\/l<b)/\W.heap[l]?=Y (.loop (d .done (Y .ret)))/\W.heap[w.heap.size]?=Y (.deferred (Y [])))
  (λb=>N b\/b=l) s (b4 R) ?_ ?_ ?_ ?_ ?_ ⟨N,rfl,S _ _ _ _ h0 (qN _) (b4 _),λb o=>.inl (b1 b o),b2,c3⟩)).mono ?_
 .rintro b o (h|rfl)
  .exact c9 b o h
  .have:=c' _ o;omega
 .rintro b (h|rfl)
  .have:=b1 b h;omega
  .omega
 .rintro K' f A B ⟨K,rfl,hi,o,k,u⟩ a9 hk;exact⟨K,rfl,S _ _ _ _ hi zz (hk.mono λb _ h=>h.elim (λh=>.inl (.inl h)) (λh=>.inr zz)),o,hk.get (.inl (.inr rfl)) k,hk.get (.inr zz) u⟩
 .rintro K' f A B ⟨K,rfl,hi,o,k,u⟩ a9 hk;exact⟨K,rfl,a4 _ _ _ _ hi zz (hk.mono λb _ h=>h.elim (λh=>.inl (.inl h)) (λh=>.inr zz)),o,hk.get (.inl (.inr rfl)) k,hk.get (.inr zz) u⟩
 ·
  rintro K' f x W m ⟨K,rfl,hi,C,k,u⟩ a7 a9 b6;have e2:l<W.heap.size:=(ec.1 k).1;have b8:=run_yield (P:=P) (args:=encs x) k (by rw[r];exact d8 x);rw[r]at b8;refine⟨fn,_,assign,body,b8,uI (m:=n) (roundIn_of_wpIn d4 (d1 l x W _ ?_))⟩;obtain⟨E,a2⟩:∃E,W.alloc (.cells (cs x) T)=E:=⟨_,rfl⟩;have a6:∀K,aS K W E:=λK=>by rw[<- a2];exact(aS.refl K W).alloc _
  have c2:E.heap[W.heap.size]?=Y (.cells (cs x) T (0,0)):=by rw[<- a2];exact H.alloc_heap_new W _
  have d9:E.heap.size=W.heap.size+1:=by rw[<- a2];simp
  rw[a2];have b':=(a6 (λ_=>True)).get qYB k;have c4:=(a6 (λ_=>True)).get qYB u;refine⟨_,run_beginRound b' (by rw[r]),?_⟩;obtain⟨q,J⟩:∃q,E.putObj l (.loop {d .ready I with state:=.busy})=q:=⟨_,rfl⟩;have e5:q.heap.size=W.heap.size+1:=by rw[<- J];simp[d9]
  have b5:∀K:Nat->Prop,¬K l->aS K W q:=λK c7=>by rw[<- J];exact(a6 K).put (λ_=>c7) _
  have b0:q.heap[l]?=Y (.loop {d .ready I with state:=.busy}):=by rw[<- J];exact H.putObj_heap_same zz
  have c5:q.heap[w.heap.size]?=Y (.deferred (Y [])):=by rw[<- J];exact(H.putObj_heap_other zz).tn c4
  have c1:q.heap[W.heap.size]?=Y (.cells (cs x) T (0,0)):=by rw[<- J];exact(H.putObj_heap_other zz).tn c2
  rw[J];have b7:¬(K l\/l<w.heap.size):=by
   rintro(h|h); · have:=C l h;omega
   .omega
  have d6:z K f q:=S _ _ _ _ hi zz (b5 _ b7);refine wpIn_mono (d2 l K f x q W.heap.size d6 a7 zz c1 (λb o=>by have:=b6 b (.inl o);omega)) ?_;have a0:∀(c:Option Ly) (i:H) (j:Nat->Prop),(∀b,j b->b<i.heap.size/\(K b\/q.heap.size<=b))->aS (λb=>¬K b) q i->
    (Instr.endRound l c).run P i=.ok (.bool c.isNone) (i.putObj l (.loop (d (if c.isNone then .ready else .done) c)))/\
    (i.putObj l (.loop (d (if c.isNone then .ready else .done) c))).heap[l]?=Y (.loop (d (if c.isNone then .ready else .done) c))/\
    (i.putObj l (.loop (d (if c.isNone then .ready else .done) c))).heap[w.heap.size]?=Y (.deferred (Y []))/\
    (∀b,(j b\/b=l)->b<(i.putObj l (.loop (d (if c.isNone then .ready else .done) c))).heap.size/\((K b\/b=l)\/W.heap.size<=b))/\
    aS (λb=>¬(K b\/b=l)) W (i.putObj l (.loop (d (if c.isNone then .ready else .done) c)))/\
    (∀b,j b->b<w.heap.size\/l<b)/\w.heap.size<=i.heap.size/\(∀K2:Nat->Prop,¬K2 l->aS K2 i (i.putObj l (.loop (d (if c.isNone then .ready else .done) c)))):=λc i j G y=>by
   have c8:¬K l:=λh=>b7 (.inl h);have d7:=y.get c8 b0;have c6:=y.get (b:=w.heap.size) (by intro h;have:=C _ h;omega) c5;have e4:=y.size;have:=run_endRound (P:=P) c d7;rw[r]at this|-;refine⟨this,H.putObj_heap_same zz,(H.putObj_heap_other zz).tn c6,?_,?_,?_,zz,λK2 h2=>(aS.refl _ _).put (λ_=>h2) _⟩
   .rintro b (h|rfl)
    .have:=G b h;exact⟨by simp;omega,this.2.elim (λh=>.inl (.inl h)) (λh=>.inr zz)⟩
    .exact⟨by simp;omega,.inl (.inr rfl)⟩
   .exact((b5 _ (λh=>h (.inr rfl))).tn' y (λb _ h=>λh'=>h (.inl h'))).put (λ_ h=>h (.inr rfl)) _
   .intro b o;rcases(G b o).2 with h|h
    .exact C b h
    .right;omega
  rintro e a3 i L
  cases e with
  | normal=>
   obtain⟨j,G,y,a5⟩:=L;obtain⟨a8,f1,f2,f3,f4,O,f6,f7⟩:=a0 I i j G y;refine⟨_,_,a8,λb=>j b\/b=l,f3,f4,.inl ⟨rfl,j,rfl,S _ _ _ _ a5 f6 (f7 _ ?_),O,f1,f2⟩⟩;rintro(h|h)
   .have:=O l h;omega
   .omega
  | ret=>
   obtain⟨j,G,y,a5⟩:=L;obtain⟨a8,f1,f2,f3,f4,O,f6,f7⟩:=a0 (Y .ret) i j G y;refine⟨_,_,a8,λb=>j b\/b=l,f3,f4,.inr ⟨rfl,j,rfl,a4 _ _ _ _ a5 f6 (f7 _ ?_),O,f1,f2⟩⟩;rintro(h|h)
   .have:=O l h;omega
   .omega
  | exit id=>exact L.elim
  | goto t=>exact L.elim
  | panic ch=>exact L.elim
  | outgrown=>exact L.elim
 ·
  rintro e W2 ⟨⟨v,rfl⟩,a9,K',(⟨K,rfl,hi,C,k,u⟩|⟨f,a7,K,rfl,hi,C,k,u⟩)⟩
  all_goals
   have b6:=(ec.1 k).1;have hk:aS (λb=>K b\/b<w.heap.size) W2 (W2.putObj l (.loop {d .ready I with state:=.exhausted})):=(aS.refl _ _).put (λ_=>by
    rintro(h|h)
    .have:=C l h;omega
    .omega) _
   rw[r]at hk
  .refine⟨I,_,by have:=run_endLoop (P:=P) k (by rw[r];simp);rw[r]at this;exact this,?_⟩;exact d3 w.heap.size K _ (qN _) so (S _ _ _ _ hi zz hk) ((H.putObj_heap_other zz).tn u)
  .have b3:aS (λb=>K b\/b<w.heap.size) W2 (W2.putObj l (.loop { (d .done (Y .ret))with state:=.exhausted})):=(aS.refl _ _).put (λ_=>by
    rintro(h|h)
    .have:=C l h;omega
    .omega) _
   rw[r]at b3;refine⟨Y .ret,_,by have:=run_endLoop (P:=P) k (by rw[r];simp);rw[r]at this;exact this,?_⟩;exact d0 w.heap.size K f _ (qN _) so a7 (a4 _ _ _ _ hi zz b3) ((H.putObj_heap_other zz).tn u)
def zO(x:Int):List Int->Nat->Int
 | [],_=> -1
 | y::r,k=>if x=y then k else zO x r (k+1)
def KZ(x:Int)(l:List Int)(k:Nat)(hk:k<l.length):zO x (l.drop k) k=if x=l.getD k 0 then(k:Int)else zO x (l.drop (k+1)) (k+1):=by
 rw[fx hk];have e:l.getD k 0=l[k]:=by simp[List.getD,iv hk]
 rw[e];rfl
def Dk(x:Int):∀(l:List Int) (k:Nat),decide (0<=zO x l k)=decide (x∈l)
 | [],_=>rfl
 | y::r,k=>by
  simp only[zO,dq];by_cases h:x=y
  .simp[h]
  .have a:=Dk x r (k+1);simp[h,a]
theorem FV(s:Sl)(l:List Int)(x:Int)(w:H)(hl:eC w s l):
  PH F 86 #[.slice s.A s.n s.c,.int .i64 x] w λe w'=>e=.returned (.int .i64 (zO x l 0))/\w=w':=by
 obtain⟨A,v,c⟩:=s;obtain⟨rfl,p,u,g⟩:=hl;have m:=Hm g;clear g;simp only at p|-;go_enter Tryz.func86,Tryz.ntmps86;go_wp2;go_loop [8] (λi=>∃k:Nat,k<=l.length/\i=.int .i64 k/\PQ (zO x l 0=zO x (l.drop k) k)) (λi=>l.length-(intOf i).toNat)
 case atStart=>exact⟨0,qT _,rfl,rfl⟩
 case round=>
  obtain⟨k,hk,rfl,b⟩:=hrel;by_cases j:k<l.length
  .have d:=KZ x l k j;obtain⟨r,off,rfl,t,h⟩:=m.out zz;have q:=h k j;clear h;generalize l.getD k 0=y at d q;have f:=Hm d;clear d;by_cases a:x=y
   .have o:(x==y)=true:=by simpa using a
    have n:=Hm a;clear a;go_wp2;go_ret;exact⟨aW (by rw[b.out,f.out,qWB n.out]),rfl⟩
   .have o:(x==y)=false:=by simpa using a
    go_wp2;go_round
    case rel=>exact⟨k+1,zz,by go_num,b.out.tn (f.out.tn (qVB a))⟩
    case measure=>simp[intOf];omega
  .obtain rfl:k=l.length:=zz;go_wp2;go_ret;exact⟨aW (by rw[b.out];simp[zO]),rfl⟩
theorem jO(s:Sl)(l:List Int)(x:Int)(w:H)(hl:eC w s l):
  PH F 60 #[.slice s.A s.n s.c,.int .i64 x] w λe w'=>e=.returned (.bool (decide (x∈l)))/\w=w':=by
 have hi:=FV s l x w hl;have a:=Hm (Dk x l 0);clear hl;generalize zO x l 0=r at hi a;go_enter Tryz.func60,Tryz.ntmps60;go_wp2_with (go_at_call 86;refine hi.mono ?_;rintro e b ⟨rfl,rfl⟩);go_ret;exact⟨bR a.out,rfl⟩
section
attribute [local go_sem] Oper.semAt_some
variable{K:Nat->Prop}{w w':H}{s:Sl}{l C:List Int}{b:aC}{bb yb nb g x:Nat}{t:Lk}{sh:Int}{f:Nat->Bool}
def Bp(d:Nat->Bool)(n:Nat):Nat->Bool:=λi=>if i=n then true else d i
def gF(lo hi:Int):List Int:=(List.range (hi-lo+1).toNat).map λ(i:Nat)=>lo+i
def jW(S:Nat)(lo hi:Int)(C:List Int):Nat->(Nat->Bool)->Nat->List (Int×(Nat->Bool))
 | 0,d,_=>(gF lo hi).map λs=>(s,d)
 | k+1,d,step=>(List.range' step (S-step)).flatMap λ(n:Nat)=>if((n:Nat):Int)∈C then[]else jW S lo hi C k (Bp d n) (n+1)
def Ux(x:Int×(Nat->Bool)):Array M:= #[gN x.1 x.2]
def I4(s:Sl)(l:List Int)(x:Nat):Prop:=0<l.length/\∃off,s.A=Y ⟨x,off,I⟩
def eC.keep(h:eC w s l)(hk:aS K w w')(e:∀x,I4 s l x->K x):eC w' s l:=
 ⟨h.1,h.2.1,h.2.2.1,λa=>by
  obtain⟨b,off,c,h2,d⟩:=h.2.2.2 a;exact⟨b,off,c,qP h2 hk.size,λk f=>(H.cell?_of_block (w:=w) (hk.block b h2 (e b ⟨a,off,c⟩))).tn (d k f)⟩⟩
def Ap(bb yb nb:Nat):M:=.func (.func 76) #[] #[.pointer (Y (bb,0)),.pointer (Y (yb,0)),.pointer (Y (nb,0))]
structure ql(w:H)(b:aC)(C:List Int)(l bb yb nb:Nat):Prop where
 box:aK w bb 75 b
 ints:eC w b.C C
 yv:w.heap[yb]?=Y (.cells #[.func (.yield l) #[] #[]] 83 (0,0))
 nv:w.heap[nb]?=Y (.cells #[Ap bb yb nb] 145 (0,0))
def oJ(b:aC)(C:List Int)(bb yb nb:Nat)(x:Nat):Prop:=x=bb\/x=yb\/x=nb\/I4 b.C C x
def ql.keep{l bb yb nb:Nat}(h:ql w b C l bb yb nb)(hk:aS K w w')(a:∀x,oJ b C bb yb nb x->K x):ql w' b C l bb yb nb:=
 ⟨hk.get (a _ (.inl rfl)) h.box,h.ints.keep hk λx c=>a x (.inr (.inr (.inr c))),hk.get (a _ (.inr (.inl rfl))) h.yv,hk.get (a _ (.inr (.inr (.inl rfl)))) h.nv⟩
def one_cell{v:M}(h:w.heap[g]?=Y (.cells #[v] t (0,0))):w (g,0)=Y v:=by
 rw[H.cell?,h];rfl
def I4.lt(h:eC w s l)(e:I4 s l x):x<w.heap.size:=by
 obtain⟨c,o,a⟩:=e;obtain⟨b,off,d,h2,-⟩:=h.2.2.2 c;rw[d]at a;cases a;exact h2
def ql.lt{l bb yb nb:Nat}(h:ql w b C l bb yb nb)(a:oJ b C bb yb nb x):x<w.heap.size:=by
 rcases a with rfl|rfl|rfl|a
 .exact h.box.lt
 .exact(ec.1 h.yv).1
 .exact(ec.1 h.nv).1
 .exact I4.lt h.ints a
def abj(h:vl w g t sh f)(hk:aS K w w')(b:K g):vl w' g t sh f:=by
 obtain⟨cs,e1,a⟩:=h;exact⟨cs,hk.get b e1,a⟩
def Dm{sh ik:Int}(h:vl w g t sh f):vl (w.setCell (g,0) (.int .i64 ik)) g t ik f:=by
 obtain⟨cs,e1,a,e0,b⟩:=h;refine⟨cs.setIfInBounds 0 (.int .i64 ik),by simp[H.setCell,nc,e1],by simpa using a,?_,λj c=>?_⟩
 .simp[a]
 .rw[jx zz,b j c]
def Dp(xs:List (Int×(Nat->Bool)))(J a:(Nat->Prop)->List (Int×(Nat->Bool))->H->Prop)(K:Nat->Prop)(b:List (Int×(Nat->Bool)))(A:H)(e:Ending)(B:H):Prop:=
 Bm K A B λK'=>(e=.returned (.bool true)/\J K' b B)\/(e=.returned (.bool false)/\∃q,q <+: xs/\a K' q B)
def xT(lo hi:Int):(gF lo hi).length=(hi-lo+1).toNat:=by simp[gF]
def vF{lo hi:Int}{i:Nat}(h:lo+(i:Int)<=hi):(gF lo hi).take (i+1)=(gF lo hi).take i++[lo+(i:Int)]:=by
 rw[lh (by rw[xT];omega)];simp[gF]
theorem Lb(b:aC)(g1: -3<=b.lo)(g2:b.hi<=3)(g3:b.lo<=b.hi)(C:List Int)(l bb yb nb E:Nat)(xs:List (Int×(Nat->Bool)))(J R:(Nat->Prop)->List (Int×(Nat->Bool))->H->Prop)
  (T:xP E J)(Z:Yields F l Ux xs E J R)(sh:Int)(d:Nat->Bool)(step:Nat)(k:List (Int×(Nat->Bool)))(K:Nat->Prop)(A:H)
  (o:ql A b C l bb yb nb)(b4:E<=A.heap.size)(U:∀x,K x->x<A.heap.size/\¬oJ b C bb yb nb x)(a8:J K k A)(a2:k++(gF b.lo b.hi).map (λs=>(s,d)) <+: xs):
  PH F 76 #[gN sh d,.int .i64 step,.int .i64 0,.pointer (Y (bb,0)),.pointer (Y (yb,0)),.pointer (Y (nb,0))] A (Dp xs J R K (k++(gF b.lo b.hi).map (λs=>(s,d))) A):=by
 have c3:=o.box.lt;have c4:=(ec.1 o.yv).1;refine(callsIn_wide (n:=9)).1 ?_;refine callsIn_of_wp Tryz.func76 rfl qYB ?_ rfl;have O:=Hm o;have HK:=Hm U;have N:=Hm T;have a5:=Hm Z;have a3:=Hm a2;have a7:=aM o.box;clear o U T Z a2;obtain⟨x0,x1,x2,x3,x4,x5,x6,x7,x8,x9,b7,b8,b9⟩:=a7;unfold gN;simp only[Tryz.ntmps76,List.size_toArray,ed,lA,Nat.reduceAdd,Nat.reduceSub,zR];gi_wp2;gi_loopw [] (λwr=>∃(i:Nat) (g:Nat->Prop),b.lo+(i:Int)<=b.hi+1/\vl wr A.heap.size 82 (b.lo+i) d/\aS (λx=>¬K x) A wr/\(∀x,g x->x<wr.heap.size/\(K x\/A.heap.size<x))/\J g (k++((gF b.lo b.hi).take i).map (λs=>(s,d))) wr)
  (λwr=>(b.hi+1-intOf ((wr.cell? ⟨A.heap.size,0,I⟩).getD D)).toNat)
 case atStart=>
  have b3:=vl.new A 82 b.lo d;refine⟨0,K,?_,by simpa using b3,(aS.refl _ A).alloc _,λx c=>?_,?_⟩
  .simp;omega
  .have:=(HK.out x c).1;exact⟨by rw[aa];omega,.inl c⟩
  .simpa using N.out K k A _ a8 b4 ((aS.refl _ A).alloc _)
 case round=>
  obtain⟨i,g,hi,z,hk,j,r⟩:=hrel;have y:∀x,oJ b C bb yb nb x->¬K x:=λx h c=>(HK.out x c).2 h;have q:=O.out.keep hk y;have b1:¬K A.heap.size:=λh=>by have:=(HK.out _ h).1;omega
  have c1:(A:Nat)<wr:=z.lt;have c2:=one_cell q.yv;obtain⟨x0,x1,x2,x3,x4,x5,x6,x7,x8,x9,b7,b8,b9⟩:=aM q.box;obtain⟨s0,s1,s2,s3,s4,s5,s6,s7,s8,s9,c5,c6,c7⟩:=z.all;by_cases hle:b.lo+(i:Int)<=b.hi
  .have L:(k++((gF b.lo b.hi).take i).map (λs=>(s,d)))++[(b.lo+(i:Int),d)] <+: xs:=by
    refine List.IsPrefix.tn ?_ a3.out;have:=vF hle;rw[ml,show[(b.lo+(i:Int),d)]=[b.lo+(i:Int)].map (λs=>(s,d))from rfl,<- mr,<- this];exact(List.prefix_append_right_inj _).2 ((List.take_prefix _ _).map _)
   obtain⟨fn,tmps,assign,body,b6,W⟩:=a5.out g _ (b.lo+(i:Int),d) wr (9-1) r L zz (λx c=>(j x c).1);have a4:=Hm L;have V:∀x,oJ b C bb yb nb x->¬g x:=λx h c=>by
    rcases(j x c).2 with a|a
    .exact y x h a
    .have:=O.out.lt h;omega
   have a1:¬g A.heap.size:=λh=>by
    rcases(j _ h).2 with a|a
    .exact b1 a
    .omega
   have b0:=Hm q;have P:=Hm z;have f:=Hm j;have b':=Hm V;have u:=Hm hk;have Q:=Hm hle;clear q z j V y L r hk;dsimp only[Ux,gN]at b6;gi_wp2_with (refine W.mono ?_;clear W;rintro e B ⟨m,v,w,(⟨rfl,a9⟩|⟨rfl,b5⟩)⟩<;>(have t:=Hm (abj P.out w a1);have z0:=t.out.cell0;have c8:=t.out.free 0))
   .go_roundw
    case rel=>
     have a':aS (λx=>¬K x) A B:=u.out.tn' w (λx c h G=>by
      rcases(f.out x G).2 with a|a
      .exact h a
      .omega)
     have b2:¬m A.heap.size:=λh=>by
      rcases(v _ h).2 with a|a
      .exact a1 a
      .omega
     refine⟨i+1,m,zz,?_,a'.set (p:=⟨A.heap.size,0,I⟩) (λh=>by simp at h) _,?_,?_⟩
     .have:=Dm (ik:=b.lo+((i+1:Nat):Int)) t.out;simpa[Int.add_assoc]using this
     .intro x c;have a:=v x c;refine⟨by simpa[H.setCell]using a.1,?_⟩;rcases a.2 with h2|h2
      .exact(f.out x h2).2
      .right;omega
     .have a0:aS (λb=>m b\/b<E) B (B.setCell (A.heap.size,0) (.int .i64 (b.lo+(i:Int)+1))):=(aS.refl _ B).set (p:=⟨A.heap.size,0,I⟩) (λ_ h=>by
       rcases h with h|h
       .exact b2 h
       .simp at h;omega) _
      have:=N.out m _ B _ a9 (by have:=w.size;omega) a0;rw[vF Q.out];simpa[ml]using this
    case measure=>
     have a:=(Dm (ik:=b.lo+(i:Int)+1) t.out).cell0;have h0:=P.out.cell0;rw[a,h0];have:=Q.out;simp only[zQ,intOf];omega
   .go_ret;refine⟨m,λx c=>⟨(v x c).1,?_⟩,u.out.tn' w (λx c h G=>?_),.inr ⟨rfl,_,a4.out,b5⟩⟩
    .rcases(v x c).2 with a|a
     .rcases(f.out x a).2 with h2|h2
      .exact .inl h2
      .right;omega
     .right;omega
    .rcases(f.out x G).2 with a|a
     .exact h a
     .omega
  .have e:b.lo+(i:Int)=b.hi+1:=zz;have S:(gF b.lo b.hi).take i=gF b.lo b.hi:=List.take_of_length_le (by rw[xT];omega);rw[S]at r;have a6:=Hm r;have f:=Hm j;have u:=Hm hk;clear r j hk S y q;gi_wp2;go_ret;exact⟨g,λx c=>⟨(f.out x c).1,(f.out x c).2.elim .inl λh=>.inr zz⟩,u.out,.inl ⟨rfl,a6.out⟩⟩
end
section
attribute [local go_sem] Oper.semAt_some
def qm(S:Nat)(lo hi:Int)(C:List Int)(k:Nat)(d:Nat->Bool)(n:Nat):List (Int×(Nat->Bool)):=(List.range' n (S-n)).flatMap λ(n:Nat)=>if((n:Nat):Int)∈C then[]else jW S lo hi C k (Bp d n) (n+1)
def FY(S:Nat)(lo hi:Int)(C:List Int)(k:Nat)(d:Nat->Bool)(n:Nat):jW S lo hi C (k+1) d n=qm S lo hi C k d n:=rfl
def FZ{S:Nat}(lo hi:Int)(C:List Int)(k:Nat)(d:Nat->Bool){n:Nat}(h:n<S):qm S lo hi C k d n=(if(n:Int)∈C then[]else jW S lo hi C k (Bp d n) (n+1))++qm S lo hi C k d (n+1):=by
 unfold qm;rw[show S-n=(S-(n+1))+1 by omega,List.range'_succ,lv]
def Lc(S:Nat)(lo hi:Int)(C:List Int)(k:Nat)(d:Nat->Bool):qm S lo hi C k d S=[]:=by simp[qm]
def N4{w:H}{g n:Nat}{t:Lk}{sh:Int}{d:Nat->Bool}(h:vl w g t sh d)(b:n<12):vl (w.setCell (g,1+n) (.bool true)) g t sh (Bp d n):=
 h.set b (by simp[Bp]) (λj _ a=>by simp[Bp,a])
def Aq{s:Sl}{l:List Int}{x:Int}{v:Bool}(a:decide (x∈l)=v)(w:H)(hl:eC w s l):
  PH F 60 #[.slice s.A s.n s.c,.int .i64 x] w λe w'=>e=.returned (.bool v)/\w=w':=a▸jO s l x w hl
theorem Sj(b:aC)(g1: -3<=b.lo)(g2:b.hi<=3)(g3:b.lo<=b.hi)(g4:0<=b.S)(g5:b.S<=12)(C:List Int)(l m y u W:Nat)(xs:List (Int×(Nat->Bool)))(J a2:(Nat->Prop)->List (Int×(Nat->Bool))->H->Prop)
  (a4:xP W J)(a7:Yields F l Ux xs W J a2)(sh:Int):∀(left:Nat) (j:Int) (G:j=left) (d':left<=100) (d:Nat->Bool) (step:Nat) (st:Int) (O:st=step) (c2:step<=b.S.toNat) (g:List (Int×(Nat->Bool))) (K:Nat->Prop) (A:H)
  (i:ql A b C l m y u) (U:W<=A.heap.size) (z:∀x,K x->x<A.heap.size/\¬oJ b C m y u x) (R:J K g A) (L:g++jW b.S.toNat b.lo b.hi C left d step <+: xs),
  PH F 76 #[gN sh d,.int .i64 st,.int .i64 j,.pointer (Y (m,0)),.pointer (Y (y,0)),.pointer (Y (u,0))] A (Dp xs J a2 K (g++jW b.S.toNat b.lo b.hi C left d step) A):=by
 intro left
 induction left with
 | zero=>
  intro j G _ d step st O _ g K A i U z R L;subst G O;exact Lb b g1 g2 g3 C l m y u W xs J a2 a4 a7 sh d step g K A i U z R L
 | succ left c3=>
  intro j G d' d step st O c2 g K A i U z R L;have f0:=i.box.lt;have g6:=(ec.1 i.yv).1;have f':(j==0)=false:=by simp;omega
  have f3:1<=j:=zz;have f4:j<=101:=zz;have f7:0<=st:=zz;have f8:st<=12:=zz;refine(callsIn_wide (n:=9)).1 ?_;refine callsIn_of_wp Tryz.func76 rfl qYB ?_ rfl;have b6:=Hm i;have HK:=Hm z;have b5:=Hm a4;have f2:=Hm a7;have c6:=Hm L;have c4:=Hm c3;have d1:=Hm G;have d3:=Hm O;have d8:=aM i.box;clear i z a4 a7 L c3 G O;obtain⟨x0,x1,x2,x3,x4,x5,x6,x7,x8,x9,e8,e9,e'⟩:=d8;unfold gN;simp only[Tryz.ntmps76,List.size_toArray,ed,lA,Nat.reduceAdd,Nat.reduceSub,zR];gi_wp2;gi_loopw [10] (λv wr=>∃(n:Nat) (f:Nat->Prop) (w:List (Int×(Nat->Bool))),n<=b.S.toNat/\v=.int .i64 n/\vl wr A.heap.size 82 sh d/\aS (λx=>¬K x) A wr/\(∀x,f x->x<wr.heap.size/\(K x\/A.heap.size<x))/\PQ (w++qm b.S.toNat b.lo b.hi C left d n=g++jW b.S.toNat b.lo b.hi C (left+1) d step)/\J f w wr)
   (λv wr=>b.S.toNat-(intOf v).toNat)
  case atStart=>
   have e2:=vl.new A 82 sh d;refine⟨step,K,g,c2,by rw[d3.out],by simpa using e2,(aS.refl _ A).alloc _,λx a=>?_,by rw[PQ,FY],?_⟩
   .have:=(HK.out x a).1;exact⟨by rw[aa];omega,.inl a⟩
   .simpa using b5.out K g A _ R U ((aS.refl _ A).alloc _)
  case round=>
   obtain⟨n,f,w,f6,rfl,V,hk,P,N,T⟩:=hrel;have b1:∀x,oJ b C m y u x->¬K x:=λx h a=>(HK.out x a).2 h;have a5:=b6.out.keep hk b1;have d0:¬K A.heap.size:=λh=>by have:=(HK.out _ h).1;omega
   have f9:(A:Nat)<wr:=V.lt;have b9:∀x,oJ b C m y u x->¬f x:=λx h a=>by
    rcases(P x a).2 with c|c
    .exact b1 x h c
    .have:=b6.out.lt h;omega
   have e1:¬f A.heap.size:=λh=>by
    rcases(P _ h).2 with c|c
    .exact d0 c
    .omega
   obtain⟨x0,x1,x2,x3,x4,x5,x6,x7,x8,x9,e8,e9,e'⟩:=aM a5.box;obtain⟨s0,s1,s2,s3,s4,s5,s6,s7,s8,s9,e5,e6,e7⟩:=V.all;have Z:=Hm a5;have b7:=Hm V;have k:=Hm P;have c5:=Hm b9;have a1:=Hm hk;clear a5 V P b9 b1 hk;by_cases f5:(n:Int)<b.S
   .have t:=FZ (S:=b.S.toNat) b.lo b.hi C left d (n:=n) zz;cases o:decide ((n:Int)∈C)
    .have a':=λw1 c=>Aq (s:=b.C) o w1 c;have HR:PQ (qm b.S.toNat b.lo b.hi C left d n=jW b.S.toNat b.lo b.hi C left (Bp d n) (n+1)++qm b.S.toNat b.lo b.hi C left d (n+1)):=by
      rw[qVB (by simpa using o)]at t;exact t
     clear t o;gi_upto_region 13 with(refine⟨qYB,?_⟩;gi_at_call 60;refine(callsIn_wide.2 (a' _ Z.out.ints)).mono ?_;rintro e v1 ⟨rfl,rfl⟩)
     have E:=vl.new wr 82 sh d;have a0:=(aS.refl (λ_=>True) wr).alloc (.cells #[.int .i64 sh,.bool (d 0),.bool (d 1),.bool (d 2),.bool (d 3),.bool (d 4),.bool (d 5),.bool (d 6),.bool (d 7),.bool (d 8),.bool (d 9),.bool (d 10),.bool (d 11)] 82);have b4:=aa wr (.cells #[.int .i64 sh,.bool (d 0),.bool (d 1),.bool (d 2),.bool (d 3),.bool (d 4),.bool (d 5),.bool (d 6),.bool (d 7),.bool (d 8),.bool (d 9),.bool (d 10),.bool (d 11)] 82);generalize wr.alloc (.cells #[.int .i64 sh,.bool (d 0),.bool (d 1),.bool (d 2),.bool (d 3),.bool (d 4),.bool (d 5),.bool (d 6),.bool (d 7),.bool (d 8),.bool (d 9),.bool (d 10),.bool (d 11)] 82)=a3 at E a0 b4|-;clear s0 s1 s2 s3 s4 s5 s6 s7 s8 s9 e5 e6 e7;have d6:=E.cell n zz;have cf:=E.free (1+n);have c8:=Hm E;have c':=Hm a0;have d5:=Hm b4;clear E a0 b4;gi_upto_region 14 with(fail)
     have Q:=N4 c8.out (n:=n) zz;have r:=c'.out.tn' (K':=λx=>x≠wr.heap.size) ((aS.refl (λx=>x≠wr.heap.size) a3).set (p:=⟨wr.heap.size,1+n,I⟩) (λ_ h=>h rfl) (.bool true)) (λx a _ e=>zz);have b3:(a3.setCell (wr.heap.size,1+n) (.bool true)).heap.size=wr.heap.size+1:=by rw[<- d5.out];simp[H.setCell]
     generalize a3.setCell ⟨wr.heap.size,1+n,I⟩ (.bool true)=b8 at Q r b3|-;have a6:=Z.out.keep r (λ_ _=>trivial);have b':=b5.out f w wr b8 T zz (r.mono λ_ _ _=>trivial);have a9:=c4.out (j-1) (by rw[d1.out];omega) zz (Bp d n) (n+1) ((n:Int)+1) zz zz w f b8 a6 zz (λx a=>by
      have:=(k.out x a).1;exact⟨zz,λh=>c5.out x h a⟩) b' (by
       refine List.IsPrefix.tn ?_ c6.out;rw[<- N.out,HR.out,<- ml];exact List.prefix_append _ _)
     obtain⟨z0,z1,z2,z3,z4,z5,z6,z7,z8,z9,g7,g8,g9⟩:=Q.all;have e0:=one_cell a6.nv;unfold Ap at e0;have f1:=Hm Q;have c9:=Hm r;have d4:=Hm b3;have d2:=Hm (abj b7.out r qYB);clear Q r b3 a6 b' d6 cf T;unfold gN at a9;gi_wp2_with (refine⟨qYB,?_⟩;gi_at_call 76;refine(callsIn_wide.2 a9).mono ?_;clear a9;rintro e B ⟨K2,d7,b0,(⟨rfl,d9⟩|⟨rfl,q,e3,e4⟩)⟩)
     all_goals
      have c1:aS (λx=>¬K x) A B:=(a1.out.tn (c9.out.mono λ_ _ _=>trivial)).tn' b0 (λx a h h'=>by
       rcases(k.out x h').2 with c|c
       .exact h c
       .omega)
      have a8:∀x,K2 x->x<B.heap.size/\(K x\/A.heap.size<x):=λx a=>by
       have c:=d7 x a;refine⟨c.1,?_⟩;rcases c.2 with h2|h2
       .exact(k.out x h2).2
       .have:=d4.out;right;omega
     .go_roundw
      case rel=>
       exact⟨n+1,K2,_,zz,by go_num,abj d2.out b0 e1,c1,a8,by rw[PQ,ml,<- HR.out];exact N.out,d9⟩
      case measure=>simp[intOf];omega
     .go_ret;exact⟨K2,λx a=>⟨(a8 x a).1,(a8 x a).2.elim .inl λh=>.inr zz⟩,c1,.inr ⟨rfl,q,e3,e4⟩⟩
    .have a':=λw1 c=>Aq (s:=b.C) o w1 c;have HR:PQ (qm b.S.toNat b.lo b.hi C left d n=qm b.S.toNat b.lo b.hi C left d (n+1)):=by
      rw[qWB (by simpa using o)]at t;exact t
     clear t o;gi_wp2_with (refine⟨qYB,?_⟩;gi_at_call 60;refine(callsIn_wide.2 (a' _ Z.out.ints)).mono ?_;rintro e v1 ⟨rfl,rfl⟩);go_roundw
     case rel=>
      exact⟨n+1,f,w,zz,by go_num,b7.out,a1.out,k.out,by rw[PQ,<- HR.out];exact N.out,T⟩
     case measure=>simp[intOf];omega
   .have e:n=b.S.toNat:=zz;have b2:=N.out;rw[e,Lc,List.append_nil]at b2;have c7:=Hm b2;clear b2 e N;gi_wp2;go_ret;exact⟨f,λx a=>⟨(k.out x a).1,(k.out x a).2.elim .inl λh=>.inr zz⟩,a1.out,.inl ⟨rfl,c7.out▸T⟩⟩
end
section
attribute [local go_sem] Oper.semAt_some
def tP(S:Nat)(lo hi:Int)(C:List Int)(most m:Nat):List (Int×(Nat->Bool)):=(List.range' m (most+1-m)).flatMap λk=>jW S lo hi C k mI 0
def gT(b:aC)(C:List Int)(most:Nat):List (Int×(Nat->Bool)):=tP b.S.toNat b.lo b.hi C most 0
def Ga(S:Nat)(lo hi:Int)(C:List Int){most m:Nat}(h:m<most+1):tP S lo hi C most m=jW S lo hi C m mI 0++tP S lo hi C most (m+1):=by
 unfold tP;rw[show most+1-m=(most+1-(m+1))+1 by omega,List.range'_succ,lv]
def Ld(S:Nat)(lo hi:Int)(C:List Int)(most:Nat):tP S lo hi C most (most+1)=[]:=by simp[tP]
def mJ(a b:Nat):M:=.func (.func 75) #[] #[.pointer (Y (a,0)),.pointer (Y (b,0))]
theorem uK(b:aC)(most:Int)(w:H):
  PH F 32 #[b.v,.int .i64 most] w λe w'=>e=.returned (mJ w (w.heap.size+1))/\w'=(w.alloc (aE b 75)).alloc (.cells #[.int .i64 most] 3):=by
 unfold aC.v aE mJ;go_enter Tryz.func32,Tryz.ntmps32;go_wp2;go_ret;exact⟨rfl,rfl⟩
def Le(b:aC)(C:List Int)(a c:Nat)(x:Nat):Prop:=x=a\/x=c\/I4 b.C C x
theorem sP(b:aC)(g1: -3<=b.lo)(g2:b.hi<=3)(g3:b.lo<=b.hi)(g4:0<=b.S)(g5:b.S<=12)(C:List Int)(d p most:Nat)(d1:most<=100)(w:H)
  (hB:aK w d 75 b)(U:eC w b.C C)(a3:w.heap[p]?=Y (.cells #[.int .i64 most] 3 (0,0))):
  Y1 F 75 #[.pointer (Y (d,0)),.pointer (Y (p,0))] Ux (Le b C d p) (gT b C most) w:=by
 intro l J b7 i W y a5 a1 V Z a6 h0;have j:=y.get (.inl rfl) hB;have g:=y.get (.inr (.inl rfl)) a3;have o:=U.keep y (λx c=>.inr (.inr c));have c7:=(ec.1 j).1;have c8:=(ec.1 g).1;have d2:=one_cell g;have a':=Hm j;have b2:=Hm g;have R:=Hm o;have b4:=Hm a5;have s:=Hm a1;have S:=Hm V;have c9:=Hm Z;have b6:=Hm a6;clear hB a3 U y j g o a5 a1 V Z a6;refine(callsIn_wide (n:=9)).1 ?_;refine callsIn_of_wp Tryz.func75 rfl qYB ?_ rfl;simp only[Tryz.ntmps75,List.size_toArray,ed,lA,Nat.reduceAdd,Nat.reduceSub,zR];gi_wp2;gi_loopw [9] (λv wr=>∃(m:Nat) (f:Nat->Prop) (r:List (Int×(Nat->Bool))),m<=most+1/\v=.int .i64 m/\wr.heap[W.heap.size]?=Y (.cells #[.func (.yield l) #[] #[]] 83 (0,0))/\wr.heap[W.heap.size+1]?=Y (.cells #[Ap d W.heap.size (W.heap.size+1)] 145 (0,0))/\aS (λx=>¬i x) W wr/\(∀x,f x->x<wr.heap.size/\(i x\/W.heap.size+1<x))/\PQ (r++tP b.S.toNat b.lo b.hi C most m=gT b C most)/\J f r wr)
  (λv wr=>most+1-(intOf v).toNat)
 case atStart=>
  have hk:∀K,aS K W ((W.alloc (.cells #[.func (.yield l) #[] #[]] 83)).alloc (.cells #[Ap d W (W.heap.size+1)] 145)):=λK=>((aS.refl K W).alloc _).alloc _;refine⟨0,i,[],zz,rfl,?_,?_,hk _,λx c=>?_,rfl,S.out _ _ _ _ h0 (qN _) (hk _)⟩
  .exact(QR _ _ (by rw[aa];omega)).tn (Sp _ _)
  .have:=Sp (W.alloc (.cells #[.func (.yield l) #[] #[]] 83)) (.cells #[Ap d W.heap.size (W.heap.size+1)] 145);rw[aa]at this;exact this
  .have:=s.out x c;exact⟨by simp only[aa];omega,.inl c⟩
 case round=>
  obtain⟨m,f,r,d4,rfl,a9,z,hk,t,A,N⟩:=hrel;have d5:=hk.size;have c':=(ec.1 z).1;have k:∀x,Le b C d p x->¬i x:=b4.out;have j:=hk.get (k _ (.inl rfl)) a'.out;have g:=hk.get (k _ (.inr (.inl rfl))) b2.out;have o:=R.out.keep hk (λx c=>k x (.inr (.inr c)));have d3:=one_cell g;have c4:=one_cell z;unfold Ap at c4;have a4:ql wr b C l d W (W.heap.size+1):=⟨j,o,a9,z⟩;have a8:∀x,Le b C d p x->x<W.heap.size:=λx c=>by
   rcases c with rfl|rfl|c
   .exact c7
   .exact c8
   .exact I4.lt R.out c
  have a2:∀x,f x->x<wr.heap.size/\¬oJ b C d W (W.heap.size+1) x:=λx c=>by
   refine⟨(t x c).1,?_⟩;rcases(t x c).2 with a|a
   .have h2:=s.out x a;rintro(rfl|rfl|rfl|h)
    .exact k _ (.inl rfl) a
    .omega
    .omega
    .exact k _ (.inr (.inr h)) a
   .rintro(rfl|rfl|rfl|h)
    .omega
    .omega
    .omega
    .have:=a8 x (.inr (.inr h));omega
  have T:=Hm hk;have a0:=Hm t;have E:=Hm a4;have b1:=Hm a2;clear hk t a4 a2 j g o a9 z k a8;by_cases b0:m<most+1
  .have Q:=Ga b.S.toNat b.lo b.hi C b0;have L:=Sj b g1 g2 g3 g4 g5 C l d W.heap.size (W.heap.size+1) W.heap.size (gT b C most) J b7 S.out b6.out 0 m m rfl zz mI 0 0 rfl zz r f wr E.out zz b1.out N (by
    rw[<- A.out,Q,<- ml];exact List.prefix_append _ _)
   have b5:=Hm Q;clear Q N;unfold gN mI at L;have c1:(m:Int)<(most:Int)+1:=zz;gi_wp2_with (refine⟨qYB,?_⟩;gi_at_call 76;refine(callsIn_wide.2 L).mono ?_;clear L;rintro e B ⟨G,b8,O,(⟨rfl,b'⟩|⟨rfl,q,c5,c6⟩)⟩)
   all_goals
    have u:=a0.out;have c2:¬f W.heap.size:=λh=>by
     rcases(u _ h).2 with a|a
     .have:=s.out _ a;omega
     .omega
    have c3:¬f (W.heap.size+1):=λh=>by
     rcases(u _ h).2 with a|a
     .have:=s.out _ a;omega
     .omega
    have a7:aS (λx=>¬i x) W B:=T.out.tn' O (λx c h h'=>by
     rcases(u x h').2 with a|a
     .exact h a
     .omega)
    have b9:∀x,G x->x<B.heap.size/\(i x\/W.heap.size+1<x):=λx c=>by
     have a:=b8 x c;refine⟨a.1,?_⟩;rcases a.2 with h2|h2
     .exact(u x h2).2
     .right;omega
   .go_roundw
    case rel=>
     exact⟨m+1,G,_,zz,by go_num,O.get c2 E.out.yv,O.get c3 E.out.nv,a7,b9,by rw[PQ,ml];exact(cd (r ++ ·) b5.out.symm).tn A.out,b'⟩
    case measure=>simp[intOf];omega
   .refine bd (results_none rfl _ _ _) rfl ?_;exact⟨⟨_,rfl⟩,a7.size,G,.inr ⟨q,c5,c6⟩⟩
  .have e:m=most+1:=zz;have P:=A.out;rw[e,Ld,List.append_nil]at P;have b3:=Hm P;have c1:¬(m:Int)<(most:Int)+1:=zz;clear P e A;gi_wp2;go_end0;exact⟨⟨_,rfl⟩,T.out.size,f,.inl (b3.out▸N)⟩
end
section
attribute [local go_sem] Oper.semAt_some
variable{x:Int×(Nat->Bool)}{b:aC}
def fM(b:aC)(l:pK)(x:Int×(Nat->Bool)):Bool:=oI b.S b.L x.1 x.2 l.U l.W
def lK(b:aC)(l:pK)(most:Nat):Bool:=(gT b l.C most).any (fM b l)
def zC(x:Int×(Nat->Bool)):Array M:= #[.int .i64 x.1,.bool (x.2 0),.bool (x.2 1),.bool (x.2 2),.bool (x.2 3),.bool (x.2 4),.bool (x.2 5),.bool (x.2 6),.bool (x.2 7),.bool (x.2 8),.bool (x.2 9),.bool (x.2 10),.bool (x.2 11)]
def Gd{w:H}{g:Nat}{t:Lk}(h:w.heap[g]?=Y (.cells (zC x) t (0,0))):vl w g t x.1 x.2:=
 ⟨_,h,rfl,rfl,λi hi=>by
  rcases(show i=0\/i=1\/i=2\/i=3\/i=4\/i=5\/i=6\/i=7\/i=8\/i=9\/i=10\/i=11 from zz)with rfl|rfl|rfl|rfl|rfl|rfl|rfl|rfl|rfl|rfl|rfl|rfl<;>rfl⟩
def Ds(S:Nat)(lo hi:Int)(C:List Int):∀(k:Nat) (d:Nat->Bool) (n:Nat),∀x∈jW S lo hi C k d n,lo<=x.1/\x.1<=hi
 | 0,d,n,x,a=>by
  simp only[jW,gF,List.map_map,List.mem_map,List.mem_range]at a;obtain⟨i,hi,rfl⟩:=a;simp only[Function.comp];omega
 | k+1,d,n,x,a=>by
  simp only[jW,List.mem_flatMap]at a;obtain⟨m, -, b⟩:=a;split at b
  .simp at b
  .exact Ds S lo hi C k _ _ x b
def qn{C:List Int}{most:Nat}(a:x∈gT b C most):b.lo<=x.1/\x.1<=b.hi:=by
 simp only[gT,tP,List.mem_flatMap]at a;obtain⟨m, -, c⟩:=a;exact Ds _ _ _ _ _ _ _ _ c
def Ge{l:pK}(a:ay b l=0)(i:b.lo<=x.1)(h2:x.1<=b.hi){v:Bool}(c:fM b l x=v)(w:H)(hl:aI w b l):
  PH F 33 #[b.v,gN x.1 x.2] w λe w'=>e=.returned (.bool v)/\X w w w':=by
 obtain⟨d,f,j,m,g,h,n,o,p,-⟩:=cS (bP a).1;have:=Ao b d f g h x.1 zz zz x.2 l.U (λk hk=>kP (bP a).2.2.1 k hk) l.W (λk hk=>Gb (bP a).2.2.2.2 k hk) w hl.U hl.W;rw[<- c];exact this
theorem xU(b:aC)(l:pK)(a2:ay b l=0)(w:H)(hl:aI w b l):
  PH F 66 #[b.v] w λe w'=>e=.returned (.bool (lK b l b.D.toNat))/\X w w w':=by
 have o:=Hm hl;have U:=Hm a2;have P:=λw1=>uK b b.D w1;clear hl a2;refine(callsIn_wide (n:=9)).1 ?_;refine callsIn_of_wp_marks Tryz.func66 rfl qYB ?_ rfl;unfold aC.v at P|-;unfold mJ aE at P;simp only[Tryz.ntmps66,List.size_toArray,ed,lA,Nat.reduceAdd,Nat.reduceSub,zR];gi_wp2_with (refine⟨qYB,?_⟩;gi_at_call 32;refine(callsIn_wide.2 (P _)).mono ?_;rintro e v1 ⟨rfl,rfl⟩);have b5:((((w.alloc (aE b 75)).alloc (.cells #[.bool false] 4)).alloc (aE b 75)).alloc (.cells #[.int .i64 b.D] 3)).heap.size=w.heap.size+4:=by simp only[aa]
 have a3:=((((aS.refl (λ_=>True) w).alloc (aE b 75)).alloc (.cells #[.bool false] 4)).alloc (aE b 75)).alloc (.cells #[.int .i64 b.D] 3);have V:((((w.alloc (aE b 75)).alloc (.cells #[.bool false] 4)).alloc (aE b 75)).alloc (.cells #[.int .i64 b.D] 3)).heap[w.heap.size]?=Y (aE b 75):=
  (QR _ _ (by simp only[aa];omega)).tn ((QR _ _ (by simp only[aa];omega)).tn ((QR _ _ (by simp only[aa];omega)).tn (Sp _ _)))
 have k:((((w.alloc (aE b 75)).alloc (.cells #[.bool false] 4)).alloc (aE b 75)).alloc (.cells #[.int .i64 b.D] 3)).heap[w.heap.size+1]?=Y (.cells #[.bool false] 4 (0,0)):=
  (QR _ _ (by simp only[aa];omega)).tn ((QR _ _ (by simp only[aa];omega)).tn (by rw[<- aa w (aE b 75)];exact Sp _ _))
 have Z:((((w.alloc (aE b 75)).alloc (.cells #[.bool false] 4)).alloc (aE b 75)).alloc (.cells #[.int .i64 b.D] 3)).heap[w.heap.size+1+1]?=Y (aE b 75):=
  (QR _ _ (by simp only[aa];omega)).tn (by rw[<- aa w (aE b 75),<- aa (w.alloc (aE b 75)) (.cells #[.bool false] 4)];exact Sp _ _)
 have v:((((w.alloc (aE b 75)).alloc (.cells #[.bool false] 4)).alloc (aE b 75)).alloc (.cells #[.int .i64 b.D] 3)).heap[w.heap.size+1+1+1]?=Y (.cells #[.int .i64 b.D] 3 (0,0)):=by
  rw[<- aa w (aE b 75),<- aa (w.alloc (aE b 75)) (.cells #[.bool false] 4),<- aa ((w.alloc (aE b 75)).alloc (.cells #[.bool false] 4)) (aE b 75)];exact Sp _ _
 change Ly.wpIn _ _ _ _ _ _ ((((w.alloc (aE b 75)).alloc (.cells #[.bool false] 4)).alloc (aE b 75)).alloc (.cells #[.int .i64 b.D] 3));generalize((((w.alloc (aE b 75)).alloc (.cells #[.bool false] 4)).alloc (aE b 75)).alloc (.cells #[.int .i64 b.D] 3))=r at b5 a3 V k Z v|-;obtain⟨t1,t2,t3,t4,t5,t6,t7,t8,t9,-⟩:=cS (bP U.out).1;have a1:b.D=((b.D.toNat:Nat):Int):=zz;rw[a1]at v;clear a1;have z:X w w r:=a3.below (qN _) (λ_ _=>trivial);refine qg (R:=Le b l.C (w.heap.size+1+1) (w.heap.size+1+1+1)) (xs:=gT b l.C b.D.toNat) (encs:=Ux) rfl (enters_of Tryz.func75 kr rfl)
  (sP b t7 t9 t8 zz t2 l.C (w.heap.size+1+1) (w.heap.size+1+1+1) b.D.toNat zz r Z (o.out.C.below z) v) (λ_=>rfl)
  (λx=>x=w.heap.size+1) ?rk ?rl (λx d=>zz)
  (λK i W=>K=(λx=>x=w.heap.size+1)/\X r.heap.size r W/\PQ (i.any (fM b l)=false))
  (λK i W=>K=(λx=>x=w.heap.size+1)/\X w.heap.size w W/\W.heap[w.heap.size+1]?=Y (.cells #[.bool true] 4 (0,0))/\PQ (i.any (fM b l)=true))
  ?li ?lx ⟨rfl,X.refl _ _,rfl⟩ 82 zC
  (λx T=> {tmps:= #[b.v,.pointer (Y ⟨w.heap.size,0,I⟩),.pointer (Y ⟨w.heap.size+1,0,I⟩),.pointer (Y ⟨T,0,I⟩),b.v,.pointer (Y ⟨w.heap.size,0,I⟩),.pointer (Y ⟨w.heap.size,1,I⟩),.int .i64 b.D,mJ (w.heap.size+1+1) (w.heap.size+1+1+1),gN x.1 x.2,Hc,Hc,Hc],defers:=[]})
  ?assign ?body ?done ?stop
 case rk=>
  rintro x (rfl|rfl|d) h
  .omega
  .omega
  .have:=I4.lt o.out.C d;omega
 case rl=>
  rintro x (rfl|rfl|d)
  .omega
  .omega
  .have:=I4.lt o.out.C d;omega
 case li=>
  rintro K i A B ⟨rfl,j,h2⟩ a5 hk;exact⟨rfl,j.tn (hk.below a5 (λx d=>.inr d)),h2⟩
 case lx=>
  rintro K i A B ⟨rfl,j,h2,h3⟩ a5 hk;exact⟨rfl,j.tn (hk.below zz (λx d=>.inr zz)),hk.get (.inl rfl) h2,h3⟩
 case assign=>
  intro a6 x W b8 g;unfold aC.v mJ gN zC at g;unfold Ux gN;gi_wp2;exact g
 case body=>
  rintro a6 K i x W T ⟨rfl,a,c⟩ G b9 u b';have b1:x∈gT b l.C b.D.toNat:=by
   obtain⟨t,Q⟩:=G;rw[<- Q];simp
  obtain⟨e1,e2⟩:=qn b1;obtain⟨y0,y1,y2,y3,y4,y5,y6,y7,y8,y9,c6,c7,c8⟩:=aM ((a.block _ zz).tn V);obtain⟨s0,s1,s2,s3,s4,s5,s6,s7,s8,s9,c3,c4,c5⟩:=(Gd u).all;have L:=one_cell ((a.block _ zz).tn k);have b3:W.frozen? (w.heap.size+1,0)=false:=by simp[H.frozen?,(a.block (w.heap.size+1) zz).tn k]
  have C:X w w W:=z.tn (a.mono zz);have b6:=a.size;have a4:(w:Nat)+1<W:=zz;cases J:fM b l x
  all_goals
   have O:=Ge U.out e1 e2 J W (o.out.below C);have HR:=Hm J;have m:=Hm a;have a7:=Hm C;have b7:=Hm u;clear J a C u;unfold aC.v gN at O;unfold aC.v mJ gN;gi_wp2_with (refine⟨qYB,?_⟩;gi_at_call 33;refine CallsIn.mono (CallsIn.inRound a6 (callsIn_wide.2 O)) ?_;clear O;rintro e v1 ⟨rfl,f⟩;obtain⟨b0,c1⟩:=aU f)
  .have b4:=f.size;exact⟨_,λy S=>⟨zz,.inl S⟩,aS.dY f (λ_ h _=>h),rfl,m.out.tn (f.mono b6),by
    rw[PQ,List.any_append,c.out];simp[HR.out]⟩
  .have b4:=f.size;refine⟨_,λy S=>⟨by simp[H.setCell];omega,.inl S⟩,(aS.dY f (λ_ h _=>h)).set (p:=⟨w.heap.size+1,0,I⟩) (λ_ h=>h rfl) _,rfl,(a7.out.tn (f.mono zz)).setCell ss _,?_,by
    rw[PQ,List.any_append];simp[HR.out]⟩
   have b2:=(f.block _ a4).tn ((m.out.block _ zz).tn k);simp[H.setCell,nc,b2]
 case done=>
  rintro D K W a9 a0 ⟨rfl,a,c⟩ g;have q:=(a.block _ zz).tn k;have L:=one_cell q;have b3:W.frozen? (w.heap.size+1,0)=false:=by simp[H.frozen?,q]
  have a4:(w:Nat)+1<W:=zz;have m:=Hm a;have HK:=Hm g;have a8:=Hm q;clear a g q;have c:=c.out;have s:PQ (lK b l b.D.toNat=false):=c;clear c;gi_wp2;have E:w.heap.size+1≠D:=zz;have N:((W.setCell (w.heap.size+1,0) (.bool false)).putObj D (.deferred I)).cell? (w.heap.size+1,0)=Y (.bool false):=one_cell (t:=4) ((H.putObj_heap_other E).tn (by simp[H.setCell,nc,a8.out]));have a':(W.setCell (w.heap.size+1,0) (.bool false)).heap[D]?=Y (.deferred (Y [])):=(X.heap_setCell _ _ _ _ (by show D≠w.heap.size+1;omega)).tn HK.out;refine⟨by simp,.inl ⟨_,_,rfl,run_takeDeferred a',?_⟩⟩;refine⟨.bool false,by simp[results,Tryz.results66,go_sem,N],by rw[s.out],?_⟩;have c2:(W.setCell (w.heap.size+1,0) (.bool false)).heap.size=W.heap.size:=by simp[H.setCell]
  have j:X w w (W.setCell (w.heap.size+1,0) (.bool false)):=(z.tn (m.out.mono zz)).setCell ss _;exact j.tn (((aS.refl (λx=>x≠D) _).put (λ_ h=>h rfl) _).below (n:=w.heap.size) j.size (λx d=>zz))
 case stop=>
  rintro D K i W a9 a0 G ⟨rfl,a,L,c⟩ g;have c:=c.out;have s:PQ (lK b l b.D.toNat=true):=by
   obtain⟨t,Q⟩:=G;unfold lK;rw[PQ,<- Q,List.any_append,c,Bool.true_or]
  clear c;gi_wp2;have E:w.heap.size+1≠D:=zz;have N:(W.putObj D (.deferred I)).cell? (w.heap.size+1,0)=Y (.bool true):=one_cell (t:=4) ((H.putObj_heap_other E).tn L);refine⟨by simp,.inl ⟨_,_,rfl,run_takeDeferred g,?_⟩⟩;refine⟨.bool true,by simp[results,Tryz.results66,go_sem,N],by rw[s.out],?_⟩;exact a.tn (((aS.refl (λx=>x≠D) _).put (λ_ h=>h rfl) _).below (n:=w.heap.size) a.size (λx d=>zz))
end
section
attribute [local go_sem] Oper.semAt_some
def gU(w:H)(base:Nat)(t ty e:Lk)(i:TypeInfo)(z:M)(size bytes:Nat)(h:P.underlying t=Y (.slice e))(hi:P.info? e=Y i)(o:i.zero=Y z)
  (y:i.size=size)(s:i.bytes=bytes)(Q:z.cells.size=size)(O:0<size)
  (v:M)(n:Nat)(xs:List M)(f:w.ownsRow base e size v n xs)
  (a:Addr)(m c:Nat)(news:List M)(hl:news.length=m*size)(d:∀j u,news[j]?=Y u->w.cell? (a.add j)=Y u)(q:∀u∈news,u.oneCell'=true)
  (B:n+m<=maxLen)(l:(n+m)*bytes<=140737488355328)(E:base<=w.heap.size):
  ∃v' w',(Builtin.append_ #[t,t] ty #[v,.slice (Y a) m c]).run P w=.ok v' w'/\w'.ownsRow base e size v' (n+m) (xs++news)/\w.grownBy w' v.ownBlock/\
   (v'=.slice I 0 0↔v=.slice I 0 0/\m=0)/\(v'.ownBlock=v.ownBlock\/v'.ownBlock=Y w):=by
 obtain⟨v',w',b,h2,A,r⟩:=run_append_own (P:=P) w base t ty e i z size bytes h hi o y s Q O v n xs f a m c news hl d q B l E;refine⟨v',w',b,h2,A,r,?_⟩;subst y s;have T:maxLen=9223372036854775807:=rfl;rcases f.2 with⟨rfl,rfl⟩|⟨g,k,p,rfl,R,K,U,S,G,V⟩
 .by_cases L:m=0
  .rw[r.2 ⟨rfl,L⟩];exact .inl rfl
  .have C:=l;rw[kx]at C;rw[run_append_nil (P:=P) w t ty e i z h hi o a m c news hl d zz zz zz]at b;cases b;exact .inr rfl
 .by_cases x:n+m<=k
  .have J:n*i.size+news.length<=p.size:=by rw[hl,G,<- Nat.add_mul];exact Nat.mul_le_mul_right _ x
   rw[run_append_room (P:=P) w t ty e i h hi g n k p K a m c news hl d q x J]at b;cases b;exact .inl rfl
  .have N:∀j u,xs[j]?=Y u->w.cell? (((g,0):Addr).add j)=Y u:=f.cells (g:=g) rfl;rw[run_append_grow (P:=P) w t ty e i z h hi o ⟨g,0,I⟩ n k xs f.1 N a m c news hl d zz zz (growslice_fits zz l)]at b;cases b;exact .inr rfl
def rN{F:Fence}{n:Nat}(w:H){ops:Array Kp}{rest:List Kp}{o:Kp}{a:Act}{Q:Exit->Act->H->Prop}
  (J:o.guard=I)(s x:ae)(t:Lk)(b:o.op=Op.call {callee:=Callee.builtin Builtin.append,args:= #[s,x],argTypes:= #[t,t]})
  (base:Nat)(e:Lk)(i:TypeInfo)(z:M)(size bytes:Nat)(h:P.underlying t=Y (.slice e))(h2:P.info? e=Y i)(p:i.zero=Y z)(q:i.size=size)(r:i.bytes=bytes)(y:z.cells.size=size)(A:0<size)
  (v:M)(k:Nat)(xs:List M)(R:a.eval s=v)(N:w.ownsRow base e size v k xs)(ad:Addr)(m c:Nat)(news:List M)(S:a.eval x=.slice (Y ad) m c)(L:news.length=m*size)
  (E:∀j u,news[j]?=Y u->w.cell? (ad.add j)=Y u)(l:∀u∈news,u.oneCell'=true)(d:k+m<=maxLen)(f:(k+m)*bytes<=140737488355328)(g:base<=w.heap.size)
  (B:∀v' w',w'.ownsRow base e size v' (k+m) (xs++news)->w.grownBy w' v.ownBlock->(v'.ownBlock=v.ownBlock\/v'.ownBlock=Y w.heap.size)->wpListIn F n P ops Q rest (a.put o.dst v') w'):
  wpListIn F n P ops Q (o::rest) a w:=by
 refine wpListIn_plain J λK C=>?_;obtain⟨v',w',O,T,U, -, r4⟩:=gU (P:=P) w base t o.type e i z size bytes h h2 p q r y A v k xs N ad m c news L E l d f g;unfold Kp.wpIn;refine⟨?_,?_⟩
 .simp[Kp.about,b,ab,Target.leads,Sem.run_pure]
 .rw[Kp.semAt_plain F _ _ (by rw[b];intro c G;cases G)];simp[Hn,b,ab,invoke,builtin,R,S,O,Result.andThen];exact C _ _ (B v' w' T U r4)
def xV{α β:Type}(f:α->List β)(c:Nat):∀l:List α,(∀a∈l,(f a).length<=c)->(l.flatMap f).length<=l.length*c
 | [],_=>by simp
 | a::r,h=>by
  have d:=h a ss;have h2:=xV f c r (λx b=>h x (by simp[b]));rw[lv,kl,ed,Nat.succ_mul];omega
def Ar{S:Nat}{lo hi:Int}(C:List Int)(c:S<=12)(h:hi-lo<3):∀(k:Nat) (d:Nat->Bool) (n:Nat),(jW S lo hi C k d n).length<=3*12^k
 | 0,d,n=>by simp[jW,gF];omega
 | k+1,d,n=>by
  have b:=xV (λ(n:Nat)=>if((n:Nat):Int)∈C then[]else jW S lo hi C k (Bp d n) (n+1)) (3*12^k) (List.range' n (S-n)) (λa _=>by
   split
   .simp
   .exact Ar C c h k _ _)
  rw[List.length_range']at b;refine qO b ?_;rw[Nat.pow_succ,show 3*(12^k*12)=12*(3*12^k) by omega];exact Nat.mul_le_mul_right _ zz
def nH{b:aC}{C:List Int}{most:Nat}(f:b.S<=12)(c:b.hi-b.lo<3)(g:most<=2):(gT b C most).length<=1296:=by
 unfold gT tP;have d:=xV (λk=>jW b.S.toNat b.lo b.hi C k mI 0) 432 (List.range' 0 (most+1-0)) (λa e=>by
  have h2:=Ar C (show b.S.toNat<=12 by omega) c a mI 0;simp at e;rcases(show a=0\/a=1\/a=2 by omega)with rfl|rfl|rfl<;>omega)
 rw[List.length_range']at d;have:(most+1-0)*432<=3*432:=Nat.mul_le_mul_right _ zz;omega
def Gf(L:List (Int×(Nat->Bool))):List M:=L.flatMap λx=>(zC x).toList
def N6(L:List (Int×(Nat->Bool)))(x:Int×(Nat->Bool)):Gf (L++[x])=Gf L++(zC x).toList:=by simp[Gf]
def Sk(x:Int×(Nat->Bool)):∀u∈(zC x).toList,u.oneCell'=true:=by
 intro u a;simp only[zC,dq,fp,or_false]at a;rcases a with rfl|rfl|rfl|rfl|rfl|rfl|rfl|rfl|rfl|rfl|rfl|rfl|rfl<;>rfl
def nI(w:H)(cs:Array M)(t:Lk):∀j u,cs.toList[j]?=Y u->(w.alloc (.cells cs t)).cell? (((w.heap.size,0):Addr).add j)=Y u:=by
 intro j u a;have h:=Sp w (.cells cs t);have e:(((w.heap.size,0):Addr).add j)=⟨w.heap.size,j,I⟩:=by
  unfold Addr.add;split
  .rename_i b;simp_all
  .simp
 rw[e,H.cell?,h];simpa using a
def Wz:(F.info? 82).map (λi=>(i.zero,i.size,i.bytes))=Y (Y (gN 0 mI),13,24):=by kernel_rfl
def E5{K:Nat->Prop}{w w':H}{base n size:Nat}{e:Lk}{v:M}{xs:List M}(h:w.ownsRow base e size v n xs)(hk:aS K w w')(i:∀g,v.ownBlock=Y g->K g):w'.ownsRow base e size v n xs:=by
 refine⟨h.1,?_⟩;rcases h.2 with c|⟨g,a,b,rfl,h2,d,f⟩
 .exact .inl c
 .exact .inr ⟨g,a,b,rfl,h2,hk.get (i g rfl) d,f⟩
def aJ(b:aC)(l:pK)(most:Nat):List (Int×(Nat->Bool)):=(gT b l.C most).filter (fM b l)
def As(w0:H)(f:List (Int×(Nat->Bool))->List (Int×(Nat->Bool)))(a B:Nat)(K:Nat->Prop)(b:List (Int×(Nat->Bool)))(W:H):Prop:=
 ∃v:M,W.heap[a]?=Y (.cells #[v] 73 (0,0))/\(∃A c,v=.slice A (f b).length c)/\W.ownsRow B 82 13 v (f b).length (Gf (f b))/\(∀g,v.ownBlock=Y g->K g/\g≠a)/\K a/\(∀x,K x->x=a\/w0.heap.size<=x)/\aS (λx=>x≠a) w0 W
def As.Y2(w0:H)(f:List (Int×(Nat->Bool))->List (Int×(Nat->Bool)))(k B:Nat):xP w0 (As w0 f k B):=by
 rintro K n X l ⟨v,c,h2,d,a,b,e,h⟩ m hk;exact⟨v,hk.get (.inl b) c,h2,E5 d hk (λg i=>.inl (a g i).1),a,b,e,h.tn' hk (λx j _=>.inr j)⟩
def Gg(L:List (Int×(Nat->Bool)))(w:H)(e:Ending)(w':H):Prop:=∃A c,e=.returned (.slice A L.length c)/\w'.ownsRow w.heap.size 82 13 (.slice A L.length c) L.length (Gf L)/\X w w w'
theorem sQ(b:aC)(l:pK)(b0:ay b l=0)(w:H)(hl:aI w b l):
  PH F 31 #[b.v] w (Gg (aJ b l b.D.toNat) w):=by
 have P:=Hm hl;have b2:=Hm b0;have a':=λj=>uK b b.D j;clear hl b0;refine(callsIn_wide (n:=9)).1 ?_;refine callsIn_of_wp_marks Tryz.func31 rfl qYB ?_ rfl;unfold aC.v at a'|-;unfold mJ aE at a';simp only[Tryz.ntmps31,List.size_toArray,ed,lA,Nat.reduceAdd,Nat.reduceSub,zR];gi_wp2_with (refine⟨qYB,?_⟩;gi_at_call 32;refine(callsIn_wide.2 (a' _)).mono ?_;rintro e A ⟨rfl,rfl⟩);have d7:((((w.alloc (aE b 75)).alloc (.cells #[.slice I 0 0] 73)).alloc (aE b 75)).alloc (.cells #[.int .i64 b.D] 3)).heap.size=w.heap.size+4:=by simp only[aa]
 have c1:=((((aS.refl (λ_=>True) w).alloc (aE b 75)).alloc (.cells #[.slice I 0 0] 73)).alloc (aE b 75)).alloc (.cells #[.int .i64 b.D] 3);have b5:((((w.alloc (aE b 75)).alloc (.cells #[.slice I 0 0] 73)).alloc (aE b 75)).alloc (.cells #[.int .i64 b.D] 3)).heap[w.heap.size]?=Y (aE b 75):=
  (QR _ _ (by simp only[aa];omega)).tn ((QR _ _ (by simp only[aa];omega)).tn ((QR _ _ (by simp only[aa];omega)).tn (Sp _ _)))
 have b':((((w.alloc (aE b 75)).alloc (.cells #[.slice I 0 0] 73)).alloc (aE b 75)).alloc (.cells #[.int .i64 b.D] 3)).heap[w.heap.size+1]?=Y (.cells #[.slice I 0 0] 73 (0,0)):=
  (QR _ _ (by simp only[aa];omega)).tn ((QR _ _ (by simp only[aa];omega)).tn (by rw[<- aa w (aE b 75)];exact Sp _ _))
 have b6:((((w.alloc (aE b 75)).alloc (.cells #[.slice I 0 0] 73)).alloc (aE b 75)).alloc (.cells #[.int .i64 b.D] 3)).heap[w.heap.size+1+1]?=Y (aE b 75):=
  (QR _ _ (by simp only[aa];omega)).tn (by rw[<- aa w (aE b 75),<- aa (w.alloc (aE b 75)) (.cells #[.slice I 0 0] 73)];exact Sp _ _)
 have a6:((((w.alloc (aE b 75)).alloc (.cells #[.slice I 0 0] 73)).alloc (aE b 75)).alloc (.cells #[.int .i64 b.D] 3)).heap[w.heap.size+1+1+1]?=Y (.cells #[.int .i64 b.D] 3 (0,0)):=by
  rw[<- aa w (aE b 75),<- aa (w.alloc (aE b 75)) (.cells #[.slice I 0 0] 73),<- aa ((w.alloc (aE b 75)).alloc (.cells #[.slice I 0 0] 73)) (aE b 75)];exact Sp _ _
 change Ly.wpIn _ _ _ _ _ _ ((((w.alloc (aE b 75)).alloc (.cells #[.slice I 0 0] 73)).alloc (aE b 75)).alloc (.cells #[.int .i64 b.D] 3));generalize((((w.alloc (aE b 75)).alloc (.cells #[.slice I 0 0] 73)).alloc (aE b 75)).alloc (.cells #[.int .i64 b.D] 3))=Z at d7 c1 b5 b' b6 a6|-;obtain⟨t1,t2,t3,t4,t5,t6,t7,t8,t9,d0,-⟩:=cS (bP b2.out).1;have b8:b.D=((b.D.toNat:Nat):Int):=zz;rw[b8]at a6;clear b8;have a7:X w.heap.size w Z:=c1.below (qN _) (λ_ _=>trivial);have c2:(gT b l.C b.D.toNat).length<=1296:=nH t2 d0 zz;refine qg (R:=Le b l.C (w.heap.size+1+1) (w.heap.size+1+1+1)) (xs:=gT b l.C b.D.toNat) (encs:=Ux) rfl (enters_of Tryz.func75 kr rfl)
  (sP b t7 t9 t8 zz t2 l.C (w.heap.size+1+1) (w.heap.size+1+1+1) b.D.toNat zz Z b6 (P.out.C.below a7) a6) (λ_=>rfl)
  (λx=>x=w.heap.size+1) ?rk ?rl (λx f=>zz)
  (As Z (List.filter (fM b l)) (w.heap.size+1) w.heap.size) (λ_ _ _=>False)
  (As.Y2 _ _ _ _) (λ_ _ _ _ h _ _=>h) ?start 82 zC
  (λx a1=> {tmps:= #[b.v,.pointer (Y ⟨w.heap.size,0,I⟩),.slice I 0 0,.pointer (Y ⟨w.heap.size+1,0,I⟩),.pointer (Y ⟨a1,0,I⟩),b.v,.pointer (Y ⟨w.heap.size,0,I⟩),.pointer (Y ⟨w.heap.size,1,I⟩),.int .i64 b.D,mJ (w.heap.size+1+1) (w.heap.size+1+1+1),gN x.1 x.2,Hc,Hc,Hc,Hc,Hc,Hc,Hc,Hc],defers:=[]})
  ?assign ?body ?done (λ_ _ _ _ _ _ _ h _=>h.elim)
 case rk=>
  rintro x (rfl|rfl|f) h
  .omega
  .omega
  .have:=I4.lt P.out.C f;omega
 case rl=>
  rintro x (rfl|rfl|f)
  .omega
  .omega
  .have:=I4.lt P.out.C f;omega
 case start=>
  exact⟨_,b',⟨I,0,rfl⟩,H.ownsRow_nil _ _ _ _,λg u=>by simp[M.ownBlock]at u,rfl,λx f=>.inl f,aS.refl _ _⟩
 case assign=>
  intro b1 x W e5 C;unfold aC.v mJ gN zC at C;unfold Ux gN;gi_wp2;exact C
 case body=>
  rintro b1 K i x W a1 ⟨v,o,⟨U,V,rfl⟩,z,J,E,G,k⟩ c3 e8 b7 b9;have c9:x∈gT b l.C b.D.toNat:=by
   obtain⟨t,a0⟩:=c3;rw[<- a0];simp
  have e0:(i.filter (fM b l)).length+1<=1296:=by
   obtain⟨t,a0⟩:=c3;have a:=nn (fM b l) i;rw[<- a0]at c2;simp at c2;omega
  obtain⟨e1,e2⟩:=qn c9;obtain⟨y0,y1,y2,y3,y4,y5,y6,y7,y8,y9,f',f0,g1⟩:=aM (k.get zz b5);have d2:=one_cell o;have a8:X w.heap.size w W:=a7.tn (k.below zz (λx f=>zz));have f6:=k.size;have d3:w.heap.size+1<W.heap.size:=zz;have T:=Gd b7;have e6:=T.lt;obtain⟨s0,s1,s2,s3,s4,s5,s6,s7,s8,s9,f7,f8,f9⟩:=T.all;cases q:fM b l x
  all_goals
   have N:=Ge b2.out e1 e2 q W (P.out.below a8);have HR:=Hm q;have e3:=Hm a8;have e4:=Hm T;have a2:=Hm o;have s:=Hm J;have O:=Hm E;have B:=Hm G;have Q:=Hm k;have b3:=Hm b9;clear q a8 b7 T o J E G k b9;unfold aC.v gN at N;unfold aC.v mJ gN
  .have a3:=Hm z;clear z;gi_wp2_with (refine⟨qYB,?_⟩;gi_at_call 33;refine CallsIn.mono (CallsIn.inRound b1 (callsIn_wide.2 N)) ?_;clear N;rintro e A ⟨rfl,d⟩;obtain⟨c5,c6⟩:=aU d);have d6:=d.size;have a4:(i++[x]).filter (fM b l)=i.filter (fM b l):=by simp[qBB,HR.out]
   have m:=aS.dY (K:=λ_=>True) d (λ_ h _=>h);refine⟨K,λy c=>⟨by have:=(b3.out y c).1;omega,.inl c⟩,m.mono (λ_ _ _=>trivial),?_⟩;unfold As;rw[a4];exact⟨_,m.get qYB a2.out,⟨U,V,rfl⟩,E5 a3.out m (λ_ _=>trivial),s.out,O.out,B.out,Q.out.tn' m (λ_ _ _=>trivial)⟩
  .obtain⟨i0,hi,d8,d9,d'⟩:=info_parts Wz
   gi_wp2_with (first
    | (refine⟨qYB,?_⟩;gi_at_call 33;refine CallsIn.mono (CallsIn.inRound b1 (callsIn_wide.2 N)) ?_;clear N;rintro e A ⟨rfl,d⟩;obtain⟨c5,c6⟩:=aU d;have d6:=d.size;have d4:w.heap.size+1<A.heap.size:=zz;have e7:a1<A.heap.size:=zz;have d1:=E5 z (aS.dY (K:=λ_=>True) d (λ_ h _=>h)) (λ_ _=>trivial))
    | (gi_at_builtin;refine rN _ rfl _ _ 73 rfl w.heap.size 82 i0 (gN 0 mI) 13 24 Tryz.underlying73 hi d8 d9 d' rfl dd _ _ _ rfl (d1.alloc _) ⟨A.heap.size,0,I⟩ 1 1 (zC x).toList rfl rfl (nI _ _ _) (Sk x) (by unfold maxLen;omega) zz so ?_;intro v' j a9 S c';obtain⟨g',b4,rfl⟩:=ownsRow_succ a9;have L:j.heap[w.heap.size+1]?=Y (.cells #[.slice U (List.filter (fM b l) i).length V] 73 (0,0)):=((S.block _ (by rw[aa];omega) (λe=>(s.out _ e.symm).2 rfl)).tn ((QR _ _ d4).tn ((d.block _ d3).tn a2.out)));have f3:=one_cell L;have f4:j.frozen? ⟨w.heap.size+1,0,I⟩=false:=(by simp[H.frozen?,L]);have f5:w.heap.size+1<j.heap.size:=(ec.1 L).1;have c4:=Hm L;clear L))
   have c7:=a9.lt g' rfl;have a5:(K g'/\g'≠w.heap.size+1/\Z.heap.size<=g')\/g'=A.heap.size+1:=by
    rcases c' with h|h
    .left;have a:=s.out g' h.symm;exact⟨a.1,a.2,(B.out g' a.1).resolve_left a.2⟩
    .right;simp[M.ownBlock]at h;exact h
   have f2:g'≠w.heap.size+1:=by rcases a5 with h|h;exact h.2.1;omega
   have a4:(i++[x]).filter (fM b l)=i.filter (fM b l)++[x]:=by simp[qBB,HR.out]
   have m:=aS.dY (K:=λ_=>True) d (λ_ h _=>h);have d5:(j.setCell ⟨w.heap.size+1,0,I⟩ (.slice (Y ⟨g',0,I⟩) ((List.filter (fM b l) i).length+1) b4)).heap.size=j.heap.size:=by simp[H.setCell]
   refine⟨λy=>K y\/y=g',λy c=>?_,?_,?_⟩
   .rw[d5];rcases c with c|rfl
    .have a:=(b3.out y c).1;have h2:=S.size;rw[aa]at h2;exact⟨zz,.inl c⟩
    .refine⟨c7.2,?_⟩;rcases a5 with h|h
     .exact .inl h.1
     .right;omega
   .exact(((m.mono (K':=λy=>¬K y) (λ_ _ _=>trivial)).alloc _).grown S (λr q _ h=>h (s.out r q).1)).set (p:=⟨w.heap.size+1,0,I⟩) (λ_ h=>h O.out) _
   .unfold As;rw[a4,kl,N6];have c8:aS (λy=>y≠w.heap.size+1) j (j.setCell ⟨w.heap.size+1,0,I⟩ (.slice (Y ⟨g',0,I⟩) ((List.filter (fM b l) i).length+1) b4)):=(aS.refl _ _).set (p:=⟨w.heap.size+1,0,I⟩) (λ_ h=>h rfl) _;refine⟨_,Boxed.set _ c4.out,⟨_,_,rfl⟩,E5 a9 c8 (λg u=>?_),λg u=>?_,.inl O.out,λy c=>?_,?_⟩
    .simp[M.ownBlock]at u;omega
    .simp[M.ownBlock]at u;exact⟨.inr u.symm,zz⟩
    .rcases c with c|rfl
     .exact B.out y c
     .rcases a5 with h|h
      .exact .inr h.2.2
      .right;omega
    .refine(((Q.out.tn' m (λ_ _ _=>trivial)).alloc _).grown S (λr q f1 _=>?_)).set (p:=⟨w.heap.size+1,0,I⟩) (λ_ h=>h rfl) _;have a:=s.out r q;rcases B.out r a.1 with h2|h2
     .exact a.2 h2
     .omega
 case done=>
  rintro D K W e9 e' ⟨v,o,⟨U,V,rfl⟩,z,J,E,G,k⟩ C;have d2:=one_cell o;have HK:=Hm C;have a2:=Hm o;have s:=Hm J;have O:=Hm E;have B:=Hm G;have Q:=Hm k;have a3:=Hm z;clear C o J E G k z;gi_wp2;refine⟨by simp,.inl ⟨_,_,rfl,run_takeDeferred HK.out,?_⟩⟩;refine⟨_,results_tmp rfl _ _ _,U,V,rfl,ownsRow_putObj a3.out _ HK.out rfl,?_⟩;have a:X w.heap.size w W:=a7.tn (Q.out.below zz (λx f=>zz));exact a.tn (((aS.refl (λx=>x≠D) _).put (λ_ h=>h rfl) _).below (n:=w.heap.size) a.size (λx f=>zz))
end
variable{r:Nat}{k:Int×Int}
def gG(p:Int×Int):M:=.agg #[.int .i64 p.1,.int .i64 p.2]
def I7:F.underlying 97=Y (.map 107 3):=by kernel_rfl
def Av(n:Nat)(a c:Int)(w:H):(Op.equalIn (n+1) 3 (.int .i64 a) (.int .i64 c)).run F w=.ok (a==c) w:=by kernel_rfl
theorem Gi(a b c d:Int)(w:H):(Op.equal 107 (.agg #[.int .i64 a,.int .i64 b]) (.agg #[.int .i64 c,.int .i64 d])).run F w=.ok (a==c&&b==d) w:=by
 have f:=Av 9998 a c w;have h2:=Av 9998 b d w;show(Op.equalIn (9999+1) 107 (.agg #[.int .i64 a,.int .i64 b]) (.agg #[.int .i64 c,.int .i64 d])).run F w=_;unfold Op.equalIn;go_simp;by_cases e1:a=c<;>by_cases e:b=d<;>simp[e1,e]
def xW(p:Int×Int)(a:Bool)(w:H):(Instr.checkKey a 10000 107 (gG p)).run F w=.ok () w:=by
 kernel_rfl
def Gj(p:Int×Int)(w:H):(Instr.keyThatStays (gG p) (gG p)).run F w=.ok (gG p) w:=by
 simp[Instr.keyThatStays,gG,Instr.sameBits]
abbrev gM:Type:=(Int×Int)×Int
def qo(x:gM)(i:Nat):MapEntry:= {key:=gG x.1,val:=.int .i64 x.2,born:=i}
def jl(L:List gM):List MapEntry:=L.mapIdx λi x=>qo x i
def jm(w:H)(r:Nat)(L:List gM):Prop:=w.heap[r]?=Y (.map (jl L).toArray L.length)
def dP(k:Int×Int):List gM->Nat->Option (Nat×Int)
 | [],_=>I
 | x::r,i=>if k=x.1 then Y (i,x.2)else dP k r (i+1)
def assoc(L:List gM)(k:Int×Int):Int:=match dP k L 0 with|some p=>p.2|none=>0
def Du(k:Int×Int)(w:H):∀(L:List gM) (i j:Nat),(Instr.findAsking 107 (gG k) (L.mapIdx λn x=>qo x (n+j)) i).run F w=.ok ((dP k L i).map λp=>(p.1,.int .i64 p.2)) w
 | [],i,j=>by simp[Instr.findAsking,dP]
 | x::r,i,j=>by
  have c:=Du k w r (i+1) (j+1);have b:=Gi k.1 k.2 x.1.1 x.1.2 w;rw[List.mapIdx_cons];have e:(λn x=>qo x (n+1+j))=λn x=>qo x (n+(j+1)):=by
   funext n x;rw[Nat.add_right_comm];rfl
  rw[e];unfold Instr.findAsking;rw[Sem.run_bind];show((Op.equal 107 (gG k) (gG x.1)).run F w).andThen _=_;unfold gG at b|-;rw[b];by_cases h:k=x.1
  .subst h;simp[Result.andThen,dP,qo]
  .have a:(k.1==x.1.1&&k.2==x.1.2)=false:=by
    rw[Bool.eq_false_iff];intro a;simp at a;exact h (Prod.ext a.1 a.2)
   rw[a];simp only[Result.andThen,lO,if_false];unfold gG at c;rw[c,dP,qVB h]
def N9:(match F.underlying 107 with|some (.struct _)=>true|_=>false)=true:=by kernel_rfl
def run_findKey(k:Int×Int)(w:H)(L:List gM):(Instr.findKey 107 (gG k) (jl L)).run F w=.ok ((dP k L 0).map λp=>(p.1,.int .i64 p.2)) w:=by
 have a:=N9;split at a
 .rename_i b d;unfold Instr.findKey;rw[Sem.run_bind,run_underlying d];simp only[Result.andThen];have c:=Du k w L 0 0
  cases L with
  | nil=>simp[jl,Instr.findNow,dP]
  | cons x r=>
   have:Instr.findNow (.struct b) (gG k) (jl (x::r)) 0=I:=by
    simp[jl,List.mapIdx_cons,Instr.findNow,Instr.sameNow,qo]
   rw[this];exact c
 .simp at a
def gd{L:List gM}(a:jm w r L)(k:Int×Int):(Instr.lookup 97 (.map (Y r)) (gG k) false).run F w=.ok (.int .i64 (assoc L k)) w:=by
 have d:(zeroValue 3).run F w=.ok (.int .i64 0) w:=by kernel_rfl
 have b:=xW k (jl L).toArray.isEmpty w;have c:=run_findKey k w L;unfold Instr.lookup;simp only[Sem.run_bind,run_underlying I7,MapKept.run_getObj_map a,Result.andThen,Sem.run_pure,b,c,assoc]
 cases h:dP k L 0 with
 | none=>simp[Result.andThen,d,Sem.run_bind]
 | some p=>simp[Result.andThen,Sem.run_bind]
def oM:∀{L:List gM} {j i:Nat} {v:Int},dP k L j=Y (i,v)->j<=i/\L[i-j]?=Y (k,v)
 | [],_,_,_,h=>by simp[dP]at h
 | x::r,j,i,v,h=>by
  simp only[dP]at h;by_cases hk:k=x.1
  .rw[qWB hk]at h;cases h;exact⟨qN _,by simp[hk]⟩
  .rw[qVB hk]at h;obtain⟨a,h2⟩:=oM h;refine⟨zz,?_⟩;rw[show i-j=(i-(j+1))+1 by omega];simpa using h2
def Aw(c:Int)(k':Int×Int):∀{L:List gM} {j i:Nat} {v:Int},dP k L j=Y (i,v)->dP k' (L.set (i-j) (k,c)) j=if k'=k then Y (i,c)else dP k' L j
 | [],_,_,_,h=>by simp[dP]at h
 | x::r,j,i,v,h=>by
  simp only[dP]at h;by_cases hk:k=x.1
  .rw[qWB hk]at h;cases h;by_cases a:k'=k
   .simp[dP,a]
   .have:k'≠x.1:=λe=>a (e.tn hk.symm);simp[dP,a,this]
  .rw[qVB hk]at h;have f:=(oM h).1;have d:=Aw c k' h;rw[show i-j=(i-(j+1))+1 by omega,List.set_cons_succ];simp only[dP,d];by_cases b:k'=x.1
   .have:k'≠k:=λe=>hk (e▸b);simp[b,this];intro e;exact mi e.symm hk
   .simp[b]
def nK(c:Int)(k':Int×Int):∀{L:List gM} {j:Nat},dP k L j=I->dP k' (L++[(k,c)]) j=if k'=k then Y (j+L.length,c)else dP k' L j
 | [],j,_=>by simp[dP]
 | x::r,j,h=>by
  simp only[dP]at h;by_cases hk:k=x.1
  .rw[qWB hk]at h;cases h
  .rw[qVB hk]at h;have b:=nK c k' h;simp only[zR,dP,b,ed];by_cases a:k'=x.1
   .have:k'≠k:=λe=>hk (e▸a);simp[a];intro e;exact mi e.symm hk
   .simp only[qVB a,show j+1+r.length=j+(r.length+1) by omega]
def wD(L:List gM)(k:Int×Int):List gM:=match dP k L 0 with
 | some p=>L.set p.1 (k,wrap64 (p.2+1))
 | none=>L++[(k,wrap64 (0+1))]
def Li(L:List gM)(k k':Int×Int):assoc (wD L k) k'=if k'=k then wrap64 (assoc L k+1)else assoc L k':=by
 unfold wD assoc
 cases h:dP k L 0 with
 | none=>
  simp only;rw[nK _ _ h];by_cases hk:k'=k<;>simp[hk]
 | some p=>
  simp only;have:=Aw (wrap64 (p.2+1)) k' h;rw[Nat.sub_zero]at this;rw[this];by_cases hk:k'=k<;>simp[hk]
def sS(k:Int×Int)(L:List gM):List gM:=match dP k L 0 with
 | some _=>L
 | none=>L++[(k,0)]
def Lj(k:Int×Int)(L:List gM)(k':Int×Int):assoc (sS k L) k'=assoc L k':=by
 unfold sS assoc
 cases h:dP k L 0 with
 | none=>
  simp only;rw[nK _ _ h];by_cases hk:k'=k
  .simp[hk,h]
  .simp[hk]
 | some p=>rfl
def Oa(k:Int×Int)(L:List gM):∃i,dP k (sS k L) 0=Y (i,assoc L k)/\wD L k=(sS k L).set i (k,wrap64 (assoc L k+1)):=by
 unfold sS wD assoc
 cases h:dP k L 0 with
 | none=>
  refine⟨L.length,?_,?_⟩
  .simp only;rw[nK _ _ h];simp
  .simp
 | some p=>exact⟨p.1,h,rfl⟩
def tQ(L:List gM)(j:Nat):(jl L)[j]?=(L[j]?).map λx=>qo x j:=by simp[jl]
def Dv(L:List gM):(jl L).length=L.length:=by simp[jl]
def I8{xs ys:List MapEntry}(h:∀j:Nat,xs[j]?=ys[j]?):xs.toArray=ys.toArray:=cd List.toArray (List.ext_getElem? h)
def Ll{L:List gM}(b:jm w r L)(k:Int×Int):
  ∃i:Nat,(Instr.mapEntry 97 (.map (Y r)) (gG k)).run F w=.ok (.tuple #[.int .i64 (assoc L k),.int .i64 i]) (w.putObj r (.map (jl (sS k L)).toArray (sS k L).length))/\dP k (sS k L) 0=Y (i,assoc L k)/\wD L k=(sS k L).set i (k,wrap64 (assoc L k+1)):=by
 have q:(zeroValue 3).run F w=.ok (.int .i64 0) w:=by kernel_rfl
 have l:=xW k false w;have m:=run_findKey k w L;obtain⟨i,a,h2⟩:=Oa k L;refine⟨i,?_,a,h2⟩;unfold Instr.mapEntry;simp only[Sem.run_bind,run_underlying I7,MapKept.run_getObj_map b,Result.andThen,l,m];unfold sS assoc at*
 cases h:dP k L 0 with
 | none=>
  rw[h]at a;simp only at a;rw[nK _ _ h]at a;simp at a;subst a;simp only[Option.map_none,Sem.run_bind,q,Result.andThen,Sem.run_pure,MapKept.run_setObj_map _ b];have e:(jl L).toArray.push {key:=gG k,val:=.int .i64 0,born:=L.length}=(jl (L++[(k,0)])).toArray:=by
   simp[jl,List.mapIdx_append,qo]
  rw[e];simp[H.putObj,goInt]
 | some p=>
  rw[h]at a;simp only at a;rw[h]at a;have f:=oM h;rw[Nat.sub_zero]at f;obtain⟨i0,g⟩:=p;simp at a;subst a;have c:(jl L)[i0]?=Y (qo (k,g) i0):=by rw[tQ,f.2];rfl
  have n:(jl L).toArray[i0]?=Y (qo (k,g) i0):=by simpa using c
  have o:=Gj k w;simp only[ky,n,qo,zQ,Sem.run_bind,o,Result.andThen,Sem.run_pure,MapKept.run_setObj_map _ b];have e:(jl L).toArray.modify i0 (λe=> {e with key:=gG k})=(jl L).toArray:=by
   rw[List.modify_toArray];refine I8 λj=>?_;rw[List.getElem?_modify];by_cases d:i0=j
   .subst d;simp[c,qo]
   .simp[d]
  rw[e];simp[H.putObj,goInt]
def run_store{L:List gM}(d:jm w r L){i:Nat}{v:Int}(h:dP k L 0=Y (i,v))(c:Int):
  (Instr.entryStore 97 (.map (Y r)) (.int .i64 i) (.int .i64 c)).run F w=.ok () (w.putObj r (.map (jl (L.set i (k,c))).toArray (L.set i (k,c)).length)):=by
 have b:=oM h;rw[Nat.sub_zero]at b;have l:(jl L)[i]?=Y (qo (k,v) i):=by rw[tQ,b.2];rfl
 have f:i<L.length:=(List.getElem?_eq_some_iff.1 b.2).1;have hi:(jl L).toArray.findIdx? (λe=>((e.born:Nat):Int)==(i:Int))=Y i:=by
  rw[List.findIdx?_toArray];refine List.findIdx?_eq_some_iff_getElem.2 ⟨by rw[Dv];exact f,?_,?_⟩
  .have:=List.getElem?_eq_some_iff.1 l;obtain⟨m,h2⟩:=this;rw[h2];simp[qo]
  .intro j a;have:(jl L)[j]'(by rw[Dv];omega)=qo (L[j]'zz) j:=by simp[jl]
   rw[this];simp[qo];omega
 unfold Instr.entryStore;simp only[Sem.run_bind,MapKept.run_getObj_map d,Result.andThen];have g:(asInt (.int .i64 i)).run F w=.ok (i:Int) w:=rfl;rw[g];simp only[hi,MapKept.run_setObj_map _ d];have e:(jl L).toArray.modify i (λe=> {e with val:=.int .i64 c})=(jl (L.set i (k,c))).toArray:=by
  rw[List.modify_toArray];refine I8 λj=>?_;rw[List.getElem?_modify,tQ,tQ];by_cases a:i=j
  .subst a;rw[List.getElem?_set_self f,b.2];simp[qo]
  .simp[a,List.getElem?_set_ne a]
 rw[e,List.length_set];rfl
end Go.Proofs.YthfhocgpjjkjlaaGreatDoor
