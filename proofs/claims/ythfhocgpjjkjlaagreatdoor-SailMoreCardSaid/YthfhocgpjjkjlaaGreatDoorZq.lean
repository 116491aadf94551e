import Derived.Test.YthfhocgpjjkjlaaGreatDoorZp
set_option maxRecDepth 100000
set_option maxHeartbeats 4000000
set_option linter.all false
noncomputable section
open Go renaming undef->D,World->H,execOp->Hn,Oper->Kp,TypeId->Lk,Code->Ly,Value->M,Calls->PH,heap_alloc_old->QR,heap_alloc_new->Sp,resolve->ab,bodyPost_ret->bd
open Go.Proofs.Tryz renaming prog->F
open Option renaming none->I,some->Y
open Go.RowKit renaming Below->X
namespace Go.Proofs.YthfhocgpjjkjlaaGreatDoor
open Go.RowKit Go.Co
variable{w W0:H}{v:M}{b:aC}{l:pK}{x:Int×Int×Bool}{f:Nat->M}{p5 p8 p10:Bool}{K:Act->H->Prop}{Q:Exit->Act->H->Prop}
def gD:Ly:=match Tryz.f29.body with|some c=>c|_=>.skip
def JA:Array Kp:=match gD with|.seq (.region _ ops _) _=>ops|_=> #[]
def jF:Array Kp:=match gD with|.seq _ (.seq (.region _ ops _) _)=>ops|_=> #[]
def Vd:Array Kp:=match gD with|.seq _ (.seq _ (.seq (.region _ ops _) _))=>ops|_=> #[]
def MF:gD=.seq (.region 0 JA false) (.seq (.region 1 jF true) (.seq (.region 2 Vd false) .ret)):=rfl
def wV(x:Int×Int×Bool):M:=.agg #[.int .i64 x.1,.int .i64 x.2.1,.bool x.2.2]
structure Wt(W0:H)(b:aC)(l:pK)(x:Int×Int×Bool)(p5 p8 p10:Bool)(f:Nat->M)(w:H):Prop where
 c2:f 2=(W0.heap.size,0)
 c4:f 4=(W0.heap.size+2,0)
 c7:f 7=.slice b.W.A b.W.n b.W.c
 c9:f 9=wV x
 box:aK w W0.heap.size 31 b
 xc:w.heap[W0.heap.size+1]?=Y (.cells #[.int .i64 x.1,.int .i64 x.2.1,.bool x.2.2] 72 (0,0))
 out:aK w (W0.heap.size+2) 31 bI
 low:X W0 W0 w
 sz:W0.heap.size+3<=w.heap.size
 k5:p5=true->w.ownsRow (W0.heap.size+3) 72 3 (f 5) 0 []
 k8:p8=true->w.ownsRow (W0.heap.size+3) 72 3 (f 8) l.W.length (l.W.flatMap rO)
 k10:p10=true->∃u,f 10=.slice (Y (u,0)) 1 1/\w.heap[u]?=Y (.cells #[.int .i64 x.1,.int .i64 x.2.1,.bool x.2.2] 72 (0,0))/\W0.heap.size+3<=u/\(p5=true->(f 5).ownBlock≠Y u)/\(p8=true->(f 8).ownBlock≠Y u)
def MN{t ty e:Lk}{i:TypeInfo}{B n:Nat}{xs:List M}(b:F.underlying t=Y (.slice e))(hi:F.info? e=Y i)(a:w.ownsRow B e n v 0 xs){A:Option Addr}{c:Nat}:(Builtin.append_ #[t,t] ty #[v,.slice A 0 c]).run F w=.ok v w:=by
 rcases a.2 with⟨rfl,-⟩|⟨g,d,f,rfl,_,_,h,_⟩<;>cases A<;>simp[Builtin.append_,run_underlying b,sizeOf,typeInfo,hi,Builtin.lenOf,Builtin.firstCells,storeCells,loadCells,loadCellsFrom]
theorem Wt.s0(h:Wt W0 b l x false false p10 f w)(g:∀f w,Wt W0 b l x true false p10 f w->K (fa 14 f) w):wpOp F jF Q 0 K (fa 14 f) w:=by
 refine Pc (d:=5) (w':=w.alloc (.cells #[] 72)) (.slice (Y ⟨w.heap.size,0,I⟩) 0 0) rfl rfl zz rfl ?_ (g _ _ ?_)
 .simp only[jF,gD,Tryz.f29,zQ,zE,Hn,zM];go_simp
 .refine⟨h.c2,h.c4,h.c7,h.c9,(QR _ _ h.box.lt).tn h.box,(QR _ _ (ec.1 h.xc).1).tn h.xc,(QR _ _ h.out.lt).tn h.out,h.low.alloc h.low.size _,by rw[aa];have:=h.sz;omega,λ_=>⟨rfl,.inr ⟨_,0, #[],rfl,h.sz,Sp _ _,qN _,qT _,rfl,rfl⟩⟩,λe=>(by cases e),λe=>?_⟩;obtain⟨u,a,c,d, -,-⟩:=h.k10 e;have i:=(ec.1 c).1;exact⟨u,a,(QR _ _ i).tn c,d,λ_ e=>(by have:w.heap.size=u:=km e;omega),λe=>(by cases e)⟩
theorem Wt.s5(h:Wt W0 b l x p5 p8 false f w)(c:∀f w,Wt W0 b l x p5 p8 true f w->K (fa 14 f) w):wpOp F jF Q 5 K (fa 14 f) w:=by
 have a:(fa 14 f).eval (.tmp 9)=_:=ft h.c9;refine Pc (d:=10) (w':=w.alloc (.cells #[.int .i64 x.1,.int .i64 x.2.1,.bool x.2.2] 72)) (.slice (Y ⟨w.heap.size,0,I⟩) 1 1) rfl rfl zz rfl ?_ (c _ _ ?_)
 .unfold wV at a;simp only[jF,gD,Tryz.f29,zQ,zE,Hn,zM,a];go_simp
 .exact⟨h.c2,h.c4,h.c7,h.c9,(QR _ _ h.box.lt).tn h.box,(QR _ _ (ec.1 h.xc).1).tn h.xc,(QR _ _ h.out.lt).tn h.out,h.low.alloc h.low.size _,by rw[aa];have:=h.sz;omega,λe=>(h.k5 e).alloc _,λe=>(h.k8 e).alloc _,
   λ_=>⟨w.heap.size,rfl,Sp _ _,h.sz,λe=>iU (h.k5 e) (.inr (qN _)),λe=>iU (h.k8 e) (.inr (qN _))⟩⟩
def Wt.s3(hl:fL W0 b.W l.W)(h:Wt W0 b l x true false p10 f w)(y:∀f w,Wt W0 b l x false true p10 f w->K (fa 14 f) w):wpOp F jF Q 3 K (fa 14 f) w:=by
 obtain⟨inf,hi,z⟩:=Option.map_eq_some_iff.1 Pd;simp only[Prod.mk.injEq]at z;obtain⟨V,U,G⟩:=z;have c:=h.k5 rfl;have s:(fa 14 f).eval (.tmp 5)=f 5:=fe zz;by_cases v:l.W.length=0
 .have q:b.W.n=0:=hl.1.tn v;have E:l.W=[]:=List.length_eq_zero_iff.1 v;have n:(fa 14 f).eval (.tmp 7)=.slice b.W.A 0 b.W.c:=ft (h.c7.tn (by rw[q]));refine Pc (oi:=jF.getD 3 default) (d:=8) (w':=w) (f 5) rfl rfl zz rfl ?_ (y _ _ ?_)
  .unfold Hn;simp only[show(jF.getD 3 default).op=.call {callee:=.builtin .append,args:= #[.tmp 5,.tmp 7],argTypes:= #[29,29]} from rfl,show(jF.getD 3 default).type=29 from rfl,ab,invoke,builtin,Sem.run_bind,Sem.run_pure,Result.andThen_ok,List.map_toArray,List.map_cons,List.map_nil,s,n,MN (t:=29) (ty:=29) kr hi c]
  .refine⟨h.c2,h.c4,h.c7,h.c9,h.box,h.xc,h.out,h.low,h.sz,λe=>(by cases e),λ_=>by rw[E];exact c,λe=>?_⟩;obtain⟨u,k,i,m,j,-⟩:=h.k10 e;exact⟨u,k,i,m,λe=>(by cases e),λ_=>j rfl⟩
 have p:=hl.below h.low;obtain⟨J,W,L,N⟩:=p.cells;have q:=p.1;have Z:=p.2.2.1;obtain⟨a,C,O⟩:=N zz;obtain⟨v',w',T,B,r, -, r4⟩:=gU (P:=F) w (W0.heap.size+3) 29 29 72 inf _ 3 24 kr hi V U G rfl zz (f 5) 0 [] c a b.W.n b.W.c _ J O L (by rw[kx];show b.W.n<=9223372036854775807;omega) zz h.sz;have hk:∀g o,w.heap[g]?=Y o->(f 5).ownBlock≠Y g->w'.heap[g]?=Y o:=λg o A S=>(r.block g (ec.1 A).1 (Ne.symm S)).tn A;have n:(fa 14 f).eval (.tmp 7)=.slice (Y a) b.W.n b.W.c:=ft (h.c7.tn (by rw[C]));refine Pc (oi:=jF.getD 3 default) (d:=8) (w':=w') v' rfl rfl zz rfl ?_ (y _ _ ?_)
 .unfold Hn;simp only[show(jF.getD 3 default).op=.call {callee:=.builtin .append,args:= #[.tmp 5,.tmp 7],argTypes:= #[29,29]} from rfl,show(jF.getD 3 default).type=29 from rfl,ab,invoke,builtin,Sem.run_bind,Sem.run_pure,Result.andThen_ok,List.map_toArray,List.map_cons,List.map_nil,s,n,T]
 .rw[List.nil_append,kx,q]at B;refine⟨h.c2,h.c4,h.c7,h.c9,hk _ _ h.box (iU c (.inl zz)),hk _ _ h.xc (iU c (.inl zz)),hk _ _ h.out (iU c (.inl zz)),mN h.low r (λg R=>by have:=c.lt g R;omega) (qN _),qO h.sz r.size,λe=>(by cases e),λ_=>B,λe=>?_⟩;obtain⟨u,k,i,m,j,-⟩:=h.k10 e;refine⟨u,k,hk _ _ i (j rfl),m,λe=>(by cases e),λ_=>?_⟩;show v'.ownBlock≠Y u;rcases r4 with r4|r4
  .rw[r4];exact j rfl
  .rw[r4];have:=(ec.1 i).1;intro e;cases e;omega
def Wt.s6(h:Wt W0 b l x false true true f w)(G:l.W.length<=1000)(n:∀v w',w'.ownsRow (W0.heap.size+3) 72 3 v (l.W.length+1) ((l.W++[x]).flatMap rO)->aK w' W0 31 b->w'.heap[W0.heap.size+1]?=Y (.cells #[.int .i64 x.1,.int .i64 x.2.1,.bool x.2.2] 72 (0,0))->aK w' (W0.heap.size+2) 31 bI->X W0 W0 w'->K (fa 14 (ah f 11 v)) w'):wpOp F jF Q 6 K (fa 14 f) w:=by
 obtain⟨inf,hi,c⟩:=Option.map_eq_some_iff.1 Pd;simp only[Prod.mk.injEq]at c;obtain⟨y,s,p⟩:=c;have a:=h.k8 rfl;obtain⟨u,k,m,C, -, E⟩:=h.k10 rfl;refine W6 (d:=11) (t:=29) (e:=72) (B:=W0.heap.size+3) (z:=.agg #[.int .i64 0,.int .i64 0,.bool false]) (size:=3) (bytes:=24) rfl rfl kr hi y s p rfl zz (fe zz) a (ft k) m rfl (by simp[M.oneCell']) (by show l.W.length+1<=9223372036854775807;omega) zz h.sz rfl zz rfl (λv' w' A j J=>?_);have hk:∀g o,w.heap[g]?=Y o->(f 8).ownBlock≠Y g->w'.heap[g]?=Y o:=λg o i r=>(j.block g (ec.1 i).1 (Ne.symm r)).tn i;refine n _ _ ?_ (hk _ _ h.box (iU a (.inl zz))) (hk _ _ h.xc (iU a (.inl zz))) (hk _ _ h.out (iU a (.inl zz))) (mN h.low j (λg q=>by have:=a.lt g q;omega) (qN _));rw[List.flatMap_append];exact A
def Wo(W0:H)(b:aC)(l:pK)(x:Int×Int×Bool)(a:Act)(w:H):Prop:=∃f W,a=fa 14 f/\f 2=(W0.heap.size,0)/\f 4=(W0.heap.size+2,0)/\W.n=l.W.length+1/\
 w.ownsRow (W0.heap.size+3) 72 3 (.slice W.A W.n W.c) W.n ((l.W++[x]).flatMap rO)/\aK w W0.heap.size 31 {b with W:=W}/\aK w (W0.heap.size+2) 31 bI/\X W0 W0 w
theorem PO{S:H->Prop}(s:S w){L:Array Bool}(r:L= #[true,true,true,true,true,true,true,false,false])
  (k:f 2=.pointer (Y ⟨W0.heap.size,0,I⟩))(q:f 4=.pointer (Y ⟨W0.heap.size+2,0,I⟩))(j:w.ownsRow (W0.heap.size+3) 72 3 v (l.W.length+1) ((l.W++[x]).flatMap rO))(a:aK w W0.heap.size 31 b)(y:aK w (W0.heap.size+2) 31 bI)(u:X W0.heap.size W0 w):
  wpAnyL F .any jF (aR (Wo W0 b l x)) S (λi=>decide (8<=i)) 2 L (fa 14 (ah f 11 v)) w:=by
 subst r;obtain⟨A,c,rfl⟩:=gi j;have n:(fa 14 (ah f 11 (.slice A (l.W.length+1) c))).eval (.tmp 2)=_:=ft (nt k);refine bl [7] kr ss (λi hi=>?_);obtain rfl:=q8A.1 hi;refine Pc (d:=12) (w':=w) (.pointer (Y ⟨W0.heap.size,12,I⟩)) rfl rfl zz rfl ?_ ⟨λ_=>s,?_⟩
 .simp only[jF,gD,Tryz.f29,zQ,zE,Hn,zM,n];go_simp
 have p:(fa 14 (ah (ah f 11 (.slice A (l.W.length+1) c)) 12 (.pointer (Y ⟨W0.heap.size,12,I⟩)))).eval (.tmp 12)=_:=ft (au _ _ _);have o:(fa 14 (ah (ah f 11 (.slice A (l.W.length+1) c)) 12 (.pointer (Y ⟨W0.heap.size,12,I⟩)))).eval (.tmp 11)=_:=ft (nt (au _ _ _));refine bl [8] kr ss (λi hi=>?_);obtain rfl:=q8A.1 hi;have z:=(aM a).2.2.2.2.2.2.2.2.2.2.2.2;have B:=dx a 12;refine TE (w':=w.setCell ⟨W0.heap.size,12,I⟩ (.slice A (l.W.length+1) c)) rfl rfl rfl ?_ ⟨λh=>mi h dd,?_⟩
 .simp only[jF,gD,Tryz.f29,zQ,zE,Hn,zM,p,o];go_simp
 refine cH kr ?_ _;have t:aK (w.setCell ⟨W0.heap.size,12,I⟩ (.slice A (l.W.length+1) c)) W0.heap.size 31 {b with W:=⟨A,l.W.length+1,c⟩}:=by
  have:=bJ (i:=12) a (.slice A (l.W.length+1) c);simp only[zS]at this;exact this
 have m:∀g,g≠W0.heap.size->(w.setCell ⟨W0.heap.size,12,I⟩ (.slice A (l.W.length+1) c)).heap[g]?=w.heap[g]?:=λg e=>X.heap_setCell w _ _ g e;exact⟨_,⟨A,l.W.length+1,c⟩,rfl,nt (nt k),nt (nt q),rfl,dL j λg e=>m g (by have:=j.lt g e;omega),t,(m _ zz).tn y,jH u (qN _) _⟩
theorem H7(hl:fL W0 b.W l.W)(t:f 2=.pointer (Y ⟨W0.heap.size,0,I⟩))(E:f 3=.pointer (Y ⟨W0.heap.size+1,0,I⟩))(G:f 4=.pointer (Y ⟨W0.heap.size+2,0,I⟩))
  (k:aK w W0.heap.size 31 b)(j:w.heap[W0.heap.size+1]?=Y (.cells #[.int .i64 x.1,.int .i64 x.2.1,.bool x.2.2] 72 (0,0)))(m:aK w (W0.heap.size+2) 31 bI)(o:X W0.heap.size W0 w):
  Ly.wp F (.region 1 jF true) (aR (Wo W0 b l x)) (fa 14 f) w:=by
 refine bK (S:=λw'=>aK w' W0.heap.size 31 b/\w'.heap[W0.heap.size+1]?=Y (.cells #[.int .i64 x.1,.int .i64 x.2.1,.bool x.2.2] 72 (0,0))) (λi=>decide (8<=i)) rR ?_;have k:aK w.drew W0.heap.size 31 b:=k;have j:w.drew.heap[W0.heap.size+1]?=Y (.cells #[.int .i64 x.1,.int .i64 x.2.1,.bool x.2.2] 72 (0,0)):=j;have m:aK w.drew (W0.heap.size+2) 31 bI:=m;have o:X W0.heap.size W0 w.drew:=o.drew;generalize w.drew=w at k j m o|-;have n:=And.intro k j;change wpAnyL _ _ _ _ _ _ 9 (Array.replicate 9 false) _ _;have A:(fa 14 f).eval (.tmp 2)=_:=ft t;refine uj (i:=1) (d:=6) (.pointer (Y ⟨W0.heap.size,12,I⟩)) rfl rfl zz rfl kr kr kr kr (λp a=>?_) n ?_
 .simp only[jF,gD,Tryz.f29,zQ,zE,Hn,zM,A];go_simp
 have C:(fa 14 (ah f 6 (.pointer (Y ⟨W0.heap.size,12,I⟩)))).eval (.tmp 6)=_:=ft (au _ _ _);refine uj (i:=2) (d:=7) (.slice b.W.A b.W.n b.W.c) rfl rfl zz rfl kr kr kr kr (λp a=>?_) n ?_
 .have T:=(aM a.1).2.2.2.2.2.2.2.2.2.2.2.2;simp only[jF,gD,Tryz.f29,zQ,zE,Hn,zM,C];go_simp
 have B:(fa 14 (ah (ah f 6 (.pointer (Y ⟨W0.heap.size,12,I⟩))) 7 (.slice b.W.A b.W.n b.W.c))).eval (.tmp 3)=_:=ft (nt (nt E));refine uj (i:=4) (d:=9) (wV x) rfl rfl zz rfl kr kr kr kr (λp a=>?_) n ?_
 .obtain⟨Q,R,y2⟩:=Hi a.2;unfold wV;simp only[jF,gD,Tryz.f29,zQ,zE,Hn,zM,B];go_simp
 have r:Wt W0 b l x false false false (ah (ah (ah f 6 (.pointer (Y ⟨W0.heap.size,12,I⟩))) 7 (.slice b.W.A b.W.n b.W.c)) 9 (wV x)) w:=
  ⟨t,G,rfl,rfl,k,j,m,o,by have:=m.lt;omega,λe=>(by cases e),λe=>(by cases e),λe=>(by cases e)⟩
 generalize ah (ah (ah f 6 (.pointer (Y ⟨W0.heap.size,12,I⟩))) 7 (.slice b.W.A b.W.n b.W.c)) 9 (wV x)=f6 at r|-;clear j n;have N:l.W.length<=1000:=hl.2.2.1;have g:∀{p5 p8 p10 f w},Wt W0 b l x p5 p8 p10 f w->aK w W0.heap.size 31 b/\w.heap[W0.heap.size+1]?=Y (.cells #[.int .i64 x.1,.int .i64 x.2.1,.bool x.2.2] 72 (0,0)):=λh=>⟨h.box,h.xc⟩;have q:∀{f w} {L:Array Bool},L= #[true,true,true,true,true,true,false,false,false]->Wt W0 b l x false true true f w->wpAnyL F .any jF (aR (Wo W0 b l x)) (λw'=>aK w' W0.heap.size 31 b/\w'.heap[W0.heap.size+1]?=Y (.cells #[.int .i64 x.1,.int .i64 x.2.1,.bool x.2.2] 72 (0,0))) (λi=>decide (8<=i)) 3 L (fa 14 f) w:=by
  intro f w L K h;subst K;refine bl [6] kr ss (λi hi=>?_);obtain rfl:=q8A.1 hi;exact h.s6 N λv w' O s u r4 P=>⟨λ_=>⟨s,u⟩,PO ⟨s,u⟩ kr h.c2 h.c4 O s r4 P⟩
 refine bl [0,5] kr ss (λi hi=>?_);have:i=0\/i=5:=by simpa using hi
 rcases this with rfl|rfl
 .refine r.s0 λJ p a=>⟨λ_=>g a,?_⟩;refine bl [3,5] kr ss (λi hi=>?_);have:i=3\/i=5:=by simpa using hi
  rcases this with rfl|rfl
  .refine a.s3 hl λf2 y h2=>⟨λ_=>g h2,?_⟩;refine bl [5] kr ss (λi hi=>?_);obtain rfl:=q8A.1 hi;exact h2.s5 λf3 z c=>⟨λ_=>g c,q kr c⟩
  .refine a.s5 λf2 y h2=>⟨λ_=>g h2,?_⟩;refine bl [3] kr ss (λi hi=>?_);obtain rfl:=q8A.1 hi;exact h2.s3 hl λf3 z c=>⟨λ_=>g c,q kr c⟩
 .refine r.s5 λJ p a=>⟨λ_=>g a,?_⟩;refine bl [0] kr ss (λi hi=>?_);obtain rfl:=q8A.1 hi;refine a.s0 λf2 y h2=>⟨λ_=>g h2,?_⟩;refine bl [3] kr ss (λi hi=>?_);obtain rfl:=q8A.1 hi;exact h2.s3 hl λf3 z c=>⟨λ_=>g c,q kr c⟩
theorem EL(b:aC)(l:pK)(x:Int×Int×Bool)(w:H)(hl:fL w b.W l.W):
  PH F 29 #[b.v,wV x] w λe w'=>∃W:Sl,e=.returned ({b with W:=W}:aC).v/\W.n=l.W.length+1/\w'.ownsRow w.heap.size 72 3 (.slice W.A W.n W.c) W.n ((l.W++[x]).flatMap rO)/\X w.heap.size w w':=by
 refine calls_of_wp Tryz.func29 (c:=gD) rfl ?_;show Ly.wp F gD _ ⟨#[b.v,wV x]++Array.replicate 12 D,[]⟩ w;rw[iu (A:= #[b.v,wV x]) (k:=12) (n:=14) rfl];show Ly.wp F gD _ (fa 14 λi=> #[b.v,wV x].getD i D) w;generalize E:(λi=> #[b.v,wV x].getD i D)=f;have f0:f 0=b.v:=by rw[<- E];rfl
 have f1:f 1=wV x:=by rw[<- E];rfl
 clear E;rw[MF];have a0:(fa 14 f).eval (.tmp 0)=_:=ft f0;refine wp_seq (wF (l:=[0,1,2]) rfl ?_);refine oF (d:=2) (w':=w.alloc (aE b 31)) (.pointer (Y ⟨w.heap.size,0,I⟩)) rfl rfl zz rfl ?_ ?_
 .unfold aC.v at a0;simp only[JA,gD,Tryz.f29,zE,Hn,zM,a0];unfold aE;go_simp;try rfl
 have q:aK (w.alloc (aE b 31)) w.heap.size 31 b:=Sp _ _;have s:X w.heap.size w (w.alloc (aE b 31)):=(X.refl _ _).alloc (qN _) _;have p:(w.alloc (aE b 31)).heap.size=w.heap.size+1:=aa _ _;generalize w.alloc (aE b 31)=m at q s p|-;have L:(fa 14 (ah f 2 (.pointer (Y ⟨w.heap.size,0,I⟩)))).eval (.tmp 1)=_:=ft (nt f1);refine oF (d:=3) (w':=m.alloc (.cells #[.int .i64 x.1,.int .i64 x.2.1,.bool x.2.2] 72)) (.pointer (Y ⟨m.heap.size,0,I⟩)) rfl rfl zz rfl ?_ ?_
 .unfold wV at L;simp only[JA,gD,Tryz.f29,zE,Hn,zM,L];go_simp;try rfl
 have y:(m.alloc (.cells #[.int .i64 x.1,.int .i64 x.2.1,.bool x.2.2] 72)).heap[w.heap.size+1]?=Y (.cells #[.int .i64 x.1,.int .i64 x.2.1,.bool x.2.2] 72 (0,0)):=by rw[<- p];exact Sp _ _
 have r:=(QR m (.cells #[.int .i64 x.1,.int .i64 x.2.1,.bool x.2.2] 72) q.lt).tn q;have t:=s.alloc s.size (.cells #[.int .i64 x.1,.int .i64 x.2.1,.bool x.2.2] 72);have u:(m.alloc (.cells #[.int .i64 x.1,.int .i64 x.2.1,.bool x.2.2] 72)).heap.size=w.heap.size+2:=by rw[aa,p]
 rw[p];generalize m.alloc (.cells #[.int .i64 x.1,.int .i64 x.2.1,.bool x.2.2] 72)=j at y r t u|-;clear q s;refine oF (d:=4) (w':=j.alloc (aE bI 31)) (.pointer (Y ⟨j.heap.size,0,I⟩)) rfl rfl zz rfl ?_ ?_
 .simp only[JA,gD,Tryz.f29,zE,Hn,zM];unfold aE bI;go_simp;try rfl
 have S:aK (j.alloc (aE bI 31)) (w.heap.size+2) 31 bI:=by rw[<- u];exact Sp _ _
 have O:aK (j.alloc (aE bI 31)) w.heap.size 31 b:=(QR j (aE bI 31) (ec.1 r).1).tn r;have U:=(QR j (aE bI 31) (ec.1 y).1).tn y;have P:=t.alloc t.size (aE bI 31);rw[u];generalize j.alloc (aE bI 31)=w3 at S O U P|-;clear y r t p u;refine wp_seq (wp_mono (H7 hl rfl rfl rfl O U S P) λe a w' h=>?_);cases e<;>first|exact False.elim h|skip
 obtain⟨o,W,rfl,g2,N,a5,K,a4,T,Q⟩:=h;have b2:(fa 14 o).eval (.tmp 2)=_:=ft g2;refine wp_seq (wF (l:=[0,1]) rfl ?_);obtain⟨V,Z,x2,x3,x4,x5,x6,x7,x8,x9,a1,a2,a3⟩:=aM a4;refine oF (d:=13) (w':=w') ({b with W:=W}:aC).v rfl rfl zz rfl ?_ ?_
 .unfold aC.v;simp only[Vd,gD,Tryz.f29,zE,Hn,zM,b2];go_simp
 clear V Z x2 x3 x4 x5 x6 x7 x8 x9 a1 a2 a3;have B:(fa 14 (ah o 13 ({b with W:=W}:aC).v)).eval (.tmp 4)=_:=ft (nt N);have z:(fa 14 (ah o 13 ({b with W:=W}:aC).v)).eval (.tmp 13)=_:=ft (au _ _ _);obtain⟨R,J,-⟩:=pq ({b with W:=W}:aC) T;have C:ah o 13 ({b with W:=W}:aC).v 4=_:=nt N;refine oS rfl rfl rfl (rJ rfl B z T).1 ?_;generalize ah o 13 ({b with W:=W}:aC).v=f5 at B z C|-;generalize uq (w.heap.size+2) ({b with W:=W}:aC) w'=w5 at R J|-;refine wp_ret ?_;obtain⟨V,Z,x2,x3,x4,x5,x6,x7,x8,x9,a1,a2,a3⟩:=aM R;refine bd (v:=({b with W:=W}:aC).v) ?_ rfl ⟨W,rfl,a5,?_,?_⟩
 .have e4:(fa 14 f5).tmps[4]?=Y (.pointer (Y ⟨w.heap.size+2,0,I⟩)):=by rw[ej zz,C]
  clear C B z;unfold results Tryz.f29 aC.v;go_simp
 .exact dy (la _ _) (dL K λg G=>J.block g (K.lt g G).2 (by have:=(K.lt g G).1;omega))
 .exact Q.tn (J.below Q.size λg G=>zz)
end Go.Proofs.YthfhocgpjjkjlaaGreatDoor
