import Derived.Test.YthfhocgpjjkjlaaGreatDoorZg
import Derived.Test.YthfhocgpjjkjlaaGreatDoorZp
import Derived.Conc.SmallLaws
import Derived.StillTailTactics
import Derived.BigQuiet
set_option maxRecDepth 100000
set_option maxHeartbeats 4000000
set_option linter.all false
noncomputable section
open Go renaming World->Cl,undef->D,World->H,Value->Ha,execOp->Hn,Frame->Kf,Oper->Kp,TypeId->Lk,stepG->Lq,Code->Ly,Value->M,Calls->PH,Program->Ps,Goroutine->QP,heap_alloc_old->QR,heap_alloc_new->Sp,resolve->ab,Operand->ae,MemOp->al,FuncId->ba
open Go.Proofs.Tryz renaming prog->F
open Option renaming none->I,some->Y
open Go.RowKit renaming Hid->PQ,Below->X
open Go.ConcN renaming upd_same->Sx
namespace Go.Proofs.YthfhocgpjjkjlaaGreatDoor
open Go.RowKit Go.Co Go.Conc
variable{w:H}{v:M}{xs:List Int}{V:Nat->Prop}
def mg(w:H)(v:M)(xs:List Int):Prop:=(v=.slice I 0 0/\xs=[])\/∃g a b e z,v=.slice (Y ⟨g,0,I⟩) xs.length a/\w.heap[g]?=Y (.cells b e z)/\xs.length<=a/\a<=maxLen/\xs.length<=b.size/\∀(j:Nat) (x:Int),xs[j]?=Y x->b[j]?=Y (M.int .i64 x)
def mg.keep{w w':H}(h:mg w v xs)(hk:∀b,sB v b->w'.heap[b]?=w.heap[b]?):mg w' v xs:=by
 rcases h with h|⟨g,a,c,e,z,rfl,h2,d⟩
 .exact Or.inl h
 .exact .inr ⟨g,a,c,e,z,rfl,(hk g ⟨_,_,_,rfl,rfl⟩).tn h2,d⟩
end Go.Proofs.YthfhocgpjjkjlaaGreatDoor
open Go in
open Go.Proofs.YthfhocgpjjkjlaaGreatDoor in
open Go.RowKit Go.Co Go.Conc in
def Go.Co.sq.zZ{T:P3}{V:Nat->Prop}{w:Cl}{v:Ha}{n:Nat}{xs:List Int}(h:sq T V w v 1 n (xs.map (Ha.int .i64))):mg w v xs/\∀b,sB v b->V b:=by
 obtain⟨h0,⟨rfl,h1⟩|⟨g,cap,rfl,h2,h3,h4,h5⟩⟩:=h
 .refine⟨.inl ⟨rfl,List.length_eq_zero_iff.1 ?_⟩,λb hb=>by obtain⟨a,l,c,e,-⟩:=hb;cases e⟩
  rw[List.length_map]at h0
  omega
 .rw[List.length_map,Nat.mul_one]at h0
  obtain⟨hV,cur,e,z,hc,hk,-⟩:=h4
  rw[<- h0]
  refine⟨.inr ⟨g,cap,cur,e,z,rfl,hc,zz,h3,zz,λj x hx=>?_⟩,λb hb=>by obtain⟨a,l,c,e,rfl⟩:=hb;cases e;exact hV⟩
  have h6:=h5 j (.int .i64 x) (by rw[List.getElem?_map,hx];rfl)
  unfold Cl.cell? at h6
  dsimp only at h6
  rw[hc]at h6
  exact h6
namespace Go.Proofs.YthfhocgpjjkjlaaGreatDoor
open Go.RowKit Go.Co Go.Conc
variable{w:H}{v:M}{xs:List Int}{V:Nat->Prop}
def rS(base:Nat)(b:aC)(l:pK)(i:Nat)(v:M)(w:H):Prop:=ia b l (i-base)=false/\mg w v (dh (i-base) l.W.length)
def BQ:Ly:=match Tryz.f68.body with|some c=>c|_=>.skip
def uX(wg g a gc:Nat):Array M:= #[.pointer (Y (wg,0)),.pointer (Y (g,0)),.pointer (Y (a,0)),.pointer (Y (gc,0))]
def call70(wg g a gc:Nat):Deferred:= {target:=.fn (.func 68) (uX wg g a gc),args:= #[]}
def yJ(wg g a gc:Nat):Kf:= { (default:Kf)with fn:=F.funcs.size,defers:=[call70 wg g a gc],mode:=.panicking [goexitEntry]}
def Aa(wg g a gc:Nat):Nat->M:=λi=>(uX wg g a gc).getD i D
def Ew(wg g a gc:Nat)(w:H):Lq F false (G (yJ wg g a gc) []) w=.go (G ((bs .deferred 68).at (fa 43 (Aa wg g a gc)) [.code BQ]) [fP]) w #[]:=by
 have e:=iu (A:=uX wg g a gc) (k:=39) (n:=43) rfl;simp[yJ,call70,Lq,unwind,callDeferred,invoke,callFunc,Tryz.func68,Tryz.f68,seen,GStep.after,G,Kf.enter,Kf.at,fP,BQ,bs,fa,Aa];exact e
def jw:Array Kp:=match iN with|.region _ ops _=>ops|_=> #[]
def W9:Array Kp:=match BQ with|.seq (.region _ ops _) _=>ops|_=> #[]
def Mk:BQ=.seq (.region 0 W9 false) bF:=rfl
def Hq:iN=.region 11 jw false:=rfl
def Vm(f i:Nat):Kd:=if i=0 then .junk else xO f i
def RF:P3:=TJ Vm iN
def Zo:wC RF F (RF.kind 68) bD bF:=
 GI rfl _ λa b c d e f y h=>by
  have g:bD=.seq (match bD with|.seq a _=>a|_=>.skip) (.seq (match bD with|.seq _ (.seq a _)=>a|_=>.skip) (.seq (match bD with|.seq _ (.seq _ (.seq a _))=>a|_=>.skip) (.seq me (.seq (.region 10 vS false) (.cond (.tmp 40) (.refuse "cut") .skip))))):=rfl;rw[g]at h;simp only[Ly.seq.injEq,Ly.cond.injEq]at h;obtain⟨rfl,rfl,rfl,rfl,rfl,rfl, -, rfl⟩:=h;exact⟨by kernel_rfl,by kernel_rfl,by kernel_rfl,by kernel_rfl,by kernel_rfl,by kernel_rfl,by kernel_rfl⟩
def dw(wg:Nat):Deferred:=dcall 69 #[.pointer (Y (wg,0))]
def Zp(wg g a gc:Nat):(Array.range 43).map (Aa wg g a gc)= #[.pointer (Y (wg,0)),.pointer (Y (g,0)),.pointer (Y (a,0)),.pointer (Y (gc,0)),D,D,D,D,D,D,D,D,D,D,D,D,D,D,D,D,D,D,D,D,D,D,D,D,D,D,D,D,D,D,D,D,D,D,D,D,D,D,D]:=by kernel_rfl
theorem BR:OneCell F 125:=λw ad v h=>⟨by go_simp,by simp[go_sem,h]⟩
def XB(b:aC)(l:pK)(a wg C:Nat)(V:Nat->Prop)(V':Nat->Prop)(g':QP)(w':H):Prop:=
 (∀x,V x->V' x)/\((ia b l a=true/\∃tm,g'=G ((bs .deferred 68).at ⟨tm,[dw wg]⟩ []) [fP])\/
  (ia b l a=false/\∃f v,g'=G ((bs .deferred 68).at ⟨(Array.range 43).map f,[dw wg]⟩ [.inRegion jw [1,2]]) [fP]/\f 41=.chan (Y C)/\f 5=v/\mg w' v (dh a l.W.length)/\∀x,sB v x->V' x))
def Ex{V O:Nat->Prop}{e0:Lk}{b:aC}{l:pK}{bits wg g gb gc C:Nat}(a7:Base TA V w e0)(z:∀x,V x->x<w.heap.size)(a9:cy TA V w b l)(b3:ay b l=0)(a0:bits<16)
  (b1:bV TA V w g 13)(b2:∀i x,(wE b)[i]?=Y x->w.cell? ⟨g,i,I⟩=Y x)(b4:bV TA V w gb 1)(a':w.cell? ⟨gb,0,I⟩=Y (.int .i64 bits))(r:V gc)(B:w.cell? ⟨gc,0,I⟩=Y (.chan (Y C))):
  WalkE F false (λV' _ g' w'=>XB b l bits wg C V V' g' w') V O (G (yJ wg g gb gc) []) w:=by
 have hB:Base RF V w e0:=a7.tj;have a8:cy RF V w b l:=a9.tr λ_ _ h=>h;have y:bV RF V w g 13:=b1;have J:bV RF V w gb 1:=b4;refine WalkE.ctl (λw=>Ew wg g gb gc w) ?_;rw[Mk];refine WalkE.seq (WalkE.reg (l:=[0]) rfl ?_);have a5:(fa 43 (Aa wg g gb gc)).eval (.tmp 0)=.pointer (Y ⟨wg,0,I⟩):=fe zz;refine WalkE.ctl (λw=>stepG_defer (f:=69) (ats:= #[135]) (o:=W9.getD 0 default) rfl rfl sb rfl) ?_;simp only[zM,a5];change WalkE F false _ V O (G ((bs .deferred 68).at ⟨(Array.range 43).map (Aa wg g gb gc),[dw wg]⟩ (.inRegion W9 []::[.code bF])) [fP]) w;refine WalkE.aT ?_;refine NS (T:=RF) (hB:=hB) (tm0:=(Array.range 43).map (Aa wg g gb gc)) (Q0:=λtm S=>ia b l bits=true) (Q1:=λtm S=>ia b l bits=false/\tm.size=43/\tm[3]?=Y (.pointer (Y ⟨gc,0,I⟩))/\∃c:Sl,tm[5]?=Y (.slice c.A c.n c.c)/\S.ownsRow w.heap.size 3 1 (.slice c.A c.n c.c) c.n ((dh bits l.W.length).map (M.int .i64))) (Eo _ _) Zo ss z (Es λi hi=>?_) (λR=>?_) (λZ b7 W1 Q bj u W L s j=>?_) (λZ b7 W1 Q bj u W L s j=>?_)
 .show dM (gr hB) (Vm 68 i) (Aa wg g gb gc i) (Aa wg g gb gc i);have P:∀{p:Nat},Shown RF V w p->dM (gr hB) .addr (.pointer (Y ⟨p,0,I⟩)) (.pointer (Y ⟨p,0,I⟩)):=λh=>.ptr ⟨rfl,rfl,0,mH h,rfl,rfl⟩;have:i=0\/i=1\/i=2\/i=3\/4<=i:=zz;rcases this with rfl|rfl|rfl|rfl|h4
  .exact .junk
  .exact P y.shown
  .exact P J.shown
  .exact P (jQ r B)
  .have:Aa wg g gb gc i=D:=by
    unfold Aa;rw[Array.getD_eq_getD_getElem?,Array.getElem?_eq_none (by show 4<=i;omega)];rfl
   rw[this];exact qw
 .rw[Zp];have N:(tp (gw RF V e0 w) R w.drawn).heap.size=w.heap.size:=dW;have:=Hp b l bits (.pointer (Y ⟨wg,0,I⟩)) g gb gc b3 a0 (tp (gw RF V e0 w) R w.drawn) (a8.gw R w.drawn) (by rw[N];exact z _ y.1) (by rw[N];exact z _ J.1) (λi v a4=>(dO y ((ec.1 a4).1)).tn (b2 i v a4)) ((dO J zz).tn a');rw[N]at this;exact this
 .exact WalkE.stop λq m=>⟨λx k=>(j.hV x).2 (.inl k),.inl ⟨L,Q,rfl⟩⟩
 .obtain⟨q1,q2,q3,c,q4,q5⟩:=L;obtain⟨f,a6,a2⟩:=qd (A:=Q) (n:=43) (by rw[<- s.1];exact q2);have e3:f 3=.pointer (Y ⟨gc,0,I⟩):=ym j.le (jQ r B) (by rw[a2];exact s.at_ q3);have k5:VR Z (.slice c.A c.n c.c) (f 5):=by rw[a2];exact s.at_ q4
  obtain⟨b5,-⟩:=j.row q5 (qN _) k5 (λx k=>by
   obtain⟨a, -, rfl⟩:=List.mem_map.1 k;exact⟨aG _ _,cR _ _⟩)
  obtain⟨b6,a3⟩:=b5.zZ;have a1:bj.cell? ⟨gc,0,I⟩=Y (.chan (Y C)):=aV (j.keep gc r) B;have K:u gc:=(j.hV gc).2 (.inl r);subst a6;show WalkE F false _ u W (G ((bs .deferred 68).at ⟨(Array.range 43).map f,[dw wg]⟩ [.code iN]) [fP]) bj;rw[Hq];refine WalkE.reg (l:=[0,1,2]) rfl ?_;have U:(⟨(Array.range 43).map f,[dw wg]⟩:Act).eval (.tmp 3)=.pointer (Y ⟨gc,0,I⟩):=(show(fa 43 f).eval (.tmp 3)=_ from fe zz).tn e3;refine WalkE.value (o:=jw.getD 0 default) (.chan (Y C)) rfl wnn sb (λq m=>?_) (λq m e E=>?_) ?_
  .have:=(BR q _ _ (bu m K a1)).1;simp only[jw,iN,bF,Tryz.f68,zQ,Hn,U];simp[this]
  .have h2:=BR q _ _ (bu m K a1);simp only[jw,iN,bF,Tryz.f68,zQ,Hn,U]at E;simp[h2.1,h2.2]at E;subst E;exact⟨rfl,K,λh=>by cases h⟩
  have p1:(⟨(Array.range 43).map f,[dw wg]⟩:Act).put (jw.getD 0 default).dst (.chan (Y C))=⟨(Array.range 43).map (ah f 41 (.chan (Y C))),[dw wg]⟩:=by
   have:=cd Act.tmps (cw (n:=43) (d:=41) (f:=f) (v:=.chan (Y C)) zz);exact cd (λt=>(⟨t,[dw wg]⟩:Act)) this
  rw[p1];exact WalkE.stop λq m=>⟨λx k=>(j.hV x).2 (.inl k),.inr ⟨q1,_,f 5,rfl,au _ _ _,nf,b6.keep λx k=>m.keep x (a3 x k),a3⟩⟩
variable{O bm bo:Nat->Prop}{bj dv:H}{g i n d:Nat}{main:Bool}{Stop:(Nat->Prop)->(Nat->Prop)->QP->H->Prop}{b:Kf}{k:List Item}{cs:List Kf}{ops:Array Kp}{rest:List Nat}{o:Kp}{f:Nat->M}{e0:Lk}
abbrev WO(main:Bool)(Stop:(Nat->Prop)->(Nat->Prop)->QP->H->Prop)(V O:Nat->Prop)(b:Kf)(n:Nat)(f:Nat->M)(ops:Array Kp)(l:List Nat)(k:List Item)(cs:List Kf)(w:H):Prop:=WalkE F main Stop V O (G (b.at (fa n f) (.inRegion ops l::k)) cs) w
structure dU(V O:Nat->Prop)(w:H)(bm bo:Nat->Prop)(bj:H):Prop where
 vv:∀x,V x->bm x
 vo:∀x,bm x->V x\/(bo x/\w.heap.size<=x)
 oo:∀x,O x->bo x
 ov:∀x,bo x->O x\/(bm x/\w.heap.size<=x)
 rely:aH V w bj
 cX:∀x,bm x->x<bj.heap.size
def dU.refl(h:∀x,V x->x<w.heap.size):dU V O w V O w:=⟨λ_=>id,λ_=>.inl,λ_=>id,λ_=>.inl,.refl _ _,h⟩
def dU.tn{V O bm bo V2 O2:Nat->Prop}(h:dU V O w bm bo bj)(b:dU bm bo bj V2 O2 dv):dU V O w V2 O2 dv:=
 ⟨λx d=>b.vv x (h.vv x d),λx d=>(b.vo x d).elim (λa=>(h.vo x a).imp id λc=>⟨b.oo x c.1,c.2⟩) λa=>.inr ⟨a.1,qO h.rely.size a.2⟩,λx d=>b.oo x (h.oo x d),
  λx d=>(b.ov x d).elim (λa=>(h.ov x a).imp id λc=>⟨b.vv x c.1,c.2⟩) λa=>.inr ⟨a.1,qO h.rely.size a.2⟩,h.rely.tn (b.rely.mono h.vv),b.cX⟩
def dU.step(h:dU V O w bm bo bj)(a:aH bm bj dv):dU V O w bm bo dv:=⟨h.vv,h.vo,h.oo,h.ov,h.rely.tn (a.mono h.vv),a.cX h.cX⟩
def dU.make(h:dU V O w bm bo bj)(o:Obj):dU V O w (λx=>bm x\/x=bj.heap.size) (λx=>bo x\/x=bj.heap.size) (bj.alloc o):=
 h.tn ⟨λ_=>.inl,λx a=>a.imp id λe=>⟨.inr e,zz⟩,λ_=>.inl,λx a=>a.imp id λe=>⟨.inr e,zz⟩,gS h.cX o,λx a=>by
  rw[aa];rcases a with a|rfl
  .have:=h.cX x a;omega
  .omega⟩
def dU.set(h:dU V O w bm bo bj){g i:Nat}(c:w.heap.size<=g)(b:∀x,V x->x<w.heap.size)(v:M):dU V O w bm bo (bj.setCell (g,i) v):=
 ⟨h.vv,h.vo,h.oo,h.ov,h.rely.tn (nB (λa=>by have:=b g a;omega) _),λx a=>by simpa[H.setCell]using h.cX x a⟩
def dU.all(h:dU V O w bm bo bj)(c:∀x,V x↔O x):∀x,bm x↔bo x:=λx=>
 ⟨λb=>(h.vo x b).elim (λa=>h.oo x ((c x).1 a)) (·.1),λb=>(h.ov x b).elim (λa=>h.vv x ((c x).2 a)) (·.1)⟩
end Go.Proofs.YthfhocgpjjkjlaaGreatDoor
open Go in
open Go.Proofs.YthfhocgpjjkjlaaGreatDoor in
open Go.RowKit Go.Co Go.Conc in
variable{b:Kf} in
variable{o:Kp} in
def Go.Co.ir.bH{P:Ps}{T:P3}{N:Nat}{V0 O0:Nat->Prop}{w0 w:Cl}{ρ0 Z:Ren}{W:Cl}{V O:Nat->Prop}(h:ir T P N V0 O0 w0 ρ0 Z W w V O):dU V0 O0 w0 V O w:=
 ⟨λx hx=>(h.hV x).2 (.inl hx),λx hx=>((h.hV x).1 hx).imp id λc=>c.2,λx hx=>(h.hO x).2 (.inl hx),λx hx=>((h.hO x).1 hx).imp id λc=>⟨c.1,c.2.2⟩,⟨h.tape,h.os,h.output,h.size,h.keep⟩,h.vb⟩
namespace Go.Proofs.YthfhocgpjjkjlaaGreatDoor
open Go.RowKit Go.Co Go.Conc
variable{w:H}{v:M}{xs:List Int}{V:Nat->Prop}
variable{O bm bo:Nat->Prop}{bj dv:H}{g i n d:Nat}{main:Bool}{Stop:(Nat->Prop)->(Nat->Prop)->QP->H->Prop}{b:Kf}{k:List Item}{cs:List Kf}{ops:Array Kp}{rest:List Nat}{o:Kp}{f:Nat->M}{e0:Lk}
theorem Ml{b:aC}(h:∀i x,(wE b)[i]?=Y x->w.cell? ⟨g,i,I⟩=Y x):
  (Instr.loadAt 31 (.pointer (Y ⟨g,0,I⟩))).run F w=.ok b.v w/\∀e∈(Instr.loadAt 31 (.pointer (Y ⟨g,0,I⟩))).events F w #[],∃i,e=⟨.cell ⟨g,i,I⟩,false,false⟩:=by
 have c:w.cell? ⟨g,0,I⟩=Y (.int .i64 b.S):=h 0 _ rfl;have d:w.cell? ⟨g,1,I⟩=Y (.int .i64 b.D):=h 1 _ rfl;have l:w.cell? ⟨g,2,I⟩=Y (.int .i64 b.L):=h 2 _ rfl;have m:w.cell? ⟨g,3,I⟩=Y (.int .i64 b.lo):=h 3 _ rfl;have n:w.cell? ⟨g,4,I⟩=Y (.int .i64 b.hi):=h 4 _ rfl;have o:w.cell? ⟨g,5,I⟩=Y (.slice b.C.A b.C.n b.C.c):=h 5 _ rfl;have p:w.cell? ⟨g,6,I⟩=Y (.int .i64 b.rf):=h 6 _ rfl;have q:w.cell? ⟨g,7,I⟩=Y (.int .i64 b.rh):=h 7 _ rfl;have r:w.cell? ⟨g,8,I⟩=Y (.int .i64 b.cf):=h 8 _ rfl;have s:w.cell? ⟨g,9,I⟩=Y (.int .i64 b.ch):=h 9 _ rfl;have f:w.cell? ⟨g,10,I⟩=Y (.slice b.U.A b.U.n b.U.c):=h 10 _ rfl;have j:w.cell? ⟨g,11,I⟩=Y (.slice b.E.A b.E.n b.E.c):=h 11 _ rfl;have k:w.cell? ⟨g,12,I⟩=Y (.slice b.W.A b.W.n b.W.c):=h 12 _ rfl;refine⟨by unfold aC.v;go_simp,λe a=>?_⟩;simp[go_sem,c,d,l,m,n,o,p,q,r,s,f,j,k]at a
 first
  | (rcases a with rfl|rfl|rfl|rfl|rfl|rfl|rfl|rfl|rfl|rfl|rfl|rfl|rfl<;>exact⟨_,rfl⟩)
def WalkE.dV{x:ae}{bk:aC}(h:∀i x,(wE bk)[i]?=Y x->w.cell? ⟨g,i,I⟩=Y x)(l:V g)(t:ops[i]?=Y o)(m:o.op=.load 31 x)(p:(fa n f).eval x=.pointer (Y ⟨g,0,I⟩))(r:o.dst=Y d)(q:d<n)(s:o.guard=I)(hk:b.kind≠.early)
  (next:WO main Stop V O b n (ah f d bk.v) ops rest k cs w):WO main Stop V O b n f ops (i::rest) k cs w:=by
 have hl:=λbj (a:aH V w bj)=>Ml (w:=bj) (b:=bk) λi x hi=>bu a l (h i x hi);refine WalkE.jh bk.v t r q s hk (λbj a=>?_) (λbj a e c=>?_) next
 .unfold Hn;simp only[m,p];simp[(hl bj a).1]
 .unfold Hn at c;simp only[m,p]at c;have h2:=hl bj a;simp[h2.1]at c;obtain⟨j,rfl⟩:=h2.2 e c;exact⟨rfl,l,λh=>by cases h⟩
def WalkE.U7{fn:ba}{args:Array M}{v:M}{R:H->Prop}(a:ops[i]?=Y o)(q:o.dst=Y d)(p:d<n)(t:o.guard=I)(hk:b.kind≠.early)
  (x:∀bj,(Hn (fa n f).eval o).run F bj=.ok (.enter fn args) bj)(r:∀bj,(Hn (fa n f).eval o).events F bj #[]= #[])
  (hB:Base TA V w e0)(l:∀b,V b->b<w.heap.size)(s:TA.has fn=true)(y:TA.ret fn=.val)(j:KR (TA.kind fn) (gr hB) args args)(m:∀A,PH F fn args (tp (gw TA V e0 w) A w.drawn) λe W=>e=.returned v/\R W)(z:eR v)
  (next:∀bj bm bo,dU V O w bm bo bj->WO main Stop bm bo b n (ah f d v) ops rest k cs bj):WO main Stop V O b n f ops (i::rest) k cs w:=by
 refine WalkE.enter a (bY t) hk x r ?_;refine IV (T:=TA) (hB:=hB) (I1 .skip) s l j m (λe W h=>⟨v,h.1⟩) (λZ C B v' bj bm bo u c g=>?_);obtain⟨e1,-⟩:=u;cases e1;rw[y]at c;obtain rfl:=z Z v' c;rw[Kf.finish_at];rw[show(ops[i]?).bind (·.dst)=Y d by rw[a];exact q,cw p];exact next bj bm bo g.bH
variable{b:aC}{l:pK}
def jy{κ:Nat->Kd}{Z:Ren}{v:M}(h:dM Z (κ 0) v v):KR κ Z #[v] #[v]:=by
 refine⟨rfl,λi x y a b=>?_⟩;have hi:i<1:=(ec.1 a).1;obtain rfl:i=0:=zz;cases a;cases b;exact h
def aX:Ly:=match Tryz.f28.body with|some c=>c|_=>.skip
def Pk:Array Kp:=match aX with|.seq (.region _ ops _) _=>ops|_=> #[]
def Pm:Array Kp:=match aX with|.seq _ (.seq (.seq (.region _ ops _) _) _)=>ops|_=> #[]
def Pn:Array Kp:=match aX with|.seq _ (.seq (.seq _ (.seq (.region _ ops _) _)) _)=>ops|_=> #[]
def Zt:Ly:=match aX with|.seq _ (.seq (.seq _ (.seq _ (.cond _ c _))) _)=>c|_=>.skip
def EC:Array Kp:=match aX with|.seq _ (.seq _ (.seq (.seq (.region _ ops _) _) _))=>ops|_=> #[]
def Zu:Ly:=match aX with|.seq _ (.seq _ (.seq (.seq _ (.cond _ c _)) _))=>c|_=>.skip
def vT:Array Kp:=match aX with|.seq _ (.seq _ (.seq _ (.seq (.region _ ops _) _)))=>ops|_=> #[]
def cK:Ly:=match aX with|.seq _ (.seq _ (.seq _ (.seq _ r)))=>r|_=>.skip
def Mm:aX=.seq (.region 0 Pk false) (.seq (.seq (.region 1 Pm false) (.seq (.region 2 Pn false) (.cond (.tmp 14) Zt .skip))) (.seq (.seq (.region 4 EC false) (.cond (.tmp 18) Zu .skip)) (.seq (.region 6 vT false) cK))):=rfl
def Ht(v:M):Nat->M:=λi=>if i=0 then v else D
def S4(v:M):Kf.enter F 28 #[v] .normal=(bs .normal 28).at (fa 50 (Ht v)) [.code aX]:=by
 rw[enter_at (c:=aX) #[v] Tryz.func28 rfl];have: #[v]++Array.replicate (Tryz.f28.ntmps-#[v].size) D=(Array.range 50).map (Ht v):=by
  have e:=iu (A:= #[v]) (k:=49) (n:=50) rfl;refine Eq.tn ?_ (e.tn ?_)
  .rfl
  .refine cd (λg=>(Array.range 50).map g) (funext λi=>?_);unfold Ht;by_cases h:i=0
   .subst h;rfl
   .rw[qVB h,Array.getD_eq_getD_getElem?,Array.getElem?_eq_none (by show 1<=i;omega)];rfl
 rw[this];rfl
def gC(i:Nat):M:=if i=2 then .slice I 0 0 else if i=3 then .int .i64 0 else D
def RG(f:Nat->M):Prop:=∀i,i=2\/i=3\/i=10\/(42<=i/\i<50)->f i=gC i
def RG.set{f:Nat->M}(h:RG f){d:Nat}(v:M)(a:d≠2/\d≠3/\d≠10/\d<42):RG (ah f d v):=λi hi=>nt (h i hi)
def XC(V O:Nat->Prop)(w:H)(cs:List Kf)(b:aC)(V' a:Nat->Prop)(g':QP)(w':H):Prop:=
 ∃f g,g'=G ((bs .normal 28).at (fa 50 f) [.inRegion vT [0,1,2],.code cK]) cs/\f 1=(g,0)/\RG f/\V' g/\w'.heap[g]?=Y (aE b 31)/\dU V O w V' a w'
def uY(h:w.heap[g]?=Y (aE b 31)):∀i x,(wE b)[i]?=Y x->w.cell? ⟨g,i,I⟩=Y x:=λi x a=>by
 unfold H.cell?;dsimp only;rw[h];exact a
def yL{T:P3}(c:cy T V w b l)(a:V g)(h:w.heap[g]?=Y (aE b 31)):bV T V w g 13:=
 ⟨a,wE b,31,(0,0),h,qN _,λj v _ d=>rj c v (kq d)⟩
theorem Hu{V O:Nat->Prop}{e0:Lk}{cs:List Kf}(hB:Base TA V w e0)(b7:∀x,V x->x<w.heap.size)
  (a4:cy TA V w b l)(b5:dJ TA V w)(a6:ay b l=0)(b':lK b l b.D.toNat=false):
  WalkE F true (XC V O w cs b) V O (G (Kf.enter F 28 #[b.v] .normal) cs) w:=by
 rw[S4,Mm];refine WalkE.seq (WalkE.reg (l:=[0,1,2]) rfl ?_);have a0:(fa 50 (Ht b.v)).eval (.tmp 0)=b.v:=fe zz;refine WalkE.oa (d:=1) (aE b 31) (λn=>.pointer (Y ⟨n,0,I⟩)) rfl rfl zz rfl sb (λbj m=>?_) (λbj m=>?_) (λbj b9=>?_)
 .simp only[Pk,aX,Tryz.f28,zE,Hn,a0];unfold aC.v aE;go_simp
 .intro e c;simp only[Pk,aX,Tryz.f28,zE,Hn,a0]at c;unfold aC.v at c;simp[go_sem]at c
 have g1:dU V O w V O bj:=(dU.refl b7).step b9;have a:=g1.make (aE b 31);obtain⟨g,a9⟩:∃g,bj.heap.size=g:=⟨_,rfl⟩;have u:(bj.alloc (aE b 31)).heap[g]?=Y (aE b 31):=by rw[<- a9];exact Sp _ _
 rw[a9]at a|-;obtain⟨o,b0⟩:∃o,bj.alloc (aE b 31)=o:=⟨_,rfl⟩;rw[b0]at a u|-;have a1:=a4.mono a.vv a.rely.keep;have b3:Base TA _ o e0:=hB.mono a.vv a.rely.keep;have b6:=b5.rely a.vv a.rely;have a7:=uY u;have a8:=yL a1 (.inr rfl) u;have k1:Ht b.v 1=D:=rfl;obtain⟨j,r⟩:∃j,ah (Ht b.v) 1 (.pointer (Y ⟨g,0,I⟩))=j:=⟨_,rfl⟩;have e1:j 1=.pointer (Y ⟨g,0,I⟩):=by rw[<- r];exact au _ _ _
 have a3:∀i,2<=i->j i=D:=λi hi=>by rw[<- r,nf];unfold Ht;rw[qVB zz]
 rw[r];clear r k1;refine WalkE.gR (d:=2) (.slice I 0 0) rfl (.inr rfl) rfl rfl zz rfl sb ?_;refine WalkE.gR (d:=3) (.int .i64 0) rfl (.inr rfl) rfl rfl zz rfl sb ?_;obtain⟨f2,s⟩:∃f2,ah (ah j 2 (.slice I 0 0)) 3 (.int .i64 0)=f2:=⟨_,rfl⟩;have N:f2 1=.pointer (Y ⟨g,0,I⟩):=by rw[<- s,nf,nf];exact e1
 have K2:RG f2:=λi hi=>by
  rw[<- s];unfold gC;by_cases h3:i=3
  .subst h3;exact au _ _ _
  .rw[cu _ _ h3];by_cases h2:i=2
   .subst h2;exact au _ _ _
   .rw[cu _ _ h2,qVB h2,qVB h3];exact a3 i zz
 rw[s];clear s e1 a3;refine WalkE.aT (WalkE.seq (WalkE.seq (WalkE.reg (l:=[0,1,2]) rfl ?_)));refine WalkE.dV (d:=11) a7 a8.1 rfl rfl (ft N) rfl zz rfl sb ?_;have P:ah f2 11 b.v 1=_:=nt N;have A:=K2.set (d:=11) b.v zz;have p:(fa 50 (ah f2 11 b.v)).eval (.tmp 11)=b.v:=ft (au _ _ _);generalize ah f2 11 b.v=f3 at P A p|-;refine WalkE.U7 (d:=12) (fn:=30) (args:= #[b.v]) (v:=.int .i64 (ay b l)) (R:=λ_=>True) rfl rfl zz rfl sb (λbj=>?_) (λbj=>?_) b3 a.cX rfl rfl (jy (by exact dD a1)) (λz=>(cG b l _ (a1.gw z o.drawn) (b6.gw z o.drawn)).mono λe W h=>⟨h.1,qYB⟩) (aG _ _) (λy V3 O3 k=>?_)
 .simp only[Pm,aX,Tryz.f28,zE,Hn,ab,zM,p];rfl
 .simp only[Pm,aX,Tryz.f28,zE,Hn,ab,zM,p];rfl
 rw[a6];have f:=a.tn k;have Q:ah f3 12 (.int .i64 0) 1=_:=nt P;have B:=A.set (d:=12) (.int .i64 0) zz;have J:ah f3 12 (.int .i64 0) 12=.int .i64 0:=au _ _ _;generalize ah f3 12 (.int .i64 0)=Z at Q B J|-;clear N K2 P A p a0;refine WalkE.gR (d:=4) (.int .i64 0) rfl (.inr rfl) (ft J) rfl zz rfl sb ?_;have S:ah Z 4 (.int .i64 0) 1=_:=nt Q;have C:=B.set (d:=4) (.int .i64 0) zz;have L:ah Z 4 (.int .i64 0) 4=.int .i64 0:=au _ _ _;generalize ah Z 4 (.int .i64 0)=f5 at S C L|-;refine WalkE.aT (WalkE.seq (WalkE.reg (l:=[0,1]) rfl ?_));refine WalkE.gR (d:=13) (.int .i64 0) rfl (.inl rfl) (ft L) rfl zz rfl sb ?_;have T:ah f5 13 (.int .i64 0) 1=_:=nt S;have E:=C.set (d:=13) (.int .i64 0) zz;have q:(fa 50 (ah f5 13 (.int .i64 0))).eval (.tmp 13)=.int .i64 0:=ft (au _ _ _);generalize ah f5 13 (.int .i64 0)=f6 at T E q|-;clear Q B J S C L;refine WalkE.jh (d:=14) (.bool false) rfl rfl zz rfl sb (λbj m=>?_) (λbj m=>?_) ?_
 .simp only[Pn,aX,Tryz.f28,zE,Hn,ab,zM,q];go_simp
 .intro e c;simp only[Pn,aX,Tryz.f28,zE,Hn,ab,zM,q]at c;simp[go_sem]at c
 have U:ah f6 14 (.bool false) 1=_:=nt T;have K7:=E.set (d:=14) (.bool false) zz;refine WalkE.aT (WalkE.cond (t:=false) (ft (au _ _ _)) (WalkE.skip ?_));generalize ah f6 14 (.bool false)=f7 at U K7|-;clear T E q;have a5:=a4.mono f.vv f.rely.keep;have b4:Base TA _ y e0:=hB.mono f.vv f.rely.keep;have a2:bV TA V3 y g 13:=a8.mono k.vv k.rely.keep;have b8:∀i x,(wE b)[i]?=Y x->y.cell? ⟨g,i,I⟩=Y x:=λi x c1=>bu k.rely (.inr rfl) (a7 i x c1);refine WalkE.seq (WalkE.seq (WalkE.reg (l:=[0,1,2]) rfl ?_));refine WalkE.dV (d:=16) b8 a2.1 rfl rfl (ft U) rfl zz rfl sb ?_;have e8:ah f7 16 b.v 1=_:=nt U;have K8:=K7.set (d:=16) b.v zz;have S1:(fa 50 (ah f7 16 b.v)).eval (.tmp 16)=b.v:=ft (au _ _ _);generalize ah f7 16 b.v=f8 at e8 K8 S1|-;refine WalkE.jh (d:=17) b.v rfl rfl zz rfl sb (λbj m=>?_) (λbj m=>?_) ?_
 .simp only[EC,aX,Tryz.f28,zE,Hn,ab,zM,S1];unfold aC.v;go_simp
 .intro e c;simp only[EC,aX,Tryz.f28,zE,Hn,ab,zM,S1]at c;unfold aC.v at c;simp[go_sem]at c
 have e9:ah f8 17 b.v 1=_:=nt e8;have K9:=K8.set (d:=17) b.v zz;have K:(fa 50 (ah f8 17 b.v)).eval (.tmp 17)=b.v:=ft (au _ _ _);generalize ah f8 17 b.v=f9 at e9 K9 K|-;refine WalkE.U7 (d:=18) (fn:=66) (args:= #[b.v]) (v:=.bool (lK b l b.D.toNat)) (R:=λ_=>True) rfl rfl zz rfl sb (λbj=>?_) (λbj=>?_) b4 f.cX rfl rfl (jy (by exact dD a5)) (λz=>(xU b l a6 _ (a5.gw z y.drawn)).mono λe W h=>⟨h.1,qYB⟩) (dQ _) (λw5 V5 O5 g5=>?_)
 .simp only[EC,aX,Tryz.f28,zE,Hn,ab,zM,K];rfl
 .simp only[EC,aX,Tryz.f28,zE,Hn,ab,zM,K];rfl
 rw[b'];have b2:ah f9 18 (.bool false) 1=_:=nt e9;have b1:=K9.set (d:=18) (.bool false) zz;refine WalkE.aT (WalkE.cond (t:=false) (ft (au _ _ _)) (WalkE.skip (WalkE.seq (WalkE.reg (l:=[0,1,2]) rfl ?_))));have g6:=f.tn g5;exact WalkE.stop λw6 a'=>⟨_,g,rfl,b2,b1,g5.vv _ a2.1,((g5.step a').rely.keep g a2.1).tn ((k.rely.keep g (.inr rfl)).tn u),g6.step a'⟩
section
open Go.ConcN (upd upd_same upd_ne)
def qE:Array Kp:=match cK with|.seq (.region _ ops _) _=>ops|_=> #[]
def cL:Ly:=match cK with|.seq _ r=>r|_=>.skip
def yM:Array Kp:=match cL with|.seq (.seq (.region _ ops _) _) _=>ops|_=> #[]
def dB:Ly:=match cL with|.seq (.seq _ (.block _ (.loop c))) _=>c|_=>.skip
def dH:Ly:=match cL with|.seq _ r=>r|_=>.skip
def yN:Array Kp:=match dB with|.seq (.region _ ops _) _=>ops|_=> #[]
def Uy:Array Kp:=match dB with|.seq _ (.seq _ (.seq (.block _ (.seq (.region _ ops _) _)) _))=>ops|_=> #[]
def iV:Array Kp:=match dB with|.seq _ (.seq _ (.seq (.block _ (.seq _ (.seq (.region _ ops _) _))) _))=>ops|_=> #[]
def iD:Array Kp:=match dB with|.seq _ (.seq _ (.seq (.block _ (.seq _ (.seq _ (.region _ ops _)))) _))=>ops|_=> #[]
def o8:Array Kp:=match dB with|.seq _ (.seq _ (.seq _ (.region _ ops _)))=>ops|_=> #[]
def Po:cK=.seq (.region 7 qE false) cL:=rfl
def Pp:cL=.seq (.seq (.region 8 yM false) (.block 0 (.loop dB))) dH:=rfl
def ED:dB=.seq (.region 9 yN false) (.seq (.cond (.tmp 25) .skip (.exit 0)) (.seq (.block 1 (.seq (.region 10 Uy false) (.seq (.region 11 iV false) (.region 12 iD false)))) (.region 13 o8 false))):=rfl
def U8(w:H):(Instr.makeChan 125 (.int .i64 0)).run F w=.ok (.chan (Y w)) (w.alloc (.chan 0 #[] false 0 0 false)):=by
 have h:(F.info? 24).map (·.bytes)=Y 24:=by kernel_rfl
 obtain⟨i,hi,a⟩:=Option.map_eq_some_iff.1 h;simpa using run_makeChan (P:=F) (w:=w) (t:=125) (by kernel_rfl:F.underlying 125=Y (.chan .both 24)) hi .i64 0 zz (by rw[a];omega)
def Xc(w:H)(es:Array Event):(Instr.makeChan 125 (.int .i64 0)).events F w es=es:=by
 have h:(F.info? 24).map (·.bytes)=Y 24:=by kernel_rfl
 obtain⟨i,hi,a⟩:=Option.map_eq_some_iff.1 h;simpa using events_makeChan (P:=F) (w:=w) (t:=125) (by kernel_rfl:F.underlying 125=Y (.chan .both 24)) hi .i64 0 zz (by rw[a];omega) es
def XD(V O:Nat->Prop)(w:H)(cs:List Kf)(b:aC)(V' a:Nat->Prop)(g':QP)(w':H):Prop:=
 ∃f g gc C,g'=G ((bs .normal 28).at (fa 50 f) [.inRegion qE [0],.code cL]) cs/\f 1=(g,0)/\f 5=(gc,0)/\RG f/\V' g/\w'.heap[g]?=Y (aE b 31)/\
  V' gc/\w' (gc,0)=Y (.chan (Y C))/\V' C/\a C/\w'.heap[C]?=Y (.chan 0 #[] false 0 0 false)/\w.heap.size<=C/\gc≠C/\g≠C/\dU V O w V' a w'
theorem Hv{V O:Nat->Prop}{w:H}{e0:Lk}{b:aC}{l:pK}{cs:List Kf}(hB:Base TA V w e0)(U:∀x,V x->x<w.heap.size)
  (a6:cy TA V w b l)(a3:dJ TA V w)(t:ay b l=0)(a0:lK b l b.D.toNat=false):
  WalkE F true (XD V O w cs b) V O (G (Kf.enter F 28 #[b.v] .normal) cs) w:=by
 refine(Hu hB U a6 a3 t a0).bind λp O1 g1 w1 q=>?_;obtain⟨f,g,rfl,f1,a4,s,a7,o⟩:=q;refine WalkE.oa (d:=19) (.chan 0 #[] false 0 0 false) (λn=>.chan (Y n)) rfl rfl zz rfl sb (λbj c=>?_) (λbj c=>?_) (λA k=>?_)
 .simp only[vT,aX,Tryz.f28,zE,Hn];have e:(fa 50 f).eval (.const (.int .i64 0))=.int .i64 0:=rfl;simp[e,U8 bj]
 .intro e a;exfalso;simp only[vT,aX,Tryz.f28,zE,Hn]at a;have e:(fa 50 f).eval (.const (.int .i64 0))=.int .i64 0:=rfl;simp[e,U8 bj,Xc bj]at a
 have m:=(o.step k).make (.chan 0 #[] false 0 0 false);obtain⟨C,r⟩:∃C,A.heap.size=C:=⟨_,rfl⟩;have W:(A.alloc (.chan 0 #[] false 0 0 false)).heap[C]?=Y (.chan 0 #[] false 0 0 false):=by rw[<- r];exact Sp _ _
 have b3:g<C:=by rw[<- r];exact k.cX o.cX g s
 have a2:w.heap.size<=C:=by rw[<- r];exact qO o.rely.size k.size
 have N:aH p w1 (A.alloc (.chan 0 #[] false 0 0 false)):=k.tn (gS (k.cX o.cX) _);rw[r]at m|-;generalize(A.alloc (.chan 0 #[] false 0 0 false))=w3 at m W N|-;have S:=a4.set (d:=19) (.chan (Y C)) zz;have e1:ah f 19 (.chan (Y C)) 1=_:=nt f1;have R:ah f 19 (.chan (Y C)) 19=_:=au _ _ _;generalize ah f 19 (.chan (Y C))=f2 at S e1 R|-;refine WalkE.oa (d:=5) (.cells #[.chan I] 125) (λn=>.pointer (Y ⟨n,0,I⟩)) rfl rfl zz rfl sb (λbj c=>?_) (λbj c=>?_) (λB u=>?_)
 .simp only[vT,aX,Tryz.f28,zE,Hn];go_simp
 .intro e a;simp only[vT,aX,Tryz.f28,zE,Hn]at a;simp[go_sem]at a
 have J:=(m.step u).make (.cells #[.chan I] 125);obtain⟨gc,L⟩:∃gc,B.heap.size=gc:=⟨_,rfl⟩;have j:(B.alloc (.cells #[.chan I] 125)).heap[gc]?=Y (.cells #[.chan I] 125 (0,0)):=by rw[<- L];exact Sp _ _
 have b2:C<gc:=by rw[<- L];exact u.cX m.cX C (.inr rfl)
 have v:aH (λx=>p x\/x=C) w3 (B.alloc (.cells #[.chan I] 125)):=u.tn (gS (u.cX m.cX) _);rw[L]at J|-;generalize(B.alloc (.cells #[.chan I] 125))=w5 at J j v|-;have T:=S.set (d:=5) (.pointer (Y ⟨gc,0,I⟩)) zz;have q:ah f2 5 (.pointer (Y (gc,0))) 1=_:=nt e1;have h19:ah f2 5 (.pointer (Y (gc,0))) 19=_:=nt R;have K:ah f2 5 (.pointer (Y (gc,0))) 5=_:=au _ _ _;generalize ah f2 5 (.pointer (Y ⟨gc,0,I⟩))=f3 at T q h19 K|-;have Q:(fa 50 f3).eval (.tmp 5)=_:=ft K;have P:(fa 50 f3).eval (.tmp 19)=_:=ft h19;refine WalkE.xN ⟨gc,0,I⟩ (.chan (Y C)) (.inr rfl) (.inr rfl) rfl rfl rfl sb (λE c=>?_) (λE c=>?_) (λw6 y=>?_)
 .have t:=one_cell ((c.keep gc (.inr rfl)).tn j);have Z:E.frozen? (gc,0)=false:=by simp[H.frozen?,(c.keep gc (.inr rfl)).tn j]
  simp only[vT,aX,Tryz.f28,zE,Hn,Q,P];go_simp
 .intro e a;have t:=one_cell ((c.keep gc (.inr rfl)).tn j);have Z:E.frozen? (gc,0)=false:=by simp[H.frozen?,(c.keep gc (.inr rfl)).tn j]
  simp only[vT,aX,Tryz.f28,zE,Hn,Q,P]at a;simp[go_sem,t,Z]at a;subst a;exact⟨rfl,.inr rfl,λ_=>.inr rfl⟩
 have a8:=y.keep gc (.inr rfl);have g6:=(J.step y).set (g:=gc) (i:=0) (by have:=v.size;omega) U (.chan (Y C));have a9:(w6.setCell (gc,0) (.chan (Y C))).heap[gc]?=Y (.cells #[.chan (Y C)] 125 (0,0)):=one_setCell (a8.tn j);have a5:¬p gc:=λh=>by have:=o.cX gc h;have:=N.size;have:=k.size;omega
 have a':aH p w1 (w6.setCell (gc,0) (.chan (Y C))):=N.tn ((v.mono λx=>.inl).tn ((y.mono λx b1=>.inl (.inl b1)).tn (nB a5 _)));have a1:(w6.setCell (gc,0) (.chan (Y C))).heap[C]?=Y (.chan 0 #[] false 0 0 false):=(X.heap_setCell w6 _ _ C (by show C≠gc;omega)).tn ((y.keep C (.inl (.inr rfl))).tn ((v.keep C (.inr rfl)).tn W));refine WalkE.aT ?_;rw[Po];refine WalkE.seq (WalkE.reg (l:=[0]) rfl (WalkE.stop λw8 z=>⟨f3,g,gc,C,rfl,q,K,T,.inl (.inl s),(z.keep g (.inl (.inl s))).tn ((a'.keep g s).tn a7),.inr rfl,bu z (.inr rfl) (one_cell a9),.inl (.inr rfl),.inl (.inr rfl),(z.keep C (.inl (.inr rfl))).tn a1,a2,zz,zz,g6.step z⟩))
end
section
open Go.ConcN (upd upd_same upd_ne)
structure Cv(f:Nat->M)(g gc wg m k:Nat):Prop where
 f1:f 1=(g,0)
 f5:f 5=(gc,0)
 f6:f 6=(wg,0)
 f23:f 23=m
 f24:f 24=k
 kp:RG f
def Cv.set{f:Nat->M}{g gc wg m k:Nat}(h:Cv f g gc wg m k){d:Nat}(v:M)(a:d≠1/\d≠2/\d≠3/\d≠5/\d≠6/\d≠10/\d≠23/\d≠24/\d<42):Cv (ah f d v) g gc wg m k:=
 ⟨nt h.f1,nt h.f5,nt h.f6,nt h.f23,nt h.f24,h.kp.set v zz⟩
structure CW(V0:Nat->Prop)(w0:H)(b:aC)(l:pK)(g gc base pd:Nat)(J:Gh)(w:H):Prop where
 md:J.md=.clash
 df:J.df 0=0
 cD:J.cD 0
 bas:J.base=base
 pay:J.pay=rS base b l
 cz:J.cz=I
 pend:J.pend=pd
 ty:J.ty=135
 bkV:J.V 0 g
 bk:w.heap[g]?=Y (aE b 31)
 ch:w (gc,0)=Y (.chan (Y J.C))
 chV:J.V 0 gc
 cX:∀x,J.V 0 x->x<w.heap.size
 co:cy TA (J.V 0) w b l
 b0:∃e0,Base TA (J.V 0) w e0
 old:∀x,V0 x->J.V 0 x
 keep:aH V0 w0 w
section
variable{V0:Nat->Prop}{w0:H}{b:aC}{l:pK}{g gc base pd pd':Nat}{J σ':Gh}{w w':H}
def CW.kQ(h:CW V0 w0 b l g gc base pd J w)(d:Jk J σ')(i:σ'.df 0=0)(k:σ'.cD 0)(f:σ'.cz=I)(j:σ'.pend=pd')(a:∀x,J.V 0 x->σ'.V 0 x)(c:aH (J.V 0) w w')(e:∀x,σ'.V 0 x->x<w'.heap.size):CW V0 w0 b l g gc base pd' σ' w':=
 ⟨d.md.tn h.md,i,k,d.base.tn h.bas,d.pay.tn h.pay,f,j,d.ty.tn h.ty,a _ h.bkV,(c.keep _ h.bkV).tn h.bk,by rw[d.C];exact bu c h.chV h.ch,a _ h.chV,e,h.co.mono a c.keep,let⟨e0,x⟩:=h.b0;⟨e0,x.mono a c.keep⟩,λx m=>a x (h.old x m),h.keep.tn (c.mono h.old)⟩
def CW.walk(h:CW V0 w0 b l g gc base pd J w)(hk:Fs 0 J σ')(a:∀x,J.V 0 x->σ'.V 0 x)(d:aH (J.V 0) w w')(c:∀x,σ'.V 0 x->x<w'.heap.size):CW V0 w0 b l g gc base pd σ' w':=
 h.kQ hk.SQ (hk.df.tn h.df) (hk.cD.2 h.cD) ((hk.main rfl).2.2.2.tn h.cz) ((hk.main rfl).2.1.tn h.pend) a d c
end
theorem Pq(f:Nat->M){K:List Item}{cs:List Kf}(w:H):
  Lq F true (G ((bs .normal 28).at (fa 50 f) (.inRegion qE [0]::K)) cs) w=.go (G ((bs .normal 28).at (fa 50 (ah f 6 (.pointer (Y (w.heap.size,0))))) (.inRegion qE []::K)) cs) (w.alloc (eG 135 0 0)) #[]:=by
 have b:(Hn (fa 50 f).eval (qE.getD 0 default)).run F w=.ok (.value (.pointer (Y (w.heap.size,0)))) (w.alloc (eG 135 0 0)):=by
  simp only[qE,cK,aX,Tryz.f28,zQ,Hn];unfold eG;go_simp
 have a:(Hn (fa 50 f).eval (qE.getD 0 default)).events F w #[]= #[]:=by
  simp only[qE,cK,aX,Tryz.f28,zQ,Hn];simp[go_sem]
 rw[stepG_value (o:=qE.getD 0 default) rfl rfl sb b,listed_none a];rw[show(fa 50 f).put (qE.getD 0 default).dst (.pointer (Y ⟨w.heap.size,0,I⟩))=fa 50 (ah f 6 (.pointer (Y ⟨w.heap.size,0,I⟩)))from cw zz]
end
section
open Go.ConcN (upd upd_same upd_ne)
def Mn(base:Nat)(b:aC)(l:pK):∀i v w w',(∀b,sB v b->w'.heap[b]?=w.heap[b]?)->rS base b l i v w->rS base b l i v w':=λ_ _ _ _ hk h=>⟨h.1,h.2.keep hk⟩
theorem Zv:OneCell F 29:=λw ad v h=>⟨by go_simp,by simp[go_sem,h]⟩
theorem Hw{V O:Nat->Prop}{w:H}{cs:List Kf}{b:aC}{l:pK}{f:Nat->M}{g gc wg:Nat}(r:f 1=(g,0))(s:f 5=(gc,0))(t:f 6=(wg,0))(u:RG f)(L:∀x,V x->x<w.heap.size)(N:V g)(y:w.heap[g]?=Y (aE b 31))(z:b.W.n=l.W.length)(P:l.W.length<=4):
  WalkE F true (λV' K g' w'=>∃f',g'=G ((bs .normal 28).at (fa 50 f') (.code dB::.inLoop dB::.inBlock 0::[.code dH])) cs/\Cv f' g gc wg (2^l.W.length) 0/\V'=V/\K=O/\aH V w w'/\∀x,V' x->x<w'.heap.size)
   V O (G ((bs .normal 28).at (fa 50 f) [.inRegion qE [],.code cL]) cs) w:=by
 refine WalkE.aT ?_;rw[Pp];refine WalkE.seq (WalkE.seq (WalkE.reg (l:=[0,1,2,3,4]) rfl ?_));have k:(fa 50 f).eval (.tmp 1)=_:=ft r;refine WalkE.jh (d:=20) (.pointer (Y ⟨g,12,I⟩)) rfl rfl zz rfl sb (λc j=>?_) (λc j=>?_) ?_
 .simp only[yM,cL,cK,aX,Tryz.f28,zE,Hn,k];go_simp
 .intro e a;simp only[yM,cL,cK,aX,Tryz.f28,zE,Hn,k]at a;simp[go_sem]at a
 have v:w (g,12)=Y (.slice b.W.A b.W.n b.W.c):=uY y 12 _ rfl;refine WalkE.Rm (d:=21) ⟨g,12,I⟩ (.slice b.W.A b.W.n b.W.c) Zv rfl rfl (ft (au _ _ _)) N v rfl zz rfl sb ?_;have a21:(fa 50 (ah (ah f 20 (.pointer (Y (g,12)))) 21 (.slice b.W.A b.W.n b.W.c))).eval (.tmp 21)=_:=ft (au _ _ _);have m:ah (ah f 20 (.pointer (Y (g,12)))) 21 (.slice b.W.A b.W.n b.W.c) 1=_:=nt (nt r);have o:ah (ah f 20 (.pointer (Y (g,12)))) 21 (.slice b.W.A b.W.n b.W.c) 5=_:=nt (nt s);have p:ah (ah f 20 (.pointer (Y (g,12)))) 21 (.slice b.W.A b.W.n b.W.c) 6=_:=nt (nt t);have q:=(u.set (d:=20) (.pointer (Y ⟨g,12,I⟩)) zz).set (d:=21) (.slice b.W.A b.W.n b.W.c) zz;generalize ah (ah f 20 (.pointer (Y ⟨g,12,I⟩))) 21 (.slice b.W.A b.W.n b.W.c)=i at a21 m o p q|-;refine WalkE.jh (d:=22) (.int .i64 b.W.n) rfl rfl zz rfl sb (λc j=>?_) (λc j=>?_) ?_
 .simp only[yM,cL,cK,aX,Tryz.f28,zE,Hn,ab,zM,a21];go_simp
 .intro e a;simp only[yM,cL,cK,aX,Tryz.f28,zE,Hn,ab,zM,a21]at a;simp[go_sem]at a
 have h:(fa 50 (ah i 22 (.int .i64 b.W.n))).eval (.tmp 22)=_:=ft (au _ _ _);have B:ah i 22 (.int .i64 b.W.n) 1=_:=nt m;have C:ah i 22 (.int .i64 b.W.n) 5=_:=nt o;have E:ah i 22 (.int .i64 b.W.n) 6=_:=nt p;have J:=q.set (d:=22) (.int .i64 b.W.n) zz;generalize ah i 22 (.int .i64 b.W.n)=f2 at h B C E J|-;rw[z]at h;generalize l.W.length=n at P h|-;clear z v y a21 m o p q r s t u k;refine WalkE.jh (d:=23) (.int .i64 ((2^n:Nat):Int)) rfl rfl zz rfl sb (λc j=>?_) (λc j=>?_) ?_
 .simp only[yM,cL,cK,aX,Tryz.f28,zE,Hn,h];have:n=0\/n=1\/n=2\/n=3\/n=4:=zz;rcases this with rfl|rfl|rfl|rfl|rfl<;>rfl
 .intro e a;exfalso;simp only[yM,cL,cK,aX,Tryz.f28,zE,Hn,h]at a;have:n=0\/n=1\/n=2\/n=3\/n=4:=zz;rcases this with rfl|rfl|rfl|rfl|rfl<;>(simp[go_sem]at a)
 refine WalkE.gR (d:=24) (.int .i64 0) rfl (.inl rfl) rfl rfl zz rfl sb ?_;refine WalkE.aT (WalkE.block (WalkE.loop ?_));refine WalkE.stop λc A=>⟨_,rfl,?_,rfl,rfl,A,A.cX L⟩;exact⟨nt (nt B),nt (nt C),nt (nt E),nt (au _ _ _),au _ _ _,(J.set _ zz).set _ zz⟩
end
section
open Go.ConcN (upd upd_same upd_ne)
def Xd(c:ay b l=0):l.W.length<=4:=by
 have a:=(bP c).2.2.2.2;unfold ki at a;split at a
 .cases a
 .omega
def EE{post:M->H->Prop}{J:Gh}{w:H}{cs:List Kf}(i:Main J w)(r:cy TA (J.V 0) w b l)(Q:ay b l=0)(b7:lK b l b.D.toNat=false)
  (next:∀f σ' w' g gc base,Cv f g gc σ'.Wg (2^l.W.length) 0->CW (J.V 0) w b l g gc base 0 σ' w'->σ'.num=base->σ'.got=[]->aQ fI F post (G ((bs .normal 28).at (fa 50 f) (.code dB::.inLoop dB::.inBlock 0::[.code dH])) cs) σ' w'):
  aQ fI F post (G (Kf.enter F 28 #[b.v] .normal) cs) J w:=by
 obtain⟨e0,hB⟩:=i.b0;refine aQ.walk (Hv hB i.idle.cX r i.checks Q b7) (O:=J.O 0) (λ_=>il) (λ_=>il) (λV' V g' bj σ1 b9 a6 a4 hk=>?_);obtain⟨f,g,gc,C,rfl,Z,f5,a3,L,a8,N,a9,K,a5,a',c3,b4,b3,s⟩:=b9;have e1:V'=σ1.V 0:=funext λx=>propext (a6 x).symm;have W:V=σ1.O 0:=funext λx=>propext (a4 x).symm;subst e1 W;refine aQ.stepT (λσ2 d j o=>?_);have k:∀x,σ1.V 0 x->σ2.V 0 x:=λx=>(j.V x).2;obtain⟨wg,z⟩:∃wg,d.heap.size=wg:=⟨_,rfl⟩;have R:∀x,(d.heap.size<=x/\x<(d.alloc (eG 135 0 0)).heap.size)↔x=wg:=λx=>by rw[aa];omega
 refine⟨_,_,d.alloc (eG 135 0 0), #[],(λx=>σ2.V 0 x\/x=wg),(λx=>σ2.O 0 x\/x=wg),Pq f d,⟨rfl,rfl,rfl,by simp,λx e _=>QR d _ e,λx=>by rw[R],λx=>by rw[R],by simp⟩,λt B=>?_⟩;have T:σ2.md=.idle:=(hk.tn j.kin).md.tn i.idle.md;have a2:σ2.O 0 C:=(j.O C).2 a5;have c2:C<wg:=by rw[<- z];exact o C (k C K)
 have P:=B.WM (b:=C) (g:=wg) (tm:=false) (ty:=135) T (by rw[qA];exact .inl a2) (by rw[qA];exact .inr rfl) zz ((QR d _ zz).tn ((j.w.keep C K).tn a')) (by rw[<- z];exact Sp _ _) (rS σ2.num b l) (Mn _ _ _);refine⟨_,P.1,P.2,?_⟩;obtain⟨-, -, a0,b5,-⟩:=B.p.qz T;have b1:σ2.cz=I:=a0;have b6:σ2.pend=0:=b5;have m:∀x,(iT (grow σ2 0 (λx=>σ2.V 0 x\/x=wg) (λx=>σ2.O 0 x\/x=wg)) C wg 135 (rS σ2.num b l)).V 0 x↔σ2.V 0 x/\x≠C:=λx=>by
  simp only[iT,Co.begun,Sx,sY];constructor
  .rintro⟨⟨h|h,q⟩,a1⟩
   .exact⟨h,q⟩
   .exact mi h a1
  .rintro⟨h,q⟩;exact⟨⟨.inl h,q⟩,by have:=o x h;omega⟩
 have A:aH (σ2.V 0) d (d.alloc (eG 135 0 0)):=gS o _;have v:aH (σ1.V 0) bj (d.alloc (eG 135 0 0)):=j.w.tn (A.mono k);have S:=hk.tn j.kin;obtain⟨a,c⟩:∃a,iT (grow σ2 0 (λx=>σ2.V 0 x\/x=wg) (λx=>σ2.O 0 x\/x=wg)) C wg 135 (rS σ2.num b l)=a:=⟨_,rfl⟩;have q1:a.md=.clash:=by rw[<- c];rfl
 have q2:a.df 0=0:=by rw[<- c];exact S.df.tn i.idle.df
 have q3:a.cD 0:=by rw[<- c];exact S.cD.2 i.idle.cD
 have q4:a.base=σ2.num:=by rw[<- c];rfl
 have q5:a.pay=rS σ2.num b l:=by rw[<- c];rfl
 have q6:a.cz=I:=by rw[<- c];exact b1
 have q7:a.C=C:=by rw[<- c];rfl
 have q8:a.num=σ2.num:=by rw[<- c];rfl
 have q9:a.got=[]:=by rw[<- c];rfl
 have b':a.Wg=wg:=by rw[<- c];rfl
 have b0:a.ty=135:=by rw[<- c];rfl
 have c1:a.pend=0:=by rw[<- c];exact b6
 rw[c]at m|-;rw[z];have u:∀x,J.V 0 x->a.V 0 x:=λx e=>(m x).2 ⟨k x (s.vv x e),by have:=i.idle.cX x e;omega⟩;have y:aH (J.V 0) w (d.alloc (eG 135 0 0)):=s.rely.tn (v.mono s.vv);have n:CW (J.V 0) w b l g gc σ2.num 0 a (d.alloc (eG 135 0 0)):=
  ⟨q1,q2,q3,q4,q5,q6,c1,b0,(m g).2 ⟨k g L,b3⟩,(v.keep g L).tn a8,by rw[q7];exact bu v N a9,(m gc).2 ⟨k gc N,b4⟩,λx e=>A.cX o x ((m x).1 e).1,r.mono u y.keep,⟨e0,hB.mono u y.keep⟩,u,y⟩
 refine aQ.walk (Hw (b:=b) (l:=l) (g:=g) (gc:=gc) (wg:=wg) (nt Z) (nt f5) (au _ _ _) (a3.set _ zz) n.cX n.bkV n.bk r.at_.W.1 (Xd Q)) (O:=a.O 0) (λ_=>il) (λ_=>il) (λV4 O4 g4 w4 U b8 E c4 p=>?_);obtain⟨f',rfl,b2,h6, -, h7,h8⟩:=b8;subst h6;have a7:∀x,a.V 0 x->U.V 0 x:=λx e=>(E x).2 e;refine next f' U w4 g gc σ2.num ?_ (n.walk p a7 h7 λx e=>h8 x ((E x).1 e)) ((p.main rfl).1.tn q8) ((p.main rfl).2.2.1.tn q9);rw[p.Wg,b'];exact b2
end
open Go.Conc.Lib Go.ConcR.Gen
variable{tm:Array M}{J:Gh}
def Xe(tm:Array M):Kf:= { (bs .deferred 68).at ⟨tm,[]⟩ []with mode:=.returning}
def U9(wg:Nat)(tm:Array M):QP:=G ((baseD link.done).at ⟨#[.pointer (Y (wg,0)),D,D,D],[]⟩ [.code (body_done link)]) [Xe tm,fP]
def Zx(wg:Nat)(tm:Array M)(w:H):Lq F false (G { (bs .deferred 68).at ⟨tm,[dw wg]⟩ []with mode:=.returning} [fP]) w=.go (U9 wg tm) w #[]:=by
 have h:=stepG_unwind_enter (P:=F) (main:=false) (b:=bs .deferred 68) (a:=⟨tm,[dw wg]⟩) (w:=w) (todo:=[]) (ds:=[]) (f:=69) (args:= #[.pointer (Y ⟨wg,0,I⟩)]) (cs:=[fP]) (fn:=Tryz.f69) (c:=body_done link) rfl Tryz.func69 kr kr;rw[h];rfl
def Mo{V O:Nat->Prop}{wg:Nat}:WalkE F false (λV' a g' w'=>g'=U9 wg tm/\V'=V/\a=O) V O (G { (bs .deferred 68).at ⟨tm,[dw wg]⟩ []with mode:=.returning} [fP]) w:=
 WalkE.ctl (λw=>Zx wg tm w) (WalkE.stop λ_ _=>⟨rfl,rfl,rfl⟩)
def EF(hi:0<i)(f:J.st i=.run)(j:J.df i=0)(l:J.md=.clash)(r:J.ty=135)(q:J.snt i):bZ fI F i (G { (bs .deferred 68).at ⟨tm,[dw J.Wg]⟩ []with mode:=.returning} [fP]) J w:=by
 refine bZ.walk hi Mo (O:=J.O i) (λ_=>il) (λ_=>il) (.inl f) (λV' s g' w' σ' p u t hk=>?_);obtain⟨rfl, -,-⟩:=p;have a:σ'.st i=.run:=hk.st.tn f;have o:QE F 0 (G (Xe tm) [fP]):=⟨2,QuitsD.ctl rfl (λw=>uS rfl rfl Tryz.func68 rfl w) yB⟩;have d:=Zw (P:=F) (post:=λ_ _=>True) (i:=i) (L:=link) (σ0:=σ') (w0:=w') Pr hi (hk.md.tn l) (hk.ty.tn r) (hk.snt.2 q) (pt:= {st:=.run,kn:=σ'.kn i,df:=0,pend:=0}) rfl rfl (c:=Xe tm) (cs:=[fP]) rfl o;rw[hk.Wg]at d;exact sZ.work hi (d σ' w' ⟨Ctx.refl i σ' w',a,rfl,hk.df.tn j,λe=>zz,λg k=>(by cases k),λb h=>(by cases h),λn m=>(by cases m),.inr ⟨zz,by rw[a];simp,λv=>by rw[a];simp⟩⟩)
def Hy(hi:0<i){e0:Lk}{b:aC}{l:pK}{g gb gc:Nat}(T:J.st i=.run)(K:J.df i=0)(u:J.md=.clash)(U:J.ty=135)(R:J.pay=rS J.base b l)(b7:¬J.snt i)
  (hB:Base TA (J.V i) w e0)(a':∀x,J.V i x->x<w.heap.size)(a5:cy TA (J.V i) w b l)(b1:ay b l=0)(a7:i-J.base<16)
  (a8:bV TA (J.V i) w g 13)(a9:∀i x,(wE b)[i]?=Y x->w.cell? ⟨g,i,I⟩=Y x)(b5:bV TA (J.V i) w gb 1)(a6:w.cell? ⟨gb,0,I⟩=Y (.int .i64 ((i-J.base:Nat):Int)))(b6:J.V i gc)(b2:w.cell? ⟨gc,0,I⟩=Y (.chan (Y J.C))):
  bZ fI F i (G (yJ J.Wg g gb gc) []) J w:=by
 refine bZ.walk hi (Ex (wg:=J.Wg) hB a' a5 b1 a7 a8 a9 b5 a6 b6 b2) (O:=J.O i) (λ_=>il) (λ_=>il) (.inl T) (λV' W g' w' σ' c2 a2 c9 hk=>?_);have s:σ'.st i=.run:=hk.st.tn T;have d2:σ'.Wg=J.Wg:=hk.Wg;obtain⟨d3,⟨b8,tm,rfl⟩|⟨c4,f,v,rfl,Z,h5,c1,b9⟩⟩:=c2
 .refine bZ.stepT hi (.inl s) (λσ1 bj e a0=>⟨_,_,bj, #[],σ1.V i,σ1.O i,stepG_end,jV bj,λt m=>?_⟩);rw[nT]at m|-;have c:=hk.tn e.kin;have p:σ1.st i=.run:=e.kin.st.tn s;have L:=m.free (i:=i) p (λv w Q=>by
   rw[c.pay,R]at Q;have:=Q.1;rw[b8]at this;cases this)
  refine⟨freed σ1 i,L.1,L.2,by show¬σ1.st i=.quit;rw[p];simp,?_⟩;have a3:(freed σ1 i).Wg=J.Wg:=c.Wg;rw[<- a3];exact EF hi p (c.df.tn K) (c.md.tn u) (c.ty.tn U) (by show Go.ConcN.upd σ1.snt i True i;rw[Go.ConcN.upd_same];trivial)
 .refine bZ.stepT hi (.inl s) (λσ1 bj e a0=>?_);have p:σ1.st i=.run:=e.kin.st.tn s;have c:=hk.tn e.kin;have B:(⟨(Array.range 43).map f,[dw J.Wg]⟩:Act).eval (.tmp 5)=v:=(show(fa 43 f).eval (.tmp 5)=_ from fe zz).tn h5;have hex:∀w:H,(Hn (⟨(Array.range 43).map f,[dw J.Wg]⟩:Act).eval (jw.getD 1 default)).run F w=.ok (.value v) w:=λw=>by
   simp only[jw,iN,bF,Tryz.f68,zQ,Hn,B];rfl
  have b4:∀w:H,(Hn (⟨(Array.range 43).map f,[dw J.Wg]⟩:Act).eval (jw.getD 1 default)).events F w #[]= #[]:=λw=>by
   simp only[jw,iN,bF,Tryz.f68,zQ,Hn,B];simp
  have y:=stepG_value (P:=F) (main:=false) (b:=bs .deferred 68) (a:=⟨(Array.range 43).map f,[dw J.Wg]⟩) (k:=[]) (cs:=[fP]) (w:=bj) (ops:=jw) (i:=1) (rest:=[2]) (o:=jw.getD 1 default) (v:=v) (w':=bj) rfl wnn sb (hex bj);rw[listed_none (b4 bj)]at y;have b':(⟨(Array.range 43).map f,[dw J.Wg]⟩:Act).put (jw.getD 1 default).dst v=⟨(Array.range 43).map (ah f 42 v),[dw J.Wg]⟩:=
   cd (λt=>(⟨t,[dw J.Wg]⟩:Act)) (cd Act.tmps (cw (n:=43) (d:=42) (f:=f) (v:=v) zz))
  rw[b']at y;refine⟨_,_,bj, #[],σ1.V i,σ1.O i,y,jV bj,λt m=>?_⟩;rw[nT]at m|-;have S:∀x,sB v x->σ'.V i x:=λx q=>(a2 x).2 (b9 x q);have N:=m.offer (i:=i) (v:=v) zz p (c.df.tn K) (λx q=>(e.V x).2 (S x q)) (by rw[c.pay,R];exact⟨c4,c1.keep λx q=>e.w.keep x (S x q)⟩) (λ_ h=>b7 (c.snt.1 h));refine⟨_,N.1,N.2,by rw[yS];simp,?_⟩;have C:(⟨(Array.range 43).map (ah f 42 v),[dw J.Wg]⟩:Act).eval (.tmp 41)=.chan (Y J.C):=(show(fa 43 (ah f 42 v)).eval (.tmp 41)=_ from fe zz).tn (nt Z);have E:(⟨(Array.range 43).map (ah f 42 v),[dw J.Wg]⟩:Act).eval (.tmp 42)=v:=(show(fa 43 (ah f 42 v)).eval (.tmp 42)=_ from fe zz).tn (au _ _ _);have a1:(offers σ1 i v).C=J.C:=c.C;have a4:(offers σ1 i v).Wg=J.Wg:=c.Wg;refine bZ.Zf hi (J:=offers σ1 i v) (v:=v) (z:=.tuple #[]) (da:=(bs .deferred 68).at ⟨(Array.range 43).map (ah f 42 v),[dw J.Wg]⟩ [.inRegion jw []]) (dp:=[fP]) (c.md.tn u) (yS i v) (λr _=>?_) ?_ (λσ2 r V q2 q3 q4 q5 A q7=>?_)
  .have b0:(Hn (⟨(Array.range 43).map (ah f 42 v),[dw J.Wg]⟩:Act).eval (jw.getD 2 default)).run F r=.ok (.comm #[scase J.C v (.tuple #[])] true .send) r:=by
    simp only[jw,iN,bF,Tryz.f68,zQ,Hn,C,E];rfl
   have b3:(Hn (⟨(Array.range 43).map (ah f 42 v),[dw J.Wg]⟩:Act).eval (jw.getD 2 default)).events F r #[]= #[]:=by
    simp only[jw,iN,bF,Tryz.f68,zQ,Hn,C,E];rfl
   rw[stepG_comm (o:=jw.getD 2 default) rfl rfl sb b0,listed_none b3,a1]
  .exact nV _
  .refine bZ.walk hi (Stop:=λV' W g' w'=>g'=G { (bs .deferred 68).at ⟨(Array.range 43).map (ah f 42 v),[dw J.Wg]⟩ []with mode:=.returning} [fP]) (WalkE.aT (WalkE.ctl (λ_=>stepG_end) (WalkE.stop λ_ _=>rfl))) (O:=σ2.O i) (λ_=>il) (λ_=>il) (.inl V) (λc7 c6 c8 d4 c5 c3 d1 c' j=>?_);subst c3;rw[show J.Wg=c5.Wg from(j.Wg.tn (A.Wg.tn a4)).symm];exact EF hi (j.st.tn V) (j.df.tn q2) (j.md.tn (A.md.tn (c.md.tn u))) (j.ty.tn (A.ty.tn (c.ty.tn U))) (j.snt.2 q7)
variable{gc:Nat}
def tu:Ly:=match Tryz.f70.body with|some c=>c|_=>.skip
def uZ(wg gc:Nat):Array M:= #[.pointer (Y (wg,0)),.pointer (Y (gc,0))]
def call72(wg gc:Nat):Deferred:= {target:=.fn (.func 70) (uZ wg gc),args:= #[]}
def yO(wg gc:Nat):Kf:= { (default:Kf)with fn:=F.funcs.size,defers:=[call72 wg gc],mode:=.panicking [goexitEntry]}
def BY(wg gc:Nat):Nat->M:=λi=>(uZ wg gc).getD i D
def EG(wg gc:Nat)(w:H):Lq F false (G (yO wg gc) []) w=.go (G ((bs .deferred 70).at (fa 4 (BY wg gc)) [.code tu]) [fP]) w #[]:=by
 have e:=iu (A:=uZ wg gc) (k:=2) (n:=4) rfl;simp[yO,call72,Lq,unwind,callDeferred,invoke,callFunc,Tryz.func70,Tryz.f70,seen,GStep.after,G,Kf.enter,Kf.at,fP,tu,bs,fa,BY];exact e
def Ab:Array Kp:=match tu with|.seq (.region _ ops _) _=>ops|_=> #[]
def EH:Array Kp:=match tu with|.seq _ (.region _ ops _)=>ops|_=> #[]
def Mq:tu=.seq (.region 0 Ab false) (.region 1 EH false):=rfl
def Zz(wg gc:Nat):QP:=G ((base link.wait).at ⟨#[.pointer (Y (wg,0))]++Array.replicate 83 D,[]⟩ [.code (body_wait link)]) [(bs .deferred 70).at (fa 4 (BY wg gc)) [.inRegion Ab [0],.code (.region 1 EH false)],fP]
def S8(v:M):Kf.enter F 71 #[v] .normal=(base link.wait).at ⟨#[v]++Array.replicate 83 D,[]⟩ [.code (body_wait link)]:=by
 rw[enter_at (c:=body_wait link) #[v] Tryz.func71 kr];rfl
def Mr{wg gc:Nat}:WalkE F false (λV' a g' w'=>g'=Zz wg gc/\V'=V/\a=O/\aH V w w') V O (G (yO wg gc) []) w:=by
 refine WalkE.ctl (λw=>EG wg gc w) ?_;rw[Mq];refine WalkE.seq (WalkE.reg (l:=[0]) rfl ?_);have a0:(fa 4 (BY wg gc)).eval (.tmp 0)=.pointer (Y (wg,0)):=fe zz;refine WalkE.enter (f:=71) (args:= #[.pointer (Y ⟨wg,0,I⟩)]) (o:=Ab.getD 0 default) rfl wnn sb (λbj=>?_) (λbj=>?_) ?_
 .simp only[Ab,tu,Tryz.f70,zQ,Hn,ab,zM,a0];rfl
 .simp only[Ab,tu,Tryz.f70,zQ,Hn,ab,zM,a0];rfl
 .rw[S8];exact WalkE.stop λ_ b=>⟨rfl,rfl,rfl,b⟩
def Hz{f:Nat->M}{gc C:Nat}(a:f 1=(gc,0))(c:V gc)(b:w (gc,0)=Y (.chan (Y C))):
  WalkE F false (λV' e g' w'=>∃f',f' 3=.chan (Y C)/\g'=G ((bs .deferred 70).at (fa 4 f') [.inRegion EH [1]]) [fP]) V O (G ((bs .deferred 70).at (fa 4 f) [.inRegion Ab [],.code (.region 1 EH false)]) [fP]) w:=by
 refine WalkE.aT (WalkE.reg (l:=[0,1]) rfl ?_);refine WalkE.Rm (d:=3) ⟨gc,0,I⟩ (.chan (Y C)) BR rfl rfl (ft a) c b rfl zz rfl sb ?_;exact WalkE.stop λ_ _=>⟨_,au _ _ _,rfl⟩
def Us{i:Nat}(hi:0<i){J:Gh}(c:J.st i=.wait)(R:J.kn i=.no)(K:J.df i=0)(Z:J.cD i)(d:J.cz=Y i)(a1:¬fV J.gw)(S:J.md=.clash)(a2:J.ty=135)
  (j:J.V i gc)(B:w (gc,0)=Y (.chan (Y J.C))):bZ fI F i (G (yO J.Wg gc) []) J w:=by
 refine bZ.walk hi (Mr (wg:=J.Wg) (gc:=gc)) (O:=J.O i) (λ_=>il) (λ_=>il) (.inr (.inl c)) (λV' O' g' w' σ' V y a4 hk=>?_);obtain⟨rfl,e1, -, U⟩:=V;have k:∀x,σ'.V i x↔J.V i x:=λx=>(y x).tn (by rw[e1]);have r:σ'.C=J.C:=hk.C;have l:σ'.md=.clash:=hk.md.tn S;have E:w' (gc,0)=Y (.chan (Y σ'.C)):=by rw[r];exact bu U j B
 have u:SW F (λ_ _=>True) i (gO i σ' w' {st:=.done,kn:=.no,df:=0,pend:=0}) (G ((bs .deferred 70).at ((fa 4 (BY J.Wg gc)).put ((Ab[0]?).bind (·.dst)) (.tuple #[])) (.inRegion Ab []::[.code (.region 1 EH false)])) [fP]):=by
  intro σ2 a3 h2;rw[show(fa 4 (BY J.Wg gc)).put ((Ab[0]?).bind (·.dst)) (.tuple #[])=fa 4 (ah (BY J.Wg gc) 2 (.tuple #[]))from cw zz];refine .inr ⟨hi,?_⟩;refine bZ.walk hi (Hz (gc:=gc) (C:=σ'.C) (f:=ah (BY J.Wg gc) 2 (.tuple #[])) rfl (h2.c.V gc |>.2 ((k gc).2 j)) (bu h2.c.w ((k gc).2 j) E)) (O:=σ2.O i) (λ_=>il) (λ_=>il) (.inr (.inr h2.st)) (λV3 O3 g3 w3 p W a6 a5 a=>?_);obtain⟨f3,N,rfl⟩:=W;have t:p.C=σ'.C:=a.C.tn h2.c.C;have q:(fa 4 f3).eval (.tmp 3)=.chan (Y p.C):=ft (by rw[N,t]);refine bZ.close hi (a.md.tn (h2.c.md.tn l)) (a.st.tn h2.st) (a.df.tn h2.df) kr (λbj _ s tm A=>?_) (da:=(bs .deferred 70).at (fa 4 f3) [.inRegion EH []]) (dp:=[fP]) ?_
  .exact stepG_close (x:=.tmp 3) (o:=EH.getD 1 default) (ats:= #[125]) rfl wnn sb rfl q A kr
  .exact⟨4,QuitsD.ctl rfl (λw=>stepG_region_end) (QuitsD.ctl rfl (λw=>stepG_end) (QuitsD.ctl rfl (λw=>uS rfl rfl Tryz.func70 rfl w) yB))⟩
 have m:=Zy (P:=F) (post:=λ_ _=>True) (i:=i) (L:=link) (σ0:=σ') (w0:=w') Pr hi l (hk.ty.tn a2) (hk.free d).1 (hk.cD.2 Z) (b0:=bs .deferred 70) (a0:=fa 4 (BY J.Wg gc)) (fj:=Ab) (i0:=0) (fh:=[]) (k0:=[.code (.region 1 EH false)]) (cs:=[fP]) u;rw[show σ'.Wg=J.Wg from hk.Wg]at m;refine sZ.work hi (m σ' w' ⟨Ctx.refl i σ' w',hk.st.tn c,hk.kn.tn R,hk.df.tn K,λe=>zz,λg Q=>(by cases Q),λb z=>?_,λn T=>(by cases T),.inr ⟨zz,by rw[hk.st,c];simp,λv=>by rw[hk.st,c];simp⟩⟩);obtain rfl:false=b:=km z;exact⟨(hk.free d).1,(hk.free d).2.2.1.tn ⟨λh=>mi h a1,λh=>by cases h⟩⟩
def CW.YP{V0:Nat->Prop}{w0:H}{b:aC}{l:pK}{g gc base pd:Nat}{σ0 J:Gh}{w1 w:H}{pt:Pt}(h:CW V0 w0 b l g gc base pd σ0 w1)(hi:gO 0 σ0 w1 pt J w)(d:pt.df=0):CW V0 w0 b l g gc base pt.pend J w:=by
 have a:∀x,σ0.V 0 x->J.V 0 x:=λx c=>(hi.c.V x).2 c;exact⟨hi.c.md.tn h.md,hi.df.tn d,hi.c.cD.2 h.cD,hi.c.base.tn h.bas,hi.c.pay.tn h.pay,(hi.c.main rfl).2.2.tn h.cz,hi.pend rfl,hi.c.ty.tn h.ty,a _ h.bkV,(hi.c.w.keep _ h.bkV).tn h.bk,by rw[hi.c.C];exact bu hi.c.w h.chV h.ch,a _ h.chV,λx c=>hi.c.w.cX h.cX x ((hi.c.V x).1 c),h.co.mono a hi.c.w.keep,let⟨e0,x⟩:=h.b0;⟨e0,x.mono a hi.c.w.keep⟩,λx c=>a x (h.old x c),h.keep.tn (hi.c.w.mono h.old)⟩
theorem Px{V O:Nat->Prop}{w:H}{cs:List Kf}{K:List Item}{f:Nat->M}{g gc wg m k:Nat}(r:Cv f g gc wg m k)(hk:k<m)(a2:m<=1000)(J:∀x,V x->x<w.heap.size):
  WalkE F true (λV' Z g' w'=>∃f' a,g'=G ((bs .normal 28).at (fa 50 f') (.inRegion iV [0]::.code (.region 12 iD false)::.inBlock 1::.code (.region 13 o8 false)::.inLoop dB::K)) cs/\Cv f' g gc wg m k/\f' 7=.pointer (Y (a,0))/\
   bV TA V' w' a 1/\w' (a,0)=Y (.int .i64 k)/\(∀x,V x->V' x)/\aH V w w'/\∀x,V' x->x<w'.heap.size)
   V O (G ((bs .normal 28).at (fa 50 f) (.code dB::.inLoop dB::K)) cs) w:=by
 rw[show(Item.code dB)=.code (.seq (.region 9 yN false) (.seq (.cond (.tmp 25) .skip (.exit 0)) (.seq (.block 1 (.seq (.region 10 Uy false) (.seq (.region 11 iV false) (.region 12 iD false)))) (.region 13 o8 false))))from cd _ ED];refine WalkE.seq (WalkE.reg (l:=[0]) rfl ?_);have B:(fa 50 f).eval (.tmp 24)=_:=ft r.f24;have A:(fa 50 f).eval (.tmp 23)=_:=ft r.f23;refine WalkE.jh (d:=25) (.bool true) rfl rfl zz rfl sb (λbj b=>?_) (λbj b=>?_) ?_
 .simp only[yN,dB,cL,cK,aX,Tryz.f28,zE,Hn,B,A];go_simp
 .intro e c;simp only[yN,dB,cL,cK,aX,Tryz.f28,zE,Hn,B,A]at c;simp[go_sem]at c
 refine WalkE.aT (WalkE.seq (WalkE.cond (t:=true) (ft (au _ _ _)) (WalkE.skip (WalkE.seq (WalkE.block (WalkE.seq (WalkE.reg (l:=[0,1,2]) rfl ?_)))))));have P:=r.set (d:=25) (.bool true) zz;refine WalkE.gR (d:=26) (.int .i64 k) rfl (.inl rfl) (ft P.f24) rfl zz rfl sb ?_;have W:=P.set (d:=26) (.int .i64 k) zz;refine WalkE.oa (d:=7) (.cells #[.int .i64 0] 3) (λn=>.pointer (Y ⟨n,0,I⟩)) rfl rfl zz rfl sb (λbj b=>?_) (λbj b=>?_) (λbj u=>?_)
 .simp only[Uy,dB,cL,cK,aX,Tryz.f28,zE,Hn];go_simp
 .intro e c;simp only[Uy,dB,cL,cK,aX,Tryz.f28,zE,Hn]at c;simp[go_sem]at c
 have Q:=W.set (d:=7) (.pointer (Y ⟨bj.heap.size,0,I⟩)) zz;obtain⟨a,s⟩:∃a,bj.heap.size=a:=⟨_,rfl⟩;rw[s]at Q|-;have U:(bj.alloc (.cells #[.int .i64 0] 3)).heap[a]?=Y (.cells #[.int .i64 0] 3 (0,0)):=by rw[<- s];exact Sp _ _
 have E:(fa 50 (ah (ah (ah f 25 (.bool true)) 26 (.int .i64 k)) 7 (.pointer (Y (a,0))))).eval (.tmp 7)=.pointer (Y (a,0)):=ft (au _ _ _);have C:(fa 50 (ah (ah (ah f 25 (.bool true)) 26 (.int .i64 k)) 7 (.pointer (Y (a,0))))).eval (.tmp 26)=.int .i64 k:=ft (nt (au _ _ _));have o:∀{z:H},aH (λx=>V x\/x=a) ((bj.alloc (.cells #[.int .i64 0] 3))) z->z.heap[a]?=Y (.cells #[.int .i64 0] 3 (0,0)):=λb=>(b.keep a (.inr rfl)).tn U;refine WalkE.xN ⟨a,0,I⟩ (.int .i64 k) (.inr rfl) (.inr rfl) rfl rfl rfl sb (λi b=>?_) (λi b=>?_) (λi y=>?_)
 .have L:=one_cell (o b);have S:i.frozen? (a,0)=false:=by simp[H.frozen?,o b]
  simp only[Uy,dB,cL,cK,aX,Tryz.f28,zE,Hn,E,C];go_simp
 .intro e c;have L:=one_cell (o b);have S:i.frozen? (a,0)=false:=by simp[H.frozen?,o b]
  simp only[Uy,dB,cL,cK,aX,Tryz.f28,zE,Hn,E,C]at c;simp[go_sem,L,S]at c;subst c;exact⟨rfl,.inr rfl,λ_=>.inr rfl⟩
 refine WalkE.aT (WalkE.seq (WalkE.reg (l:=[0]) rfl ?_));have N:(i.setCell (a,0) (.int .i64 k)).heap[a]?=Y (.cells #[.int .i64 k] 3 (0,0)):=one_setCell (o y);refine WalkE.stop λz q=>⟨_,a,rfl,Q,au _ _ _,?_,?_,λx h=>.inl h,?_,?_⟩
 .refine⟨.inr rfl, #[.int .i64 k],3,(0,0),(q.keep a (.inr rfl)).tn N,qN _,λj v a1 R=>?_⟩;obtain rfl:j=0:=zz;simp at R;subst R;exact .inl (cR _ _)
 .exact one_cell ((q.keep a (.inr rfl)).tn N)
 .have p:=u.cX J;exact((u.tn (gS p _)).tn ((y.mono λx=>.inl).tn (nB (λh=>dj _ (by have:=p a h;rw[s]at this;exact this)) _))).tn (q.mono λx=>.inl)
 .have p:=u.cX J;have T:∀x,V x\/x=a->x<(bj.alloc (.cells #[.int .i64 0] 3)).heap.size:=λx h=>by
   rw[aa];rcases h with h|rfl
   .have:=p x h;omega
   .omega
  exact q.cX λx h=>by
   have:=y.cX T x h;simpa[H.setCell]using this
variable{wg gh m k:Nat}{K:List Item}
def Ms(J:Gh)(w:H):yu 0 J w J:=⟨rfl,λj _=>⟨λ_ h=>h,λ_=>.refl _ _ _⟩,⟨λ_ _ h=>.inl h,.inl,λ_ _=>il⟩⟩
def CW.XE{V0:Nat->Prop}{w0:H}{b:aC}{l:pK}{g gc base pd:Nat}{J σ':Gh}{w w':H}(h:CW V0 w0 b l g gc base pd J w)(a:gL 0 J w σ' w'):CW V0 w0 b l g gc base pd σ' w':=
 h.walk a.kin (λx c=>(a.V x).2 c) a.w λx c=>a.w.cX h.cX x ((a.V x).1 c)
def S9(v:M):Kf.enter F 67 #[v,.int .i64 1] .normal=(base link.add).at ⟨#[v,.int .i64 1]++Array.replicate 115 D,[]⟩ [.code (body_add link)]:=by
 rw[enter_at (c:=body_add link) #[v,.int .i64 1] Tryz.func67 kr];rfl
def Ta{post:M->H->Prop}(l:f 6=(J.Wg,0))(y:J.md=.clash)(E:J.ty=135)(r:J.df 0=0)(C:J.cD 0)(q:J.cz=I)(A:J.pend=0)(x:J.num<J.base+1999999990)
  (next:∀σ0 w0 kn σ' w',gL 0 J w σ0 w0->gO 0 σ0 w0 {st:=.quit,kn:=kn,df:=0,pend:=1} σ' w'->aQ fI F post (G ((bs .normal 28).at (fa 50 (ah f 27 (.tuple #[]))) (.inRegion iV []::K)) cs) σ' w'):
  aQ fI F post (G ((bs .normal 28).at (fa 50 f) (.inRegion iV [0]::K)) cs) J w:=by
 have d:(fa 50 f).eval (.tmp 6)=_:=ft l;refine aQ.stepT (λσ1 bj j Q=>?_);have B:(Hn (fa 50 f).eval (iV.getD 0 default)).run F bj=.ok (.enter 67 #[.pointer (Y (J.Wg,0)),.int .i64 1]) bj:=by
  simp only[iV,dB,cL,cK,aX,Tryz.f28,zQ,Hn,ab,zM,d];rfl
 have s:(Hn (fa 50 f).eval (iV.getD 0 default)).events F bj #[]= #[]:=by
  simp only[iV,dB,cL,cK,aX,Tryz.f28,zQ,Hn,ab,zM,d];rfl
 have h:=stepG_enter (P:=F) (main:=true) (b:=bs .normal 28) (a:=fa 50 f) (k:=K) (cs:=cs) (w:=bj) (ops:=iV) (i:=0) (rest:=[]) (o:=iV.getD 0 default) rfl wnn sb B;rw[listed_none s,S9]at h;refine⟨_,_,bj, #[],σ1.V 0,σ1.O 0,h,jV bj,λt c=>?_⟩;rw[nT]at c|-;refine⟨σ1,c,Ms σ1 bj,?_⟩;have hk:=j.kin;obtain⟨N,m2,R,O⟩:=hk.main rfl;have m:σ1.Wg=J.Wg:=hk.Wg;have e:=S7 (P:=F) (post:=post) (L:=link) (σ0:=σ1) (w0:=bj) Pr (hk.md.tn y) (hk.ty.tn E) (by rw[N,hk.base];exact x) (hk.cD.2 C) (kn:=σ1.kn 0) (b0:=bs .normal 28) (a0:=fa 50 f) (fj:=iV) (i0:=0) (fh:=[]) (k0:=K) (cs:=cs) (λσ' w' v=>by
  rw[show(fa 50 f).put ((iV[0]?).bind (·.dst)) (.tuple #[])=fa 50 (ah f 27 (.tuple #[]))from cw zz];exact .inl ⟨rfl,next σ1 bj _ σ' w' j v⟩)
 rw[m]at e;exact sZ.main (e σ1 bj ⟨Ctx.refl 0 σ1 bj,c.p.st0,rfl,hk.df.tn r,λ_=>m2.tn A,λg u=>(by cases u),λb p=>(by cases p),λn z=>(by cases z),.inl ⟨rfl,O.tn q⟩⟩)
theorem Py(a:Cv f g gc wg m k)(q:f 7=(gh,0)):
  WalkE F true (λV' i g' w'=>∃f',g'=G ((bs .normal 28).at (fa 50 f') (.inRegion iD [1]::.inBlock 1::.code (.region 13 o8 false)::.inLoop dB::K)) cs/\Cv f' g gc wg m k/\f' 28=.func (.func 68) #[] (uX wg g gh gc)/\V'=V/\i=O/\aH V w w')
   V O (G ((bs .normal 28).at (fa 50 f) (.inRegion iV []::.code (.region 12 iD false)::.inBlock 1::.code (.region 13 o8 false)::.inLoop dB::K)) cs) w:=by
 refine WalkE.aT (WalkE.reg (l:=[0,1]) rfl ?_);have j:(fa 50 f).eval (.tmp 1)=_:=ft a.f1;have n:(fa 50 f).eval (.tmp 5)=_:=ft a.f5;have o:(fa 50 f).eval (.tmp 6)=_:=ft a.f6;have p:(fa 50 f).eval (.tmp 7)=_:=ft q;refine WalkE.jh (d:=28) (.func (.func 68) #[] (uX wg g gh gc)) rfl rfl zz rfl sb (λh b=>?_) (λh b=>?_) ?_
 .simp only[iD,dB,cL,cK,aX,Tryz.f28,zE,Hn,zM,j,n,o,p];rfl
 .intro e c;simp only[iD,dB,cL,cK,aX,Tryz.f28,zE,Hn]at c;simp[go_sem]at c
 exact WalkE.stop λh b=>⟨_,rfl,a.set _ zz,au _ _ _,rfl,rfl,b⟩
def Tb(c:f 28=.func (.func 68) #[] (uX wg g gh gc))(w:H):
  Lq F true (G ((bs .normal 28).at (fa 50 f) (.inRegion iD [1]::K)) cs) w=.spawn (G ((bs .normal 28).at (fa 50 f) (.inRegion iD []::K)) cs) (G (yJ wg g gh gc) []) w #[]:=by
 have a:(fa 50 f).eval (.tmp 28)=_:=ft c;have d:(Hn (fa 50 f).eval (iD.getD 1 default)).run F w=.ok (.spawn (call70 wg g gh gc)) w:=by
  simp only[iD,dB,cL,cK,aX,Tryz.f28,zQ,Hn,ab,a];simp[Deferred.ofValue,call70]
 have b:(Hn (fa 50 f).eval (iD.getD 1 default)).events F w #[]= #[]:=by
  simp only[iD,dB,cL,cK,aX,Tryz.f28,zQ,Hn,ab,a];simp[Deferred.ofValue]
 rw[stepG_spawn (o:=iD.getD 1 default) rfl rfl sb d rfl,listed_none b];rfl
theorem Tc(b:Cv f g gc wg m m)(o:m<=1000)(k:∀x,V x->x<w.heap.size):
  WalkE F true (λV' n g' w'=>∃f',g'=G ((bs .normal 28).at (fa 50 f') K) cs/\Cv f' g gc wg m m/\(∀x,V x->V' x)/\aH V w w'/\∀x,V' x->x<w'.heap.size)
   V O (G ((bs .normal 28).at (fa 50 f) (.code dB::.inLoop dB::.inBlock 0::K)) cs) w:=by
 rw[show(Item.code dB)=.code (.seq (.region 9 yN false) (.seq (.cond (.tmp 25) .skip (.exit 0)) (.seq (.block 1 (.seq (.region 10 Uy false) (.seq (.region 11 iV false) (.region 12 iD false)))) (.region 13 o8 false))))from cd _ ED];refine WalkE.seq (WalkE.reg (l:=[0]) rfl ?_);have i:(fa 50 f).eval (.tmp 24)=_:=ft b.f24;have c:(fa 50 f).eval (.tmp 23)=_:=ft b.f23;refine WalkE.jh (d:=25) (.bool false) rfl rfl zz rfl sb (λbj a=>?_) (λbj a=>?_) ?_
 .simp only[yN,dB,cL,cK,aX,Tryz.f28,zE,Hn,i,c];go_simp
 .intro e j;simp only[yN,dB,cL,cK,aX,Tryz.f28,zE,Hn,i,c]at j;simp[go_sem]at j
 refine WalkE.aT (WalkE.seq (WalkE.cond (t:=false) (ft (au _ _ _)) (WalkE.exit (k':=K) rfl ?_)));exact WalkE.stop λbj a=>⟨_,rfl,b.set _ zz,λ_ h=>h,a,a.cX k⟩
theorem Pz(j:Cv f g gc wg m k)(hk:k<m)(p:m<=1000)(n:∀x,V x->x<w.heap.size):
  WalkE F true (λV' o g' w'=>∃f',g'=G ((bs .normal 28).at (fa 50 f') (.code dB::.inLoop dB::K)) cs/\Cv f' g gc wg m (k+1)/\(∀x,V x->V' x)/\aH V w w'/\∀x,V' x->x<w'.heap.size)
   V O (G ((bs .normal 28).at (fa 50 f) (.inRegion iD []::.inBlock 1::.code (.region 13 o8 false)::.inLoop dB::K)) cs) w:=by
 refine WalkE.aT (WalkE.inBlock (WalkE.reg (l:=[0,1]) rfl ?_));have c:(fa 50 f).eval (.tmp 24)=_:=ft j.f24;refine WalkE.jh (d:=29) (.int .i64 (k+1:Nat)) rfl rfl zz rfl sb (λbj b=>?_) (λbj b=>?_) ?_
 .simp only[o8,dB,cL,cK,aX,Tryz.f28,zE,Hn,c];go_simp;rw[IntKind.wrap_i64];omega
 .intro e i;simp only[o8,dB,cL,cK,aX,Tryz.f28,zE,Hn,c]at i;simp[go_sem]at i
 refine WalkE.gR (d:=24) (.int .i64 (k+1:Nat)) rfl (.inl rfl) (ft (au _ _ _)) rfl zz rfl sb ?_;refine WalkE.aT (WalkE.inLoop ?_);refine WalkE.stop λbj b=>⟨_,rfl,?_,λ_ h=>h,b,b.cX n⟩;have a:=j.set (d:=29) (.int .i64 (k+1:Nat)) zz;exact⟨nt a.f1,nt a.f5,nt a.f6,nt a.f23,au _ _ _,a.kp.set _ zz⟩
def Td{post:M->H->Prop}{V0:Nat->Prop}{w0:H}{b:aC}{l:pK}{g gc base wg m:Nat}{K:List Item}{cs:List Kf}(e7:m<=16)(b7:ay b l=0)
  (next:∀f J w,Cv f g gc wg m m->CW V0 w0 b l g gc base 0 J w->J.Wg=wg->J.num=base+m->J.got=[]->aQ fI F post (G ((bs .normal 28).at (fa 50 f) K) cs) J w):
  ∀(j k:Nat),k+j=m->∀f J w,Cv f g gc wg m k->CW V0 w0 b l g gc base 0 J w->J.Wg=wg->J.num=base+k->J.got=[]->
   aQ fI F post (G ((bs .normal 28).at (fa 50 f) (.code dB::.inLoop dB::.inBlock 0::K)) cs) J w:=by
 intro j
 induction j with
 | zero=>
  intro k hk f J w N y S Q P;obtain rfl:k=m:=zz;refine aQ.walk (Tc N zz y.cX) (O:=J.O 0) (λ_=>il) (λ_=>il) (λV' U g' w' σ' z q W e=>?_);obtain⟨f',rfl,c1,E,h2,L⟩:=z;exact next f' σ' w' c1 (y.walk e (λx a=>(q x).2 (E x a)) h2 (λx a=>L x ((q x).1 a))) (e.Wg.tn S) ((e.main rfl).1.tn Q) ((e.main rfl).2.2.1.tn P)
 | succ j d9=>
  intro k hk f J w N y S Q P;refine aQ.walk (Px N zz zz y.cX) (O:=J.O 0) (λ_=>il) (λ_=>il) (λV' U g' T σ1 z q W e=>?_);obtain⟨f1,e5,rfl,a7,h7,a8,b8,E,h2,L⟩:=z;have e1:V'=σ1.V 0:=funext λx=>propext (q x).symm;subst e1;have o:=y.walk e E h2 L;have b1:σ1.Wg=wg:=e.Wg.tn S;have a9:σ1.num=base+k:=(e.main rfl).1.tn Q;have c4:σ1.got=[]:=(e.main rfl).2.2.1.tn P;refine Ta (by rw[b1];exact a7.f6) o.md o.ty o.df o.cD o.cz o.pend (by rw[a9,o.bas];omega) (λσ2 w2 kn u w3 r t=>?_);have a4:=(o.XE r).YP t rfl;have d3:aH (σ1.V 0) T w3:=r.w.tn (t.c.w.mono λx a=>(r.V x).2 a);have Z:∀x,σ1.V 0 x->u.V 0 x:=λx a=>(t.c.V x).2 ((r.V x).2 a);have d8:u.Wg=wg:=t.c.Wg.tn (r.kin.Wg.tn b1);have c9:u.num=base+k:=(t.c.main rfl).1.tn ((r.kin.main rfl).1.tn a9);have c5:u.got=[]:=(t.c.main rfl).2.1.tn ((r.kin.main rfl).2.2.1.tn c4);refine aQ.walk (Py (K:=.inBlock 0::K) (a7.set (d:=27) (.tuple #[]) zz) (nt h7)) (O:=u.O 0) (λ_=>il) (λ_=>il) (λV' U g' w4 n z q W A=>?_);obtain⟨f4,rfl,c3,b4,V, -, R⟩:=z;have a2:∀x,u.V 0 x->n.V 0 x:=λx a=>(q x).2 (by rw[V];exact a);have c:=a4.walk A a2 R (λx a=>R.cX a4.cX x (by rw[<- V];exact(q x).1 a));have d4:aH (σ1.V 0) T w4:=d3.tn (R.mono Z);have b2:n.Wg=wg:=A.Wg.tn d8;have a':n.num=base+k:=(A.main rfl).1.tn c9;have c6:n.got=[]:=(A.main rfl).2.2.1.tn c5;refine aQ.OU c.df c.cz (.inr ⟨c.md,c.pend⟩) (λbj _=>Tb b4 bj) (λσ5 C d1 h d7 b' v _ i c8=>?_) (λσ5 C h v _ i c' b0 b9 d2 c7 d6=>?_)
  .have p:σ5.V n.num=n.V 0:=funext λx=>propext (v x);obtain⟨e0,b6⟩:=c.b0;have s:σ5.base=base:=i.base.tn c.bas;have a1:∀x,σ1.V 0 x->n.V 0 x:=λx a=>a2 x (Z x a);have a0:aH (σ1.V 0) T C:=d4.tn (h.mono a1);have a6:cy TA (σ5.V n.num) C b l:=by rw[p];exact c.co.mono (λ_=>id) h.keep
   have a5:C.heap[g]?=Y (aE b 31):=(h.keep g c.bkV).tn c.bk;rw[<- b2,<- i.Wg];refine Hy d1 (b:=b) (l:=l) d7 b' (i.md.tn c.md) (i.ty.tn c.ty) (by rw[s];exact i.pay.tn c.pay) c8 (e0:=e0) (by rw[p];exact b6.rely h) (λx a=>h.cX c.cX x (by rw[<- p];exact a)) a6 b7 (by rw[s,a'];omega) (yL a6 (by rw[p];exact c.bkV) a5) (uY a5) (by rw[p];exact a8.mono a1 a0.keep) ?_ (by rw[p];exact c.chV) (by rw[i.C];exact bu h c.chV c.ch);rw[s,a',show base+k-base=k by omega];exact bu a0 a8.1 b8
  .have p:σ5.V 0=n.V 0:=funext λx=>propext (v x);have s:=c.kQ (pd':=0) i b0 (d6.2 c.cD) b9 d2 (λx a=>(v x).2 a) h (λx a=>h.cX c.cX x ((v x).1 a));refine aQ.walk (Pz c3 zz zz s.cX) (O:=σ5.O 0) (λ_=>il) (λ_=>il) (λe3 e2 e4 d' d0 d5 a3 e6 B=>?_);obtain⟨b3,rfl,c2,h4,b5,h6⟩:=d5;exact d9 (k+1) zz b3 d0 d' c2 (s.walk B (λx a=>(a3 x).2 (h4 x a)) b5 (λx a=>h6 x ((a3 x).1 a))) (B.Wg.tn (i.Wg.tn b2)) ((B.main rfl).1.tn (c'.tn zz)) ((B.main rfl).2.2.1.tn (c7.tn c6))
variable{C:Nat}
def kz:Array Kp:=match dH with|.seq (.region _ ops _) _=>ops|_=> #[]
def Xf:Array Kp:=match dH with|.seq _ (.seq (.region _ ops _) _)=>ops|_=> #[]
def Xg:Array Kp:=match dH with|.seq _ (.seq _ (.seq (.seq (.region _ ops _) _) _))=>ops|_=> #[]
def eB:Ly:=match dH with|.seq _ (.seq _ (.seq (.seq _ (.block _ (.loop c))) _))=>c|_=>.skip
def o9:Ly:=match dH with|.seq _ (.seq _ (.seq _ r))=>r|_=>.skip
def fQ:Array Kp:=match eB with|.seq (.region _ ops _) _=>ops|_=> #[]
def pg:Array Kp:=match eB with|.seq _ (.seq _ (.block _ (.seq (.region _ ops _) _)))=>ops|_=> #[]
def jL:Array Kp:=match eB with|.seq _ (.seq _ (.block _ (.seq _ (.region _ ops _))))=>ops|_=> #[]
def BZ:Ly:=.seq (.region 15 Xf false) (.seq (.seq (.region 16 Xg false) (.block 2 (.loop eB))) o9)
def Mt:dH=.seq (.region 14 kz false) BZ:=rfl
def PC:eB=.seq (.region 17 fQ false) (.seq (.cond (.tmp 33) .skip (.exit 2)) (.block 3 (.seq (.region 18 pg false) (.region 19 jL false)))):=rfl
theorem Mv(a:Cv f g gc wg m m):
  WalkE F true (λV' i g' w'=>∃f',g'=G ((bs .normal 28).at (fa 50 f') [.inRegion kz [1],.code BZ]) cs/\Cv f' g gc wg m m/\f' 30=.func (.func 70) #[] (uZ wg gc)/\V'=V/\i=O/\aH V w w')
   V O (G ((bs .normal 28).at (fa 50 f) [.code dH]) cs) w:=by
 rw[Mt];refine WalkE.seq (WalkE.reg (l:=[0,1]) rfl ?_);have j:(fa 50 f).eval (.tmp 5)=_:=ft a.f5;have k:(fa 50 f).eval (.tmp 6)=_:=ft a.f6;refine WalkE.jh (d:=30) (.func (.func 70) #[] (uZ wg gc)) rfl rfl zz rfl sb (λh b=>?_) (λh b=>?_) ?_
 .simp only[kz,dH,cL,cK,aX,Tryz.f28,zE,Hn,zM,j,k];rfl
 .intro e c;simp only[kz,dH,cL,cK,aX,Tryz.f28,zE,Hn]at c;simp[go_sem]at c
 exact WalkE.stop λh b=>⟨_,rfl,a.set _ zz,au _ _ _,rfl,rfl,b⟩
def Te{K:List Item}(c:f 30=.func (.func 70) #[] (uZ wg gc))(w:H):
  Lq F true (G ((bs .normal 28).at (fa 50 f) (.inRegion kz [1]::K)) cs) w=.spawn (G ((bs .normal 28).at (fa 50 f) (.inRegion kz []::K)) cs) (G (yO wg gc) []) w #[]:=by
 have a:(fa 50 f).eval (.tmp 30)=_:=ft c;have d:(Hn (fa 50 f).eval (kz.getD 1 default)).run F w=.ok (.spawn (call72 wg gc)) w:=by
  simp only[kz,dH,cL,cK,aX,Tryz.f28,zQ,Hn,ab,a];simp[Deferred.ofValue,call72]
 have b:(Hn (fa 50 f).eval (kz.getD 1 default)).events F w #[]= #[]:=by
  simp only[kz,dH,cL,cK,aX,Tryz.f28,zQ,Hn,ab,a];simp[Deferred.ofValue]
 rw[stepG_spawn (o:=kz.getD 1 default) rfl rfl sb d rfl,listed_none b];rfl
structure PD(f:Nat->M)(C:Nat)(v:M):Prop where
 f31:f 31=.chan (Y C)
 f8:f 8=v
 kp:RG f
def PD.set{v:M}(h:PD f C v){d:Nat}(u:M)(a:d≠31/\d≠8/\d≠2/\d≠3/\d≠10/\d<42):PD (ah f d u) C v:=
 ⟨nt h.f31,nt h.f8,h.kp.set u zz⟩
def abU(e:Cv f g gc wg m m)(h:V gc)(c:w (gc,0)=Y (.chan (Y C))):
  WalkE F true (λV' b g' w'=>∃f',g'=G ((bs .normal 28).at (fa 50 f') [.code eB,.inLoop eB,.inBlock 2,.code o9]) cs/\PD f' C (.slice I 0 0)/\V'=V/\b=O/\aH V w w')
   V O (G ((bs .normal 28).at (fa 50 f) [.inRegion kz [],.code BZ]) cs) w:=by
 refine WalkE.aT ?_;unfold BZ;refine WalkE.seq (WalkE.reg (l:=[0]) rfl ?_);refine WalkE.gR (d:=8) (.slice I 0 0) rfl (.inr rfl) rfl rfl zz rfl sb ?_;have a:=e.set (d:=8) (.slice I 0 0) zz;refine WalkE.aT (WalkE.seq (WalkE.seq (WalkE.reg (l:=[0]) rfl ?_)));refine WalkE.Rm (d:=31) ⟨gc,0,I⟩ (.chan (Y C)) BR rfl rfl (ft a.f5) h c rfl zz rfl sb ?_;refine WalkE.aT (WalkE.block (WalkE.loop ?_));exact WalkE.stop λj i=>⟨_,rfl,⟨au _ _ _,nt (au _ _ _),a.kp.set _ zz⟩,rfl,rfl,i⟩
def B0:Ly:=match o9 with|.seq c _=>c|_=>.skip
def yP:Ly:=match o9 with|.seq _ (.seq c _)=>c|_=>.skip
def Fw(x:Sl×Int):List M:=[.slice x.1.A x.1.n x.1.c,.int .i64 x.2]
def EI(a:Sl->List Int)(x y:Sl×Int):Bool:=Oq ((x.1,a x.1),x.2) ((y.1,a y.1),y.2)
def Xh{w:H}{g n c:Nat}{L:List (Sl×Int)}{s:Nat}(m:n=L.length)(p:n<=c)(hl:L.length<=1000)(f:g<w.heap.size)(q:s<=n)(h:∀j x,(L.flatMap Fw)[j]?=Y x->w.cell? ⟨g,j,I⟩=Y x)(d:Sl×Int):
  Y6 w ⟨Y ⟨g,s*2,I⟩,n-s,c-s⟩ (L.drop s) d:=by
 refine⟨by simp[m],by simp;omega,by simp;omega,λo=>⟨g,s*2,rfl,f,λk hk=>?_⟩⟩;have l:s+k<L.length:=by simp at hk;omega
 have e:∀j,j<2->w.cell? ⟨g,s*2+k*2+j,I⟩=(Fw ((L.drop s).getD k d))[j]?:=λj i=>by
  have a:=fO Fw 2 (λ_=>rfl) d L (s+k) j l i;have h2:(L.drop s).getD k d=L.getD (s+k) d:=by simp[List.getD_eq_getElem?_getD]
  rw[h2]
  cases b:(Fw (L.getD (s+k) d))[j]? with
  | none=>
   rw[List.getElem?_eq_none_iff]at b;have:(Fw (L.getD (s+k) d)).length=2:=rfl;omega
  | some x=>
   rw[b]at a;have:=h _ x a;rw[show s*2+k*2+j=(s+k)*2+j by omega];exact this
 exact⟨e 0 zz,e 1 zz⟩
theorem PE(b:Sl->List Int)(one:Sl×Int)(L:List (Sl×Int))(g n c:Nat)(W:H)(P:n=L.length+1)(U:n<=c)(a2:c<=9223372036854775807)(hl:L.length<1000)(u:g<W.heap.size)(q:∀x∈one::L,eC W x.1 (b x.1))(h:∀j x,((one::L).flatMap Fw)[j]?=Y x->W.cell? ⟨g,j,I⟩=Y x):
  Ly.wp F B0 (aR λa J=>a.defers=[]/\(a.tmps.size=50/\(∀i,i=2\/i=3\/i=48\/i=49->a.tmps[i]?=Y (gC i))/\∃A,a.tmps[10]?=Y (.pointer (Y ⟨A,0,I⟩))/\W.heap.size<=A/\J.heap[A]?=Y (.cells #[.slice (dG (EI b) one L).1.A (dG (EI b) one L).1.n (dG (EI b) one L).1.c,.int .i64 (dG (EI b) one L).2] 139 (0,0))/\X W.heap.size W J))
   ⟨#[D,D,.slice I 0 0,.int .i64 0,D,D,D,D,.slice (Y ⟨g,0,I⟩) n c,D,D,D,D,D,D,D,D,D,D,D,D,D,D,D,D,D,D,D,D,D,D,D,D,D,D,D,D,D,D,D,D,D,D,D,D,D,D,D,D,D],[]⟩ W:=by
 obtain⟨⟨k,on,l⟩,f⟩:=one;have R:W.cell? ⟨g,0,I⟩=Y (.slice k on l):=h 0 _ rfl;have S:W.cell? ⟨g,1,I⟩=Y (.int .i64 f):=h 1 _ rfl;have O:=λw' (d:X W.heap.size W w')=>Xh (w:=w') (g:=g) (n:=n) (c:=c) (L:=(⟨k,on,l⟩,f)::L) (s:=1) P U so (qP u d.size) zz (λj x m=>(d.cell (p:=⟨g,j,I⟩) u).tn (h j x m)) (iy,0);have C:∀w',X W.heap.size W w'->∀x y o,X w'.heap.size w' o->eC W x.1 (b x.1)->eC W y.1 (b y.1)->PH F 73 #[.agg #[.slice x.1.A x.1.n x.1.c,.int .i64 x.2],.agg #[.slice y.1.A y.1.n y.1.c,.int .i64 y.2]] o λe w'=>e=.returned (.bool (EI b x y))/\X o.heap.size o w':=λw' d x y o N m V=>
  Ot x.1 y.1 (b x.1) (b y.1) x.2 y.2 o ((m.below d).below N) ((V.below d).below N)
 have t:∀w',X W.heap.size W w'->PH F 72 #[.func (.func 73) #[] #[],.agg #[.slice k on l,.int .i64 f],.slice (if c=1 then Y ⟨g,0,I⟩else Y ⟨g,2,I⟩) (n-1) (c-1)] w' λe Z=>e=.returned (.agg #[.slice (dG (EI b) (⟨k,on,l⟩,f) L).1.A (dG (EI b) (⟨k,on,l⟩,f) L).1.n (dG (EI b) (⟨k,on,l⟩,f) L).1.c,.int .i64 (dG (EI b) (⟨k,on,l⟩,f) L).2])/\X w'.heap.size w' Z:=λw' d=>by
  by_cases r:c=1
  .rw[qWB r];have B:L=[]:=List.length_eq_zero_iff.1 zz;exact Jc (EI b) (λx=>eC W x.1 (b x.1)) (⟨k,on,l⟩,f) (iy,0) ⟨Y ⟨g,0,I⟩,n-1,c-1⟩ L w' ⟨by show n-1=L.length;omega,by rw[B];exact qT _,by rw[B];exact qT _,λK=>by rw[B]at K;exact mi K (dj 0)⟩ (q _ ss) (λx m=>q x (by simp[m])) (C w' d)
  .rw[qVB r];exact Jc (EI b) (λx=>eC W x.1 (b x.1)) (⟨k,on,l⟩,f) (iy,0) ⟨Y ⟨g,2,I⟩,n-1,c-1⟩ L w' (O w' d) (q _ ss) (λx m=>q x (by simp[m])) (C w' d)
 obtain⟨z,Q⟩:∃z,dG (EI b) (⟨k,on,l⟩,f) L=z:=⟨_,rfl⟩;rw[Q]at t|-;obtain⟨⟨a5,a8,a6⟩,z2⟩:=z;dsimp only at t|-;have T:PQ (∀w',X W.heap.size W w'->w'.cell? ⟨g,0,I⟩=Y (.slice k on l)/\w'.cell? ⟨g,1,I⟩=Y (.int .i64 f)/\g<w'.heap.size/\X W.heap.size W w'):=λw' d=>⟨(d.cell (p:=⟨_,_,I⟩) u).tn R,(d.cell (p:=⟨_,_,I⟩) u).tn S,by have:=d.size;omega,d⟩;have h3:(1:Int)<=(n:Int):=zz;have h5:0<n:=zz;clear O h R S Q P C q;unfold B0 o9 dH cL cK aX Tryz.f28;dsimp only;obtain⟨r0,r1,r2,r3⟩:=T.out W (X.refl _ _);by_cases r:c=1;all_goals simp only[r,if_true,if_false]at t
 all_goals
  go_region_with (go_at_call 72;(with_reducible refine(t _ bf).mono ?_);rintro e G ⟨rfl,v⟩;obtain⟨a3,a4⟩:=aU v;have a1:=v.size;have E:X W.heap.size W G:=X.tn bf (v.mono ss);(first|(have a7:W.heap.size<G.heap.size:=(by simp only[aa,H.size_drew]at a1;omega))|skip))
 all_goals
  first
   | exact⟨rfl,rfl,(λi hi=>(by rcases hi with rfl|rfl|rfl|rfl<;>rfl)),G.heap.size,rfl,E.size,Sp _ _,aP E (qN _) _⟩
   | exact⟨rfl,rfl,(λi hi=>(by rcases hi with rfl|rfl|rfl|rfl<;>rfl)),W.heap.size,rfl,qN _,(Gt _ _ ((v.block W.heap.size (by simp only[H.size_drew,aa];exact q7A _)).tn (Sp _ _))).1,jH (jH E (qN _) _) (qN _) _⟩
theorem PG(A:Option Addr)(m b:Nat)(k:Int)(g:Nat)(W:H)(d:W (g,0)=Y (.slice A m b))(e:W (g,1)=Y (.int .i64 k)):
  Ly.wp F yP (aR λa c=>a.defers=[]/\(a.tmps.size=50/\a.tmps[2]?=Y (.slice A m b)/\a.tmps[3]?=Y (.int .i64 0)))
   ⟨#[D,D,.slice I 0 0,.int .i64 0,D,D,D,D,D,D,.pointer (Y (g,0)),D,D,D,D,D,D,D,D,D,D,D,D,D,D,D,D,D,D,D,D,D,D,D,D,D,D,D,D,D,D,D,D,D,D,D,D,D,D,D],[]⟩ W:=by
 unfold yP o9 dH cL cK aX Tryz.f28;dsimp only;go_wp2;exact⟨rfl,rfl,rfl,rfl⟩
def aL(base:Nat)(l:pK)(got:List (Nat×M)):List M:=got.flatMap λp=>[p.2,.int .i64 ((dh (p.1-base) l.W.length).length:Nat)]
structure CR(Vb:Nat->Prop)(wh:H)(C base m:Nat)(b:aC)(l:pK)(v:M)(J:Gh)(w:H):Prop where
 md:J.md=.clash
 df:J.df 0=0
 bas:J.base=base
 pay:J.pay=rS base b l
 num:J.num=base+m+1
 cz:J.cz=Y (base+m)
 C:J.C=C
 sub:∀x,Vb x->J.V 0 x
 keep:aH Vb wh w
 cX:∀x,J.V 0 x->x<w.heap.size
 row:w.ownsRow 0 139 2 v J.got.length (aL base l J.got)
 own:∀g,v.ownBlock=Y g->J.V 0 g/\J.O 0 g/\wh.heap.size<=g
 nodup:(J.got.map (·.1)).Nodup
 range:∀p∈J.got,base<=p.1/\p.1<base+m
 paid:∀p∈J.got,rS base b l p.1 p.2 w
 pubs:∀p∈J.got,∀x,sB p.2 x->J.V 0 x/\v.ownBlock≠Y x
def Tf:(F.info? 139).map (λi=>(i.zero,i.size,i.bytes))=Y (Y (.agg #[.slice I 0 0,.int .i64 0]),2,32):=by kernel_rfl
def mg.sl{xs:List Int}(h:mg w v xs):∃A c,v=.slice A xs.length c:=by
 rcases h with⟨rfl,rfl⟩|⟨g,a,b,e,z,rfl,-⟩
 .exact⟨I,0,rfl⟩
 .exact⟨_,a,rfl⟩
def Xi(d:f 31=.chan (Y C))(w:H):
  Lq F true (G ((bs .normal 28).at (fa 50 f) (.inRegion fQ [0,1]::K)) cs) w=.comm (G ((bs .normal 28).at (fa 50 f) (.inRegion fQ [0,1]::K)) cs) #[rcase C (.slice I 0 0)] true (.recv true) w #[]:=by
 have a:(fa 50 f).eval (.tmp 31)=_:=ft d;have c:(zeroValue 24).run F w=.ok (.slice I 0 0) w:=by kernel_rfl
 have h:(zeroValue 24).events F w #[]= #[]:=by kernel_rfl
 have b:(underlying 125).run F w=.ok (.chan .both 24) w:=by kernel_rfl
 have g:(Hn (fa 50 f).eval (fQ.getD 0 default)).run F w=.ok (.comm #[rcase C (.slice I 0 0)] true (.recv true)) w:=by
  simp only[fQ,eB,dH,cL,cK,aX,Tryz.f28,zQ,Hn,a];simp[c,b,rcase]
 have e:(Hn (fa 50 f).eval (fQ.getD 0 default)).events F w #[]= #[]:=by
  simp only[fQ,eB,dH,cL,cK,aX,Tryz.f28,zQ,Hn,a];simp[c,b,h]
 rw[stepG_comm (o:=fQ.getD 0 default) rfl rfl sb g,listed_none e]
def Mx:
  WalkE F true (λV' a g' w'=>g'=G ((bs .normal 28).at (fa 50 f) (.inRegion fQ [0,1]::.code (.seq (.cond (.tmp 33) .skip (.exit 2)) (.block 3 (.seq (.region 18 pg false) (.region 19 jL false))))::.inLoop eB::K)) cs/\V'=V/\a=O/\aH V w w')
   V O (G ((bs .normal 28).at (fa 50 f) (.code eB::.inLoop eB::K)) cs) w:=by
 rw[show(Item.code eB)=.code (.seq (.region 17 fQ false) (.seq (.cond (.tmp 33) .skip (.exit 2)) (.block 3 (.seq (.region 18 pg false) (.region 19 jL false)))))from cd _ PC];exact WalkE.seq (WalkE.reg (l:=[0,1]) rfl (WalkE.stop λbj b=>⟨rfl,rfl,rfl,b⟩))
theorem PK(h:PD f C v):
  WalkE F true (λV' g g' w'=>∃f',g'=G ((bs .normal 28).at (fa 50 f') K) cs/\PD f' C v/\V'=V/\g=O/\aH V w w')
   V O (G ((bs .normal 28).at (fa 50 (ah f 32 (.tuple #[.slice I 0 0,.bool false]))) (.inRegion fQ [1]::.code (.seq (.cond (.tmp 33) .skip (.exit 2)) (.block 3 (.seq (.region 18 pg false) (.region 19 jL false))))::.inLoop eB::.inBlock 2::K)) cs) w:=by
 have b:(fa 50 (ah f 32 (.tuple #[.slice I 0 0,.bool false]))).eval (.tmp 32)=_:=ft (au _ _ _);refine WalkE.jh (d:=33) (.bool false) rfl rfl zz rfl sb (λbj a=>?_) (λbj a=>?_) ?_
 .simp only[fQ,eB,dH,cL,cK,aX,Tryz.f28,zE,Hn,b];rfl
 .intro e c;simp only[fQ,eB,dH,cL,cK,aX,Tryz.f28,zE,Hn,b]at c;simp[go_sem]at c
 refine WalkE.aT (WalkE.seq (WalkE.cond (t:=false) (ft (au _ _ _)) (WalkE.exit (k':=K) rfl ?_)));exact WalkE.stop λbj a=>⟨_,rfl,(h.set _ zz).set _ zz,rfl,rfl,a⟩
theorem My{V O:Nat->Prop}{w:H}{cs:List Kf}{K:List Item}{f:Nat->M}{C k n c:Nat}{A:Option Addr}{v:M}{xs:List M}(b9:PD f C v)(hk:k<=16)(b6:∀x,V x->x<w.heap.size)
  (b0:w.ownsRow 0 139 2 v k xs)(J:∀g,v.ownBlock=Y g->V g/\O g):
  WalkE F true (λV' O' g' w'=>∃f' v',g'=G ((bs .normal 28).at (fa 50 f') (.code eB::.inLoop eB::K)) cs/\PD f' C v'/\w'.ownsRow 0 139 2 v' (k+1) (xs++[.slice A n c,.int .i64 n])/\(∀g,v'.ownBlock=Y g->V' g/\O' g/\(v.ownBlock=Y g\/w.heap.size<=g))/\(∀x,V x->V' x)/\(∀x,V x->¬(v.ownBlock=Y x)->w'.heap[x]?=w.heap[x]?)/\
   (w'.tape=w.tape/\w'.os=w.os/\w'.output=w.output/\(w:Nat)<=w')/\∀x,V' x->x<w'.heap.size)
   V O (G ((bs .normal 28).at (fa 50 (ah f 32 (.tuple #[.slice A n c,.bool true]))) (.inRegion fQ [1]::.code (.seq (.cond (.tmp 33) .skip (.exit 2)) (.block 3 (.seq (.region 18 pg false) (.region 19 jL false))))::.inLoop eB::K)) cs) w:=by
 have N:(fa 50 (ah f 32 (.tuple #[.slice A n c,.bool true]))).eval (.tmp 32)=_:=ft (au _ _ _);refine WalkE.jh (d:=33) (.bool true) rfl rfl zz rfl sb (λbj p=>?_) (λbj p=>?_) ?_
 .simp only[fQ,eB,dH,cL,cK,aX,Tryz.f28,zE,Hn,ab,zM,N];rfl
 .intro e a;simp only[fQ,eB,dH,cL,cK,aX,Tryz.f28,zE,Hn,ab,zM,N]at a;simp[go_sem]at a
 have a6:=(b9.set (d:=32) (.tuple #[.slice A n c,.bool true]) zz).set (d:=33) (.bool true) zz;have a1:ah (ah f 32 (.tuple #[.slice A n c,.bool true])) 33 (.bool true) 32=_:=nt (au _ _ _);refine WalkE.aT (WalkE.seq (WalkE.cond (t:=true) (ft (au _ _ _)) (WalkE.skip (WalkE.block (WalkE.seq (WalkE.reg (l:=[0,1]) rfl ?_))))));generalize ah (ah f 32 (.tuple #[.slice A n c,.bool true])) 33 (.bool true)=T at a6 a1|-;have S:(fa 50 T).eval (.tmp 32)=_:=ft a1;refine WalkE.jh (d:=34) (.slice A n c) rfl rfl zz rfl sb (λbj p=>?_) (λbj p=>?_) ?_
 .simp only[pg,eB,dH,cL,cK,aX,Tryz.f28,zE,Hn,ab,zM,S];rfl
 .intro e a;simp only[pg,eB,dH,cL,cK,aX,Tryz.f28,zE,Hn,ab,zM,S]at a;simp[go_sem]at a
 refine WalkE.gR (d:=9) (.slice A n c) rfl (.inr rfl) (ft (au _ _ _)) rfl zz rfl sb ?_;have L:=(a6.set (d:=34) (.slice A n c) zz).set (d:=9) (.slice A n c) zz;have E:ah (ah T 34 (.slice A n c)) 9 (.slice A n c) 9=_:=au _ _ _;generalize ah (ah T 34 (.slice A n c)) 9 (.slice A n c)=f2 at L E|-;clear N a1 S a6;refine WalkE.aT (WalkE.reg (l:=[0,1,2,3,4,5,6,7]) rfl ?_);refine WalkE.gR (d:=35) v rfl (.inl rfl) (ft L.f8) rfl zz rfl sb ?_;refine WalkE.gR (d:=36) (.slice A n c) rfl (.inl rfl) (ft (nt E)) rfl zz rfl sb ?_;refine WalkE.gR (d:=37) (.slice A n c) rfl (.inl rfl) (ft (nt (nt E))) rfl zz rfl sb ?_;have a7:=((L.set (d:=35) v zz).set (d:=36) (.slice A n c) zz).set (d:=37) (.slice A n c) zz;have a2:ah (ah (ah f2 35 v) 36 (.slice A n c)) 37 (.slice A n c) 35=v:=nt (nt (au _ _ _));have a3:ah (ah (ah f2 35 v) 36 (.slice A n c)) 37 (.slice A n c) 36=_:=nt (au _ _ _);have a4:ah (ah (ah f2 35 v) 36 (.slice A n c)) 37 (.slice A n c) 37=_:=au _ _ _;generalize ah (ah (ah f2 35 v) 36 (.slice A n c)) 37 (.slice A n c)=f3 at a7 a2 a3 a4|-;clear L E;have Q:(fa 50 f3).eval (.tmp 37)=_:=ft a4;refine WalkE.jh (d:=38) (.int .i64 n) rfl rfl zz rfl sb (λbj p=>?_) (λbj p=>?_) ?_
 .simp only[jL,eB,dH,cL,cK,aX,Tryz.f28,zE,Hn,ab,zM,Q];go_simp
 .intro e a;simp only[jL,eB,dH,cL,cK,aX,Tryz.f28,zE,Hn,ab,zM,Q]at a;simp[go_sem]at a
 have a8:=a7.set (d:=38) (.int .i64 n) zz;have U:ah f3 38 (.int .i64 n) 35=v:=nt a2;have W:ah f3 38 (.int .i64 n) 36=_:=nt a3;have Z:ah f3 38 (.int .i64 n) 38=_:=au _ _ _;generalize ah f3 38 (.int .i64 n)=y at a8 U W Z|-;clear a7 a2 a3 a4 Q;have P:(fa 50 y).eval (.tmp 36)=_:=ft W;have R:(fa 50 y).eval (.tmp 38)=_:=ft Z;refine WalkE.jh (d:=39) (.agg #[.slice A n c,.int .i64 n]) rfl rfl zz rfl sb (λbj p=>?_) (λbj p=>?_) ?_
 .simp only[jL,eB,dH,cL,cK,aX,Tryz.f28,zE,Hn,ab,zM,P,R];go_simp;try rfl
 .intro e a;simp only[jL,eB,dH,cL,cK,aX,Tryz.f28,zE,Hn,ab,zM,P,R]at a;simp[go_sem]at a
 have a0:=a8.set (d:=39) (.agg #[.slice A n c,.int .i64 n]) zz;have b4:ah y 39 (.agg #[.slice A n c,.int .i64 n]) 35=v:=nt U;have b5:ah y 39 (.agg #[.slice A n c,.int .i64 n]) 39=_:=au _ _ _;generalize ah y 39 (.agg #[.slice A n c,.int .i64 n])=f5 at a0 b4 b5|-;clear a8 U W Z P R;have a9:(fa 50 f5).eval (.tmp 39)=_:=ft b5;refine WalkE.oa (d:=40) (.cells #[.slice A n c,.int .i64 n] 139) (λn=>.slice (Y ⟨n,0,I⟩) 1 1) rfl rfl zz rfl sb (λbj p=>?_) (λbj p=>?_) (λbj q=>?_)
 .simp only[jL,eB,dH,cL,cK,aX,Tryz.f28,zE,Hn,ab,zM,a9];go_simp
 .intro e a;simp only[jL,eB,dH,cL,cK,aX,Tryz.f28,zE,Hn,ab,zM,a9]at a;simp[go_sem]at a
 obtain⟨s,b2⟩:∃s,bj.heap.size=s:=⟨_,rfl⟩;rw[b2];have a5:=q.cX b6;have c1:(bj.alloc (.cells #[.slice A n c,.int .i64 n] 139)).ownsRow 0 139 2 v k xs:=dL b0 λg o=>(QR _ _ (a5 g (J g o).1)).tn (q.keep g (J g o).1);have a':∀x,V x\/x=s->x<(bj.alloc (.cells #[.slice A n c,.int .i64 n] 139)).heap.size:=λx b=>by
  rw[aa];rcases b with b|rfl
  .have:=a5 x b;omega
  .omega
 obtain⟨inf,hi,b3⟩:=Option.map_eq_some_iff.1 Tf;simp only[Prod.mk.injEq]at b3;obtain⟨c4,c2,b8⟩:=b3;refine WalkE.Jp (d:=41) (t:=137) (e:=139) (inf:=inf) (z:=.agg #[.slice I 0 0,.int .i64 0]) (size:=2) (bytes:=32) (v:=v) (l:=k) (xs:=xs) (ad:=⟨s,0,I⟩) (m:=1) (c:=1) (news:=[.slice A n c,.int .i64 n]) rfl rfl kr hi c4 c2 b8 rfl zz
  (ft (nt b4)) c1 (λg o=>⟨.inl (J g o).1,.inl (J g o).2⟩) (ft (au _ _ _)) rfl (.inr rfl) (λj u c3=>?_) (by simp[M.oneCell']) (by show k+1<=9223372036854775807;omega) zz a' rfl zz rfl sb (λv' w' V' O' q1 q2 q3 q4 q5 B=>?_)
 .have:=nI bj #[.slice A n c,.int .i64 n] 139 j u c3;rw[b2]at this;exact this
 have b1:=(a0.set (d:=40) (.slice (Y ⟨s,0,I⟩) 1 1) zz).set (d:=41) v' zz;refine WalkE.gR (d:=8) v' rfl (.inr rfl) (ft (au _ _ _)) rfl zz rfl sb ?_;refine WalkE.aT (WalkE.inBlock (WalkE.inLoop ?_));have c5:w.heap.size<=s:=by have:=q.size;omega
 have b7:∀x,V' x->x<w'.heap.size:=λx b=>by
  rcases q4 x b with h|h
  .have:=a' x h;have:=B.2.2.2;omega
  .exact h.2
 refine WalkE.stop λw3 r=>⟨_,v',rfl,⟨nt b1.f31,au _ _ _,λi hi=>nt (b1.kp i hi)⟩,dL q2 λg o=>r.keep g (q3 g o).1,λg o=>?_,λx b=>q1 x (.inl b),λx b b'=>?_,⟨r.tape.tn (B.1.tn q.tape),r.os.tn (B.2.1.tn q.os),r.output.tn (B.2.2.1.tn q.output),?_⟩,r.cX b7⟩
 .obtain⟨p1,p2,p3⟩:=q3 g o;refine⟨p1,p2,p3.imp id λh=>?_⟩;rw[aa]at h;omega
 .exact(r.keep x (q1 x (.inl b))).tn ((q5 x (.inl b) b').tn ((QR _ _ (a5 x b)).tn (q.keep x b)))
 .have h1:=r.size;have h2:=B.2.2.2;rw[aa]at h2;omega
section
variable{Vb:Nat->Prop}{wh:H}{C base m:Nat}{b:aC}{l:pK}{v:M}{J σ':Gh}{w w':H}
def rS.keep{i:Nat}{u:M}(h:rS base b l i u w)(hk:∀b,sB u b->w'.heap[b]?=w.heap[b]?):rS base b l i u w':=⟨h.1,h.2.keep hk⟩
def CR.walk(h:CR Vb wh C base m b l v J w)(hk:Fs 0 J σ')(f:∀x,σ'.V 0 x↔J.V 0 x)(j:∀x,σ'.O 0 x↔J.O 0 x)(i:aH (J.V 0) w w'):CR Vb wh C base m b l v σ' w':=by
 obtain⟨k,o,e,n⟩:=hk.main rfl;refine⟨hk.md.tn h.md,hk.df.tn h.df,hk.base.tn h.bas,hk.pay.tn h.pay,k.tn h.num,n.tn h.cz,hk.C.tn h.C,λx a=>(f x).2 (h.sub x a),h.keep.tn (i.mono h.sub),λx a=>i.cX h.cX x ((f x).1 a),?_,λg d=>⟨(f g).2 (h.own g d).1,(j g).2 (h.own g d).2.1,(h.own g d).2.2⟩,by rw[e];exact h.nodup,by rw[e];exact h.range,λp c=>?_,λp c x a=>?_⟩
 .rw[e];exact dL h.row λg d=>i.keep g (h.own g d).1
 .rw[e]at c;exact(h.paid p c).keep λx a=>i.keep x (h.pubs p c x a).1
 .rw[e]at c;exact⟨(f x).2 (h.pubs p c x a).1,(h.pubs p c x a).2⟩
def PL{k:Nat}(hk:ia b l (k-base)=false)(hl:(dh (k-base) l.W.length).length<=1000)(w:H):∃v w,rS base b l k v w:=by
 refine⟨.slice (Y ⟨0,0,I⟩) (dh (k-base) l.W.length).length (dh (k-base) l.W.length).length, {w with heap:= #[.cells ((dh (k-base) l.W.length).map (M.int .i64)).toArray 3 (0,0)]},hk,.inr ⟨0,(dh (k-base) l.W.length).length,((dh (k-base) l.W.length).map (M.int .i64)).toArray,3,(0,0),rfl,rfl,qN _,?_,by simp,λj x a=>?_⟩⟩
 .show _<=9223372036854775807;omega
 .simp[a]
end
structure CE(Vb:Nat->Prop)(wh:H)(base m:Nat)(b:aC)(l:pK)(v:M)(got:List (Nat×M))(J:Gh)(w:H):Prop where
 idle:Idle J w
 sub:∀x,Vb x->J.V 0 x
 keep:aH Vb wh w
 row:w.ownsRow 0 139 2 v got.length (aL base l got)
 own:∀g,v.ownBlock=Y g->J.V 0 g
 range:∀p∈got,base<=p.1/\p.1<base+m
 nodup:(got.map (·.1)).Nodup
 paid:∀p∈got,rS base b l p.1 p.2 w
 pubs:∀p∈got,∀x,sB p.2 x->J.V 0 x
 all:∀k,k<m->ia b l k=false->∃u,(base+k,u)∈got
def Tg{post:M->H->Prop}{Vb:Nat->Prop}{wh:H}{C base m:Nat}{b:aC}{l:pK}{K:List Item}{cs:List Kf}(e4:m<=16)(e2:l.W.length<=4)(c':∀x,Vb x->x<wh.heap.size)
  (next:∀f J w v got,PD f C v->CE Vb wh base m b l v got J w->aQ fI F post (G ((bs .normal 28).at (fa 50 f) K) cs) J w):
  ∀(d:Nat) f J w v,PD f C v->CR Vb wh C base m b l v J w->J.got.length+d=m->
   aQ fI F post (G ((bs .normal 28).at (fa 50 f) (.code eB::.inLoop eB::.inBlock 2::K)) cs) J w:=by
 intro d
 induction d using Nat.strongRecOn with
 | _ d d'=>
 intro f J w v Z b8 d3;refine aQ.walk (Mx (K:=.inBlock 2::K) (f:=f)) (O:=J.O 0) (λ_=>il) (λ_=>il) (λV' O' g' w1 σ1 d8 b6 b5 a'=>?_);obtain⟨rfl,e1,T,c3⟩:=d8;have i:=b8.walk a' (λx=>(b6 x).tn (by rw[e1])) (λx=>(b5 x).tn (by rw[T])) c3;have b':σ1.got=J.got:=(a'.main rfl).2.2.1;rw[<- b']at d3;clear b8 c3 a' b' b6 b5 e1 T;refine aQ.Zh i.md i.df i.cz (z:=.slice I 0 0) (ok:=true) (dp:=cs) (frv:=λu=>(bs .normal 28).at (fa 50 (ah f 32 (.tuple #[u,.bool true]))) (.inRegion fQ [1]::.code (.seq (.cond (.tmp 33) .skip (.exit 2)) (.block 3 (.seq (.region 18 pg false) (.region 19 jL false))))::.inLoop eB::.inBlock 2::K))
  (frz:=(bs .normal 28).at (fa 50 (ah f 32 (.tuple #[.slice I 0 0,.bool false]))) (.inRegion fQ [1]::.code (.seq (.cond (.tmp 33) .skip (.exit 2)) (.block 3 (.seq (.region 18 pg false) (.region 19 jL false))))::.inLoop eB::.inBlock 2::K))
  (λbj _=>by rw[i.C];exact Xi Z.f31 bj) (λu=>?_) ?_ (λσ2 w2 j u a1 a2 a3 a4 a5 a6 U a8 S R c6 c7 c8 b4=>?_) (λσ2 w2 z1 z2 z3 z4 z5 z6 z7 z8 z9 d0=>?_)
 .rw[nV];rw[show(fa 50 f).put ((fQ[0]?).bind (·.dst)) (recvd true u true)=fa 50 (ah f 32 (.tuple #[u,.bool true]))from cw zz]
 .rw[nV];rw[show(fa 50 f).put ((fQ[0]?).bind (·.dst)) (recvd true (.slice I 0 0) false)=fa 50 (ah f 32 (.tuple #[.slice I 0 0,.bool false]))from cw zz]
 .rw[i.pay]at a5;have c2:rS base b l j u w2:=a5;obtain⟨A,c,b3⟩:=c2.2.sl;rw[i.bas]at a1;rw[i.num]at a2;have d2:base<=j/\j<base+m:=⟨a1,zz⟩;have e3:σ1.got.length<m:=by
   have:=rF (j::σ1.got.map (·.1)) (List.range' base m) (by
    rw[List.nodup_cons];refine⟨λh=>?_,i.nodup⟩;obtain⟨p,o,rfl⟩:=List.mem_map.1 h;exact a4 p.2 o) λx a=>by
     simp only[List.mem_range'_1];rcases dq.1 a with rfl|a
     .omega
     .obtain⟨p,o,rfl⟩:=List.mem_map.1 a;have:=i.range p o;omega
   simp at this;omega
  have b7:∀x,σ2.V 0 x->x<w2.heap.size:=λx a=>((U x).1 a).elim (λh=>S.cX i.cX x h) λh=>(b4 x h).1;have s:∀x,σ1.V 0 x->σ2.V 0 x:=λx a=>(U x).2 (.inl a);have b0:∀x,sB u x->v.ownBlock≠Y x:=λx a e=>(b4 x a).2 (i.own x e).2.1;have a0:∀x,sB u x->σ2.V 0 x:=λx a=>(U x).2 (.inr a);subst b3;refine aQ.walk (My (K:=.inBlock 2::K) (k:=σ1.got.length) (n:=(dh (j-base) l.W.length).length) (c:=c) (A:=A) Z zz b7 (dL i.row λg q=>S.keep g (i.own g q).1) (λg q=>⟨s g (i.own g q).1,(a8 g).2 (i.own g q).2.1⟩)) (O:=σ2.O 0) (λ_=>il) (λ_=>il) (λV3 O3 g3 Q t b2 N V r=>?_);obtain⟨f3,v3,rfl,a7,d7,c1,d9,a9,⟨t1,t2,t3,t4⟩,d1⟩:=b2;obtain⟨m1,m2,m3,m4⟩:=r.main rfl;have E:t.got=σ1.got++[(j,.slice A (dh (j-base) l.W.length).length c)]:=m3.tn a6;have B:∀x,σ2.V 0 x->t.V 0 x:=λx a=>(N x).2 (d9 x a);have b9:∀x,σ2.V 0 x->v.ownBlock≠Y x->v3.ownBlock≠Y x:=λx a d5 e=>by
   rcases(c1 x e).2.2 with h|h
   .exact d5 h
   .have:=b7 x a;omega
  have L:=i.keep.tn (S.mono i.sub);refine d' (d-1) zz f3 t Q v3 a7 ⟨r.md.tn (R.md.tn i.md),r.df.tn c6,r.base.tn (R.base.tn i.bas),r.pay.tn (R.pay.tn i.pay),m1.tn (c7.tn i.num),m4.tn (c8.tn i.cz),r.C.tn (R.C.tn i.C),λx a=>B x (s x (i.sub x a)),?_,λx a=>d1 x ((N x).1 a),?_,λg q=>?_,?_,λp o=>?_,λp o=>?_,λp o x a=>?_⟩ (by rw[E,kl];simp;omega)
  .refine⟨t1.tn L.tape,t2.tn L.os,t3.tn L.output,qO L.size t4,λx a=>?_⟩;refine(a9 x (s x (i.sub x a)) λe=>?_).tn (L.keep x a);have h1:=(i.own x e).2.2;have h2:=c' x a;omega
  .rw[E];simp only[aL,List.flatMap_append,lv,List.flatMap_nil,List.append_nil,kl,ed,lA];exact d7
  .obtain⟨q1,q2,P⟩:=c1 g q;refine⟨(N g).2 q1,(V g).2 q2,?_⟩;rcases P with P|P
   .exact(i.own g P).2.2
   .exact qO L.size P
  .rw[E,mr,List.nodup_append];refine⟨i.nodup,by simp,λx a y c5=>?_⟩;simp at c5;subst c5;rintro rfl;obtain⟨p,o,e⟩:=List.mem_map.1 a;exact a4 p.2 (by rw[<- e];exact o)
  .rw[E]at o;rcases nm.1 o with o|o
   .exact i.range p o
   .simp at o;subst o;exact d2
  .rw[E]at o;rcases nm.1 o with o|o
   .exact((i.paid p o).keep λx a=>S.keep x (i.pubs p o x a).1).keep λx a=>a9 x (s x (i.pubs p o x a).1) (i.pubs p o x a).2
   .simp at o;subst o;exact c2.keep λx a=>a9 x (a0 x a) (b0 x a)
  .rw[E]at o;rcases nm.1 o with o|o
   .have:=i.pubs p o x a;exact⟨B x (s x this.1),b9 x (s x this.1) this.2⟩
   .simp at o;subst o;exact⟨B x (a0 x a),b9 x (a0 x a) (b0 x a)⟩
 .refine aQ.walk (PK (K:=K) Z) (O:=σ2.O 0) (λ_=>il) (λ_=>il) (λV3 O3 g3 Q t b2 N V r=>?_);obtain⟨f3,rfl,a7,e1,T,c4⟩:=b2;have B:∀x,t.V 0 x↔σ2.V 0 x:=λx=>(N x).tn (by rw[e1]);have c9:∀x,t.O 0 x↔σ2.O 0 x:=λx=>(V x).tn (by rw[T]);have s:∀x,σ1.V 0 x->σ2.V 0 x:=λx a=>(z8 x).2 (z7 x a);have W:∀x,σ1.V 0 x->t.V 0 x:=λx a=>(B x).2 (s x a);have b1:aH (σ1.V 0) w1 Q:=z9.tn (c4.mono s);refine next f3 t Q v σ1.got a7 ⟨⟨r.md.tn z2,r.df.tn z3,r.cD.2 z6,λx=>(B x).tn ((z8 x).tn (c9 x).symm),λx a=>c4.cX d0 x ((B x).1 a)⟩,λx a=>W x (i.sub x a),i.keep.tn (b1.mono i.sub),dL i.row λg q=>b1.keep g (i.own g q).1,λg q=>W g (i.own g q).1,i.range,i.nodup,λp o=>(i.paid p o).keep λx a=>b1.keep x (i.pubs p o x a).1,λp o x a=>W x (i.pubs p o x a).1,λk hk d6=>?_⟩;rcases z1 (base+k) (by rw[i.bas];omega) (by rw[i.num];omega) zz with h|h
  .have d4:(dh (base+k-base) l.W.length).length<=1000:=by
    unfold dh;rw[lj];exact qO (nn _ _) so
   obtain⟨u,w0,b3⟩:=PL (base:=base) (b:=b) (l:=l) (k:=base+k) (by rw[show base+k-base=k by omega];exact d6) d4 Q;rw[i.pay]at h;exact mi b3 (h u w0)
  .exact h
def abV{post:M->H->Prop}{J:Gh}{w:H}{b:aC}{l:pK}{cs:List Kf}(y:Main J w)(W:cy TA (J.V 0) w b l)(s:ay b l=0)(b0:lK b l b.D.toNat=false)
  (next:∀f σ' w' v got base C,PD f C v->CE (J.V 0) w base (2^l.W.length) b l v got σ' w'->aQ fI F post (G ((bs .normal 28).at (fa 50 f) [.code o9]) cs) σ' w'):
  aQ fI F post (G (Kf.enter F 28 #[b.v] .normal) cs) J w:=by
 have B:=Xd s;have E:2^l.W.length<=16:=Nat.pow_le_pow_right (n:=2) zz B;refine EE y W s b0 (λf σ1 w1 g gc base a4 T b5 a0=>?_);refine Td (wg:=σ1.Wg) (m:=2^l.W.length) E s (λf2 σ2 w2 a5 u c6 b6 b1=>?_) (2^l.W.length) 0 zz f σ1 w1 a4 T rfl (by rw[b5];rfl) a0;refine aQ.walk (Mv a5) (O:=σ2.O 0) (λ_=>il) (λ_=>il) (λV' O' g' w3 j c1 U c9 o=>?_);obtain⟨f3,rfl,a6,R,e1, -, L⟩:=c1;have A:∀x,j.V 0 x↔σ2.V 0 x:=λx=>(U x).tn (by rw[e1]);have a:=u.walk o (λx d=>(A x).2 d) L (λx d=>L.cX u.cX x ((A x).1 d));have c7:j.Wg=σ1.Wg:=o.Wg.tn c6;have K:j.num=base+2^l.W.length:=(o.main rfl).1.tn b6;have b2:j.got=[]:=(o.main rfl).2.2.1.tn b1;refine aQ.WS a.df a.cz a.md a.pend a.cD (λbj _=>Te R bj) (λr w4 e q c5 b4 a2 c3 Z c4 k _ c=>?_) (λr w4 q k _ c b7 a3 a1 b3=>?_)
 .rw[<- c7,<- c.Wg];exact Us e c5 b4 a2 c3 Z c4 (c.md.tn a.md) (c.ty.tn a.ty) ((k gc).2 a.chV) (by rw[c.C];exact bu q a.chV a.ch)
 .have a':r.V 0 gc:=(k gc).2 a.chV;refine aQ.walk (abU (C:=r.C) a6 a' (by rw[c.C];exact bu q a.chV a.ch)) (O:=r.O 0) (λ_=>il) (λ_=>il) (λV5 O5 g5 t σ5 c2 V c' i=>?_);obtain⟨Q,rfl,a7,P, -, b9⟩:=c2;obtain⟨m1,m2,m3,m4⟩:=i.main rfl;have z:∀x,σ5.V 0 x↔j.V 0 x:=λx=>(V x).tn (by rw[P,k]);have b8:∀x,J.V 0 x->σ5.V 0 x:=λx d=>(z x).2 (a.old x d);have N:aH (j.V 0) w3 t:=q.tn (b9.mono λx d=>(k x).2 d);have b':aH (J.V 0) w t:=a.keep.tn (N.mono a.old);have h:σ5.got=[]:=m3.tn (b3.tn b2);refine Tg (Vb:=J.V 0) (wh:=w) (C:=σ5.C) (base:=base) (m:=2^l.W.length) (b:=b) (l:=l) E B y.idle.cX (λf6 c8 w6 v6 got a8 S=>next f6 c8 w6 v6 got base σ5.C a8 S) (2^l.W.length) Q σ5 t (.slice I 0 0) (by rw[i.C];exact a7) ?_ (by rw[h];simp);exact⟨i.md.tn (c.md.tn a.md),i.df.tn a3,i.base.tn (c.base.tn a.bas),i.pay.tn (c.pay.tn a.pay),m1.tn (by rw[b7,K]),m4.tn (by rw[a1,K]),rfl,b8,b',λx d=>N.cX a.cX x ((z x).1 d),by rw[h];exact⟨rfl,.inl ⟨rfl,rfl⟩⟩,λg a9=>(by cases a9),by rw[h];exact List.nodup_nil,(by rw[h];intro p e;cases e),(by rw[h];intro p e;cases e),(by rw[h];intro p e;cases e)⟩
variable{k:Kd}
def pn{T:P3}{s:Sl}{l:List Int}(h:eC w s l)(n:cM T V w s l.length)(c:Nat->Question->Nat)(d:Nat):eC (tp (gw T V e0 w) c d) s l:=by
 obtain⟨f,h2,g,i⟩:=h;refine⟨f,h2,g,λa=>?_⟩;obtain⟨e,off,b,j,m⟩:=i a;refine⟨e,off,b,by rw[show(tp (gw T V e0 w) c d).heap.size=w.heap.size from dW];exact j,λk hk=>?_⟩;exact(dO ((n _ b).2.2.2 a) (by show off+k<off+l.length;omega)).tn (m k hk)
def zG(_ i:Nat):Kd:=if i=10\/i=43 then .addr else if i=2\/i=3\/i=8\/i=42\/(44<=i/\i<50)then .val else .junk
def Ti(_ i:Nat):Kd:=if i=10\/i=48 then .addr else if i=2\/i=3\/i=49 then .val else .junk
def Xj:ez (TJ zG .skip) F ((TJ zG .skip).kind 28) B0=true:=by kernel_rfl
def Xk:ez (TJ Ti .skip) F ((TJ Ti .skip).kind 28) yP=true:=by kernel_rfl
def yQ:gC 2=.slice I 0 0:=rfl
def yR:gC 3=.int .i64 0:=rfl
def EJ(h2:i≠2)(a:i≠3):gC i=D:=by unfold gC;rw[qVB h2,qVB a]
def AQ(Z:Ren)(i:Nat)(h:i=2\/i=3->k=.val):dM Z k (gC i) (gC i):=by
 by_cases h2:i=2
 .subst h2;rw[h (.inl rfl),yQ];exact .nilSlice 0 0
 .by_cases a:i=3
  .subst a;rw[h (.inr rfl),yR];exact .int _ _
  .rw[EJ h2 a];exact qw
def EK{Z:Ren}{x:M}(r:dM Z k (gC i) x)(h:i=2\/i=3->k=.val)(b:k≠.junk):x=gC i:=by
 by_cases h2:i=2
 .subst h2;rw[h (.inl rfl),yQ]at r;rw[yQ];cases r;rfl
 .by_cases a:i=3
  .subst a;rw[h (.inr rfl),yR]at r;rw[yR];exact aG _ _ _ _ r
  .rw[EJ h2 a]at r|-;exact sV r b
def a20(g n c:Nat)(i:Nat):M:=if i=8 then .slice (Y (g,0)) n c else gC i
def a21(g:Nat)(i:Nat):M:=if i=10 then .pointer (Y (g,0))else gC i
def ZA:Ly:=.seq yP .ret
def MA:o9=.seq B0 ZA:=rfl
def Jy:∀L:List (Sl×Int),(L.flatMap Fw).length=L.length*2
 | []=>rfl
 | a::L=>by rw[lv,kl,Jy L,ed];simp only[Fw,ed,lA];omega
def tv(a:Sl×Int->Sl×Int->Bool):∀(L:List (Sl×Int)) (one:Sl×Int),dG a one L∈one::L
 | [],one=>by simp[dG]
 | x::L,one=>by
  have e:dG a one (x::L)=dG a (if a x one=true then x else one) L:=rfl;rw[e];have:=tv a L (if a x one=true then x else one);rcases dq.1 this with h|h
  .rw[h];split<;>simp
  .simp[h]
def Tj{Stop:(Nat->Prop)->(Nat->Prop)->QP->H->Prop}{V O:Nat->Prop}{f:Nat->M}{g n c:Nat}(l:Sl->List Int){one:Sl×Int}{L:List (Sl×Int)}{c0:Kf}{cs:List Kf}(hB:Base TA V w e0)(a0:∀x,V x->x<w.heap.size)
  (h8:f 8=.slice (Y ⟨g,0,I⟩) n c)(e1:RG f)(b6:n=L.length+1)(hl:L.length<1000)(d1:n<=c)(d2:c<=9223372036854775807)(P:bV TA V w g (n*2))
  (a7:∀x∈one::L,cM TA V w x.1 (l x.1).length)(c6:∀x∈one::L,eC w x.1 (l x.1))(d3:∀j x,((one::L).flatMap Fw)[j]?=Y x->w.cell? ⟨g,j,I⟩=Y x)
  (a6:∀p C bj,dU V O w p C bj->WalkE F true Stop p C (G (c0.finish (.tuple #[.slice (dG (EI l) one L).1.A (dG (EI l) one L).1.n (dG (EI l) one L).1.c,.int .i64 0])) cs) bj):
  WalkE F true Stop V O (G ((bs .normal 28).at (fa 50 f) [.code o9]) (c0::cs)) w:=by
 obtain⟨z,a2⟩:∃z,dG (EI l) one L=z:=⟨_,rfl⟩;have e4:z∈one::L:=a2▸tv _ _ _;have a8:=a7 z e4;rw[a2]at a6;have e3:Shown TA V w g:=P.shown;have c2:(Array.range 50).map (a20 g n c)= #[D,D,.slice I 0 0,.int .i64 0,D,D,D,D,.slice (Y ⟨g,0,I⟩) n c,D,D,D,D,D,D,D,D,D,D,D,D,D,D,D,D,D,D,D,D,D,D,D,D,D,D,D,D,D,D,D,D,D,D,D,D,D,D,D,D,D]:=by kernel_rfl
 rw[MA];refine WalkE.seq (b:=bs .normal 28) (a:=fa 50 f) ?_;refine qc (T:=TJ zG .skip) (hB:=hB.tj) (tm0:=(Array.range 50).map (a20 g n c)) (Q:=aR λa t=>∃r,a.defers=[]/\(a.tmps.size=50/\(∀i,i=2\/i=3\/i=48\/i=49->a.tmps[i]?=Y (gC i))/\∃d,a.tmps[10]?=Y (.pointer (Y ⟨d,0,I⟩))/\w.heap.size<=d/\t.heap[d]?=Y (.cells #[.slice z.1.A z.1.n z.1.c,.int .i64 z.2] 139 (0,0))/\X w.heap.size (tp (gw (TJ zG .skip) V e0 w) r w.drawn) t))
  (Q':=λtm t=>tm.size=50/\(∀i,i=2\/i=3\/i=48\/i=49->tm[i]?=Y (gC i))/\∃d,tm[10]?=Y (.pointer (Y ⟨d,0,I⟩))/\w.heap.size<=d/\t.heap[d]?=Y (.cells #[.slice z.1.A z.1.n z.1.c,.int .i64 z.2] 139 (0,0)))
  (Eo _ _) Xj ss a0 (Es λi hi=>?_) (λr=>?_) (λe a W h=>?_) (λZ f1 W1 e5 bj p C d6 S m=>?_)
 .show dM (gr hB.tj) (zG 28 i) (a20 g n c i) (f i);by_cases y:i=8
  .subst y;rw[h8];have k8:zG 28 8=.val:=by unfold zG;simp
   rw[k8];have e2:Shown (TJ zG .skip) V w g:=e3;exact .slice n c ⟨rfl,rfl,0,mH e2,rfl,rfl⟩
  .have J:a20 g n c i=gC i:=qVB y;rw[J];by_cases E:i=2\/i=3\/i=10\/(42<=i/\i<50)
   .rw[e1 i E];exact AQ _ i λh=>by unfold zG;rw[qVB zz,qWB zz]
   .have:zG 28 i=.junk:=by
     unfold zG;rw[qVB zz,qVB zz]
    rw[this];exact .junk
 .rw[c2];have b9:(tp (gw (TJ zG .skip) V e0 w) r w.drawn).heap.size=w.heap.size:=dW;have:=PE l one L g n c (tp (gw (TJ zG .skip) V e0 w) r w.drawn) b6 d1 d2 hl (by rw[b9];exact a0 _ P.1) (λx s=>pn (c6 x s) (λa c8=>let⟨q,h2,K,N⟩:=a7 x s a c8;⟨q,h2,K,N⟩) r w.drawn) (λj x s=>?_)
  .rw[a2,b9]at this;intro b k cs;obtain⟨e,a,W,h,d8⟩:=this b k cs;obtain⟨rfl,h⟩:=h.elim;exact⟨.normal,a,W,⟨r,h⟩,d8⟩
  .have b5:j<n*2:=by
    have q:=(List.getElem?_eq_some_iff.1 s).1;rw[show((one::L).flatMap Fw).length=n*2 from(Jy _).tn (by rw[b6,ed])]at q;exact q
   have d4:bV (TJ zG .skip) V w g (n*2):=P;exact(dO d4 b5).tn (d3 j x s)
 .obtain⟨rfl,r,q,h2,K,d,N,h5,h6,-⟩:=h.elim;exact⟨rfl,q,h2,K,d,N,h5,h6⟩
 .obtain⟨q1,q2,d,q3,q4,q5⟩:=d6;obtain⟨f',c4,b2⟩:=qd (A:=e5) (n:=50) (by rw[<- S.1];exact q1);have k9:dM Z .addr (.pointer (Y ⟨d,0,I⟩)) (f' 10):=by rw[b2];exact S.at_ q3
  obtain⟨o,e9,r9,c9⟩:=m.ptr q4 k9;have b8:∀i,i=2\/i=3\/i=48\/i=49->zG 28 i=.val:=λi hi=>by unfold zG;rw[qVB zz,qWB zz]
  have d5:∀i,i=2\/i=3\/i=48\/i=49->f' i=gC i:=λi hi=>EK (k:=zG 28 i) (by rw[b2];exact S.at_ (q2 i hi)) (λ_=>b8 i hi) (by rw[b8 i hi];simp);obtain⟨cb,e7,b1,b4⟩:=m.block q5 r9 c9;obtain⟨v0,b7,d9⟩:=b4 0 _ rfl;obtain⟨v1,a1,d'⟩:=b4 1 _ rfl;have c7:cM (TJ zG .skip) V w z.1 (l z.1).length:=a8;have b0:=jJ m.le c7 d9;have c1:=aG _ _ _ _ d';subst b0 c1;have c':∀x,p x->x<bj.heap.size:=m.vb;have a':∀x,V x->p x:=λx s=>(m.hV x).2 (.inl s);have a4:Base TA p bj e0:=hB.mono a' m.keep;have a9:cM (TJ Ti .skip) p bj z.1 (l z.1).length:=a8.mono a' m.keep;have a3:∀{i:Nat} {x:M},cb[i]?=Y x->bj.cell? ⟨o,i,I⟩=Y x:=λh2=>by
   unfold H.cell?;dsimp only;rw[b1];exact h2
  have e':1<cb.size:=(ec.1 a1).1;have R:bV (TJ Ti .skip) p bj o 2:=⟨m.see _ _ _ r9,cb,139,e7,b1,zz,λj v b5 B=>by
   have:j=0\/j=1:=zz;rcases this with rfl|rfl
   .rw[show cb[0]?=_ from b7]at B;cases B;exact a9.flat
   .rw[show cb[1]?=_ from a1]at B;cases B;exact .inl (cR _ _)⟩
  subst c4;have c3:(Array.range 50).map (a21 o)= #[D,D,.slice I 0 0,.int .i64 0,D,D,D,D,D,D,.pointer (Y ⟨o,0,I⟩),D,D,D,D,D,D,D,D,D,D,D,D,D,D,D,D,D,D,D,D,D,D,D,D,D,D,D,D,D,D,D,D,D,D,D,D,D,D,D]:=by kernel_rfl
  rw[show Item.code ZA=.code (.seq yP .ret)from rfl];refine WalkE.seq (b:=bs .normal 28) (a:=⟨(Array.range 50).map f',[]⟩) ?_;refine qc (T:=TJ Ti .skip) (hB:=a4.tj) (tm0:=(Array.range 50).map (a21 o)) (Q:=aR λa t=>a.defers=[]/\(a.tmps.size=50/\a.tmps[2]?=Y (.slice z.1.A z.1.n z.1.c)/\a.tmps[3]?=Y (.int .i64 0)))
   (Q':=λtm t=>tm.size=50/\tm[2]?=Y (.slice z.1.A z.1.n z.1.c)/\tm[3]?=Y (.int .i64 0))
   (Eo _ _) Xk ss c' (Es λi hi=>?_) (λr=>?_) (λe a W h=>?_) (λe8 f3 W2 e6 b' V2 O2 d7 U a5=>?_)
  .show dM (gr a4.tj) (Ti 28 i) (a21 o i) (f' i);by_cases y:i=10
   .subst y;rw[e9];exact .ptr ⟨rfl,rfl,0,mH R.shown,rfl,rfl⟩
   .have J:a21 o i=gC i:=qVB y;rw[J];by_cases E:i=2\/i=3\/i=48\/i=49
    .rw[d5 i E];exact AQ _ i λh=>by unfold Ti;rw[qVB zz,qWB zz]
    .have:Ti 28 i=.junk:=by
      unfold Ti;rw[qVB zz,qVB zz]
     rw[this];exact .junk
  .rw[c3];exact PG _ _ _ _ o _ ((dO R zz).tn (a3 b7)) ((dO R zz).tn (a3 a1))
  .obtain⟨rfl,q,h2⟩:=h.elim;exact⟨rfl,q,h2⟩
  .obtain⟨s1,s2,s3⟩:=d7;obtain⟨f2,c5,b3⟩:=qd (A:=e6) (n:=50) (by rw[<- U.1];exact s1);have m2:f2 2=.slice z.1.A z.1.n z.1.c:=jJ a5.le a9 (by rw[b3];exact U.at_ s2);have m3:f2 3=.int .i64 0:=aG _ _ e8 _ (by rw[b3];exact U.at_ s3);subst c5;refine WalkE.ret (b:=bs .normal 28) (a:=⟨(Array.range 50).map f2,[]⟩) ?_;have d0:∀u:H,(results Tryz.f28 ((Array.range 50).map f2)).run F u=.ok (.tuple #[.slice z.1.A z.1.n z.1.c,.int .i64 0]) u:=λu=>by
    have t2:((Array.range 50).map f2)[2]?=Y (f2 2):=ej (n:=50) (f:=f2) zz;have t3:((Array.range 50).map f2)[3]?=Y (f2 3):=ej (n:=50) (f:=f2) zz;generalize(Array.range 50).map f2=A at t2 t3;unfold results Tryz.f28;simp[t2,t3,m2,m3]
   refine WalkE.leave (fn:=Tryz.f28) (v:=.tuple #[.slice z.1.A z.1.n z.1.c,.int .i64 0]) rfl rfl Tryz.func28 (λu _=>d0 u) (λu _=>?_) ?_
   .generalize(Array.range 50).map f2=A;unfold results Tryz.f28;simp
   .exact a6 V2 O2 b' (m.bH.tn a5.bH)
def fF:M->Sl
 | .slice A n c=>⟨A,n,c⟩
 | _=>iy
def mg.fF(h:mg w v xs):v=.slice (fF v).A (fF v).n (fF v).c/\(Go.Proofs.YthfhocgpjjkjlaaGreatDoor.fF v).n=xs.length:=by
 obtain⟨A,c,rfl⟩:=h.sl;exact⟨rfl,rfl⟩
def mg.uniq{xs ys:List Int}(h:mg w v xs)(c:mg w v ys):xs=ys:=by
 rcases h with⟨b,rfl⟩|⟨g,l,m,e,z,rfl,h2,s,t,u,n⟩
 .rcases c with⟨-, rfl⟩|⟨g,l,m,e,z,rfl,-⟩
  .rfl
  .cases b
 .rcases c with⟨b,-⟩|⟨g',p,q,r,C,f,i,y,A,B,o⟩
  .cases b
  .simp only[lL,fg,Addr.mk.injEq]at f;obtain⟨⟨rfl,-⟩,x,-⟩:=f;rw[h2]at i;cases i;refine List.ext_getElem? λj=>?_;by_cases d:j<xs.length
   .have k:=n j _ (iv d);have a:=o j _ (iv (by omega:j<ys.length));rw[k]at a;rw[iv d,iv (by omega:j<ys.length)];simp only[fg,M.int.injEq,true_and]at a;rw[a]
   .rw[List.getElem?_eq_none zz,List.getElem?_eq_none zz]
def mg.ints(h:mg w v xs)(hl:xs.length<=1000):eC w (Go.Proofs.YthfhocgpjjkjlaaGreatDoor.fF v) xs:=by
 rcases h with⟨rfl,rfl⟩|⟨g,c,d,e,z,rfl,h2,a,i,j,b⟩
 .exact⟨rfl,qT _,qT _,λh=>mi h (dj 0)⟩
 .refine⟨rfl,a,hl,λf=>⟨g,0,rfl,(ec.1 h2).1,λk hk=>?_⟩⟩;unfold H.cell?;dsimp only;rw[h2,kx];have:=b k _ (iv hk);simpa[List.getD_eq_getElem?_getD,iv hk]using this
def mg.flat{T:P3}{V:Nat->Prop}(h:mg w v xs)(k:∀x,sB v x->V x):cM T V w (Go.Proofs.YthfhocgpjjkjlaaGreatDoor.fF v) xs.length:=by
 rcases h with⟨rfl,rfl⟩|⟨g,o,c,e,z,rfl,h2,p,q,f,i⟩
 .intro a b;cases b
 .intro a b;obtain rfl:(⟨g,0,I⟩:Addr)=a:=km b;have d:V g:=k g ⟨_,_,_,rfl,rfl⟩;refine⟨rfl,d,⟨c,e,z,h2⟩,λ_=>⟨d,c,e,z,h2,by simpa using f,λj v l n=>?_⟩⟩;have m:j<xs.length:=by simpa using l
  have:=i j _ (iv m);rw[n]at this;cases this;exact .inl (cR _ _)
open Classical in
noncomputable def MB(w:H)(s:Sl):List Int:=if h:∃xs,mg w (.slice s.A s.n s.c) xs then h.choose else[]
def Jz(h:mg w v xs):MB w (fF v)=xs:=by
 have a:mg w (.slice (fF v).A (fF v).n (fF v).c) xs:=by rw[<- h.fF.1];exact h
 have b:∃xs,mg w (.slice (fF v).A (fF v).n (fF v).c) xs:=⟨xs,a⟩;unfold MB;rw[dif_pos b];exact b.choose_spec.uniq a
def Va{base:Nat}{l:pK}:∀{got:List (Nat×M)},(∀p∈got,p.2=.slice (fF p.2).A (fF p.2).n (fF p.2).c)->aL base l got=(got.map λp=>(fF p.2,((dh (p.1-base) l.W.length).length:Int))).flatMap Fw
 | [],_=>rfl
 | p::got,h=>by
  have c:=Va (base:=base) (l:=l) (got:=got) λq b=>h q (by simp[b]);have e:aL base l (p::got)=[p.2,.int .i64 ((dh (p.1-base) l.W.length).length:Nat)]++aL base l got:=rfl;rw[e,c,List.map_cons,List.flatMap_cons];have a:=h p ss;have:Fw (fF p.2,((dh (p.1-base) l.W.length).length:Int))=[p.2,.int .i64 ((dh (p.1-base) l.W.length).length:Nat)]:=by
   unfold Fw;dsimp only;rw[<- a]
  rw[this]
def PM{post:M->H->Prop}{J:Gh}{b:aC}{c0:Kf}{cs:List Kf}(y:Main J w)(b2:cy TA (J.V 0) w b l)(Z:ay b l=0)(b0:lK b l b.D.toNat=false)(b1:∃k,k<2^l.W.length/\ia b l k=false)
  (next:∀σ' w' v t,Main σ' w'->(∀x,J.V 0 x->σ'.V 0 x)->aH (J.V 0) w w'->t<2^l.W.length->ia b l t=false->mg w' v (dh t l.W.length)->(∀x,sB v x->σ'.V 0 x)->
   aQ fI F post (G (c0.finish (.tuple #[v,.int .i64 0])) cs) σ' w'):
  aQ fI F post (G (Kf.enter F 28 #[b.v] .normal) (c0::cs)) J w:=by
 have b6:=Xd Z;have c7:2^l.W.length<=16:=Nat.pow_le_pow_right (n:=2) zz b6;have b9:∀k,(dh k l.W.length).length<=1000:=λk=>by
  unfold dh;rw[lj];exact qO (nn _ _) so
 refine abV y b2 Z b0 (λf σ1 m v got base C a2 d=>?_);obtain⟨e0,U⟩:=y.b0;have a8:Base TA (σ1.V 0) m e0:=U.mono d.sub d.keep.keep;have a5:∀p∈got,p.2=.slice (fF p.2).A (fF p.2).n (fF p.2).c:=λp i=>(d.paid p i).2.fF.1;have N:=d.row;rw[Va a5]at N;have c6:got.length<=16:=by
  have:=rF (got.map (·.1)) (List.range' base (2^l.W.length)) d.nodup λx g=>by
   obtain⟨p,i,rfl⟩:=List.mem_map.1 g;simp only[List.mem_range'_1];exact d.range p i
  simp at this;omega
 obtain⟨k0,b4,b5⟩:=b1;obtain⟨u0,a6⟩:=d.all k0 b4 b5;obtain⟨LL,u⟩:∃LL,(got.map λp=>(fF p.2,((dh (p.1-base) l.W.length).length:Int)))=LL:=⟨_,rfl⟩;have r:LL.length=got.length:=by rw[<- u];simp
 have E:∀x∈LL,∃p∈got,x=(fF p.2,((dh (p.1-base) l.W.length).length:Int)):=λx g=>by
  rw[<- u]at g;obtain⟨p,i,e⟩:=List.mem_map.1 g;exact⟨p,i,e.symm⟩
 rw[u,<- r]at N;have b8:LL≠[]:=λe=>by
  rw[e]at r;have:=List.length_eq_zero_iff.1 r.symm;rw[this]at a6;cases a6
 obtain⟨one,L,rfl⟩:=List.exists_cons_of_ne_nil b8;have a9:∀x∈one::L,eC m x.1 (MB m x.1):=λx g=>by
  obtain⟨p,i,rfl⟩:=E x g;have:=(d.paid p i).2;rw[Jz this];exact this.ints (b9 _)
 have V:∀x∈one::L,cM TA (σ1.V 0) m x.1 (MB m x.1).length:=λx g=>by
  obtain⟨p,i,rfl⟩:=E x g;have:=(d.paid p i).2;rw[Jz this];exact this.flat (d.pubs p i)
 obtain⟨T,⟨-, h1⟩|⟨S,a7,R,rfl, -, a1,hle,hmx,c2,c3⟩⟩:=N
 .simp at h1
 have a3:∀j x,((one::L).flatMap Fw)[j]?=Y x->R[j]?=Y x:=λj x q=>by
  have s:j<(one::L).length*2:=by rw[<- T];exact(List.getElem?_eq_some_iff.1 q).1
  rw[<- c3,List.getElem?_take,qWB s]at q;simpa using q
 have b3:bV TA (σ1.V 0) m S ((one::L).length*2):=by
  refine⟨d.own S rfl,R,139,(0,0),a1,by rw[c2];exact Nat.mul_le_mul_right _ hle,λj v q c4=>?_⟩;have s:j<((one::L).flatMap Fw).length:=by rw[T];exact q
  have:=a3 j _ (iv s);rw[c4]at this;cases this;have b7:=List.getElem_mem s;obtain⟨a,a0,h⟩:=List.mem_flatMap.1 b7;simp only[Fw,dq,fp,or_false]at h;rcases h with h|h
  .rw[h];exact(V a a0).flat
  .rw[h];exact .inl (cR _ _)
 obtain⟨p,i,c5⟩:=E _ (tv (EI (MB m)) L one);refine aQ.walk (Stop:=λV' Q g' w'=>g'=G (c0.finish (.tuple #[p.2,.int .i64 0])) cs/\dU (σ1.V 0) (σ1.O 0) m V' Q w')
  (Tj (MB m) (one:=one) (L:=L) (c:=a7) a8 d.idle.cX a2.f8 a2.kp rfl (by simp at r;omega) hle (qO hmx dd) b3 V a9 (λj x q=>by unfold H.cell?;dsimp only;rw[a1];exact a3 j x q) (λV1 O1 P o=>?_)) (O:=σ1.O 0) (λ_=>il) (λ_=>il) (λV' Q g' P σ5 c1 z a' B=>?_)
 .rw[c5];dsimp only;rw[<- a5 p i];exact WalkE.stop λw6 b'=>⟨rfl,o.step b'⟩
 .obtain⟨rfl,o⟩:=c1;have W:∀x,σ1.V 0 x->σ5.V 0 x:=λx g=>(z x).2 (o.vv x g);have A:∀x,J.V 0 x->σ5.V 0 x:=λx g=>W x (d.sub x g);have K:aH (J.V 0) w P:=d.keep.tn (o.rely.mono d.sub);have a4:=d.paid p i;have c8:=d.range p i;exact next σ5 P p.2 (p.1-base) ⟨⟨B.md.tn d.idle.md,B.df.tn d.idle.df,B.cD.2 d.idle.cD,λx=>(z x).tn ((o.all d.idle.all x).tn (a' x).symm),λx g=>o.cX x ((z x).1 g)⟩,y.checks.rely A K,e0,U.mono A K.keep⟩ A K zz a4.1
   (a4.2.keep λx g=>o.rely.keep x (d.pubs p i x g)) (λx g=>W x (d.pubs p i x g))
end Go.Proofs.YthfhocgpjjkjlaaGreatDoor
