import Derived.Conc.SmallLaws
import Derived.StillTailTactics
import Derived.BigQuiet
import Derived.Test.YtfcgpihkimpkcaaGreatDoorZg
import Derived.Test.YtfcgpihkimpkcaaGreatDoorZp
set_option maxRecDepth 100000
set_option maxHeartbeats 4000000
set_option linter.all false
noncomputable section
open Go renaming World->Cl,undef->D,World->H,Value->Ha,execOp->Hn,Frame->Kf,Oper->Kp,TypeId->Lk,stepG->Lq,Code->Ly,Value->M,Calls->PH,Program->Ps,Goroutine->QP,heap_alloc_old->QR,heap_alloc_new->Sp,resolve->ab,Operand->ae,MemOp->al,FuncId->ba
open Go.Proofs.Tryz renaming prog->F,prog->Hb
open Option renaming none->I,some->Y
open Go.RowKit renaming Hid->PQ,Below->X
open Go.ConcN renaming upd_same->Sx
namespace Go
def xaa{p:Prop}(h:p:=by
 first|have _:=ø;refine WalkE.aT (WalkE.reg (l:=[0,1]) rfl ?_);have q:(fa 50 f).eval (.tmp 1)=_:=ft a.f1|rw[Mt];refine WalkE.seq (WalkE.reg (l:=[0,1]) rfl ?_)
 have n:(fa 50 f).eval (.tmp 5)=_:=ft a.f5;have o:(fa 50 f).eval (.tmp 6)=_:=ft a.f6
 first
 |have _:=å
  refine WalkE.jh (d:=30) (.func (.func 84) #[] (uZ wg gc)) rfl rfl zz rfl sb (λc b=>?_) (λc b=>?_) ?_
  .simp only[kz,dH,cL,cK,aX,Tryz.f41,zE,Hn,zM,n,o];rfl
 |have r:(fa 50 f).eval (.tmp 7)=_:=ft h7
  refine WalkE.jh (d:=28) (.func (.func 82) #[] (uX wg g gh gc)) rfl rfl zz rfl sb (λc b=>?_) (λc b=>?_) ?_
  .simp only[iD,dB,cL,cK,aX,Tryz.f41,zE,Hn,zM,q,n,o,r];rfl
 .intro e j;first|have _:=ø;simp only[iD,dB,cL,cK,aX,Tryz.f41,zE,Hn]at j|simp only[kz,dH,cL,cK,aX,Tryz.f41,zE,Hn]at j
  simp[go_sem]at j
 exact WalkE.stop λc b=>⟨_,rfl,a.set _ zz,au _ _ _,rfl,rfl,b⟩):p:=h
def xal{p:Prop}(h:p:=by
 first|have _:=ø;skip|intro e a
 have N:=one_cell ((c.keep gc (.inr rfl)).tn u);have b4:T.frozen? (gc,0)=false:=by simp[H.frozen?,(c.keep gc (.inr rfl)).tn u]
 first|have _:=ø;simp only[vT,aX,Tryz.f41,zE,Hn,S,R];go_simp|simp only[vT,aX,Tryz.f41,zE,Hn,S,R]at a;simp[go_sem,N,b4]at a;subst a;exact⟨rfl,.inr rfl,λ_=>.inr rfl⟩):p:=h
def xaD{p:Prop}(h:p:=by
 have h:(F.info? 24).map (·.bytes)=Y 24:=by kernel_rfl
 obtain⟨i,hi,a⟩:=Option.map_eq_some_iff.1 h;first|have _:=ø;simpa using run_makeChan (P:=F) (w:=w) (t:=133) (by kernel_rfl:F.underlying 133=Y (.chan .both 24)) hi .i64 0 zz (by rw[a];omega)|simpa using events_makeChan (P:=F) (w:=w) (t:=133) (by kernel_rfl:F.underlying 133=Y (.chan .both 24)) hi .i64 0 zz (by rw[a];omega) es):p:=h
def xbg{p:Prop}(h:p:=by
 simp only[iV,dB,cL,cK,aX,Tryz.f41,zQ,Hn,ab,zM,l];rfl):p:=h
def xbm{p:Prop}(h:p:=by
 have b9:=Xd P;have b':2^l.W.length<=16:=Nat.pow_le_pow_right (n:=2) zz b9
 first
 |have _:=ø
  refine EE A a2 P a7 (λf σ1 r g gc base S c9 f7 e3=>?_);refine Td (wg:=σ1.Wg) (m:=2^l.W.length) b' P (λf2 σ2 w2 d7 b1 h3 f8 e4=>?_) (2^l.W.length) 0 zz f σ1 r S c9 rfl (by rw[f7];rfl) e3;refine aQ.walk (Mv d7) (O:=σ2.O 0) (λ_=>dq) (λ_=>dq) (λV' W g' w3 E g4 d1 h7 T=>?_);obtain⟨f3,rfl,d8,c7,e1, -, c2⟩:=g4;have b6:∀x,E.V 0 x↔σ2.V 0 x:=λx=>(d1 x).tn (by rw[e1]);have q:=b1.walk T (λx d=>(b6 x).2 d) c2 (λx d=>c2.cX b1.cX x ((b6 x).1 d));have h4:E.Wg=σ1.Wg:=T.Wg.tn h3;have b0:E.num=base+2^l.W.length:=(T.main rfl).1.tn f8;have e6:E.got=[]:=(T.main rfl).2.2.1.tn e4;refine aQ.WS q.df q.cz q.md q.pend q.cD (λbj _=>Te c7 bj) (λV w4 o Q g8 e9 d5 g6 d3 g7 K _ u=>?_) (λV w4 Q K _ u f9 d6 d4 e7=>?_)
  .rw[<- h4,<- u.Wg];exact HI o g8 e9 d5 g6 d3 g7 (u.md.tn q.md) (u.ty.tn q.ty) ((K gc).2 q.chV) (by rw[u.C];exact bu Q q.chV q.ch)
  .have e2:V.V 0 gc:=(K gc).2 q.chV;refine aQ.walk (Mw (C:=V.C) d8 e2 (by rw[u.C];exact bu Q q.chV q.ch)) (O:=V.O 0) (λ_=>dq) (λ_=>dq) (λV5 O5 g5 z σ5 a8 N b2 s=>?_);obtain⟨f5,rfl,d9,e5, -, g1⟩:=a8;obtain⟨m1,m2,m3,m4⟩:=s.main rfl;have b5:∀x,σ5.V 0 x↔E.V 0 x:=λx=>(N x).tn (by rw[e5,K]);have f':∀x,J.V 0 x->σ5.V 0 x:=λx d=>(b5 x).2 (q.old x d);have c3:aH (E.V 0) w3 z:=Q.tn (g1.mono λx d=>(K x).2 d);have g3:aH (J.V 0) w z:=q.keep.tn (c3.mono q.old);have B:σ5.got=[]:=m3.tn (e7.tn e6);refine Tg (Vb:=J.V 0) (wh:=w) (C:=σ5.C) (base:=base) (m:=2^l.W.length) (b:=b) (l:=l) b' b9 A.idle.cX (λf6 h6 w6 v6 got d' i=>next f6 h6 w6 v6 got base σ5.C d' i) (2^l.W.length) f5 σ5 z (.slice I 0 0) (by rw[s.C];exact d9) ?_ (by rw[B];simp);exact⟨s.md.tn (u.md.tn q.md),s.df.tn d6,s.base.tn (u.base.tn q.bas),s.pay.tn (u.pay.tn q.pay),m1.tn (by rw[f9,b0]),m4.tn (by rw[d4,b0]),rfl,f',g3,λx d=>c3.cX q.cX x ((b5 x).1 d),by rw[B];exact⟨rfl,.inl ⟨rfl,rfl⟩⟩,λg t=>(by cases t),by rw[B];exact List.nodup_nil,(by rw[B];intro p o;cases o),(by rw[B];intro p o;cases o),(by rw[B];intro p o;cases o)⟩
 |have f0:∀k,(dh k l.W.length).length<=1000:=λk=>by
   unfold dh;rw[my];exact ec (ln _ _) so
  refine Mz A a2 P a7 (λf σ1 r v got base C S i=>?_);obtain⟨e0,a0⟩:=A.b0;have c8:Base TA (σ1.V 0) r e0:=a0.mono i.sub i.keep.keep;have c4:∀p∈got,p.2=.slice (fF p.2).A (fF p.2).n (fF p.2).c:=λp o=>(i.paid p o).2.fF.1;have a6:=i.row;rw[Va c4]at a6;have h8:got.length<=16:=by
   have:=rF (got.map (·.1)) (List.range' base (2^l.W.length)) i.nodup λx d=>by
    obtain⟨p,o,rfl⟩:=List.mem_map.1 d;simp only[List.mem_range'_1];exact i.range p o
   simp at this;omega
  obtain⟨k0,e8,e'⟩:=hall;obtain⟨u0,c5⟩:=i.all k0 e8 e';obtain⟨LL,a1⟩:∃LL,(got.map λp=>(fF p.2,((dh (p.1-base) l.W.length).length:Int)))=LL:=⟨_,rfl⟩;have R:LL.length=got.length:=by rw[<- a1];simp
  have a4:∀x∈LL,∃p∈got,x=(fF p.2,((dh (p.1-base) l.W.length).length:Int)):=λx d=>by
   rw[<- a1]at d;obtain⟨p,o,e⟩:=List.mem_map.1 d;exact⟨p,o,e.symm⟩
  rw[a1,<- R]at a6;have f4:LL≠[]:=λe=>by
   rw[e]at R;have:=List.length_eq_zero_iff.1 R.symm;rw[this]at c5;cases c5
  obtain⟨one,L,rfl⟩:=List.exists_cons_of_ne_nil f4;have c':∀x∈one::L,aN r x.1 (MB r x.1):=λx d=>by
   obtain⟨p,o,rfl⟩:=a4 x d;have:=(i.paid p o).2;rw[Jz this];exact this.ints (f0 _)
  have b3:∀x∈one::L,cM TA (σ1.V 0) r x.1 (MB r x.1).length:=λx d=>by
   obtain⟨p,o,rfl⟩:=a4 x d;have:=(i.paid p o).2;rw[Jz this];exact this.flat (i.pubs p o)
  obtain⟨h0,⟨-, h1⟩|⟨a',c6,a9,rfl, -, b7,hle,hmx,g9,g0⟩⟩:=a6
  .simp at h1
  have b8:∀j x,((one::L).flatMap Fw)[j]?=Y x->a9[j]?=Y x:=λj x y=>by
   have U:j<(one::L).length*2:=by rw[<- h0];exact(List.getElem?_eq_some_iff.1 y).1
   rw[<- g0,List.getElem?_take,dE U]at y;simpa using y
  have d0:bV TA (σ1.V 0) r a' ((one::L).length*2):=by
   refine⟨i.own a' rfl,a9,147,(0,0),b7,by rw[g9];exact Nat.mul_le_mul_right _ hle,λj v y h2=>?_⟩;have U:j<((one::L).flatMap Fw).length:=by rw[h0];exact y
   have:=b8 j _ (fg U);rw[h2]at this;cases this;have f1:=List.getElem_mem U;obtain⟨a,d2,h⟩:=List.mem_flatMap.1 f1;simp only[Fw,fc,hZ,or_false]at h;rcases h with h|h
   .rw[h];exact(b3 a d2).flat
   .rw[h];exact .inl (cR _ _)
  obtain⟨p,o,h5⟩:=a4 _ (tv (EI (MB r)) L one);refine aQ.walk (Stop:=λV' W g' w'=>g'=G (c0.finish (.tuple #[p.2,.int .i64 0])) cs/\dU (σ1.V 0) (σ1.O 0) r V' W w')
   (Tj (MB r) (one:=one) (L:=L) (c:=c6) c8 i.idle.cX S.f8 S.kp rfl (by simp at R;omega) hle (ec hmx dd) d0 b3 c' (λj x y=>by unfold H.cell?;dsimp only;rw[b7];exact b8 j x y) (λV1 O1 z t=>?_)) (O:=σ1.O 0) (λ_=>dq) (λ_=>dq) (λV' W g' z σ5 a8 N b2 s=>?_)
  .rw[h5];dsimp only;rw[<- c4 p o];exact WalkE.stop λw6 g2=>⟨rfl,t.step g2⟩
  .obtain⟨rfl,t⟩:=a8;have b4:∀x,σ1.V 0 x->σ5.V 0 x:=λx d=>(N x).2 (t.vv x d);have a3:∀x,J.V 0 x->σ5.V 0 x:=λx d=>b4 x (i.sub x d);have a5:aH (J.V 0) w z:=i.keep.tn (t.rely.mono i.sub);have c1:=i.paid p o;have Q:=i.range p o;exact next σ5 z p.2 (p.1-base) ⟨⟨s.md.tn i.idle.md,s.df.tn i.idle.df,s.cD.2 i.idle.cD,λx=>(N x).tn ((t.all i.idle.all x).tn (b2 x).symm),λx d=>t.cX x ((N x).1 d)⟩,A.checks.rely a3 a5,e0,a0.mono a3 a5.keep⟩ a3 a5 zz c1.1
    (c1.2.keep λx d=>t.rely.keep x (i.pubs p o x d)) (λx d=>b4 x (i.pubs p o x d))):p:=h
end Go
namespace Go.Proofs.YtfcgpihkimpkcaaGreatDoor
open Go.RowKit Go.Co Go.Conc
variable{w:H}{v:M}{xs:List Int}{V:Nat->Prop}
def mg(w:H)(v:M)(xs:List Int):Prop:=(v=.slice I 0 0/\xs=[])\/∃g a b e z,v=.slice (Y ⟨g,0,I⟩) xs.length a/\w.heap[g]?=Y (.cells b e z)/\xs.length<=a/\a<=maxLen/\xs.length<=b.size/\∀(j:Nat) (x:Int),xs[j]?=Y x->b[j]?=Y (M.int .i64 x)
theorem mg.keep{w w':H}(h:mg w v xs)(hk:∀b,sB v b->w'.heap[b]?=w.heap[b]?):mg w' v xs:=by
 rcases h with h|⟨g,a,c,e,z,rfl,h2,d⟩
 .exact Or.inl h
 .exact .inr ⟨g,a,c,e,z,rfl,(hk g ⟨_,_,_,rfl,rfl⟩).tn h2,d⟩
end Go.Proofs.YtfcgpihkimpkcaaGreatDoor
open Go in
open Go.Proofs.YtfcgpihkimpkcaaGreatDoor in
open Go.RowKit Go.Co Go.Conc in
def Go.Co.sq.zZ{T:gq}{V:Nat->Prop}{w:Cl}{v:Ha}{n:Nat}{xs:List Int}(h:sq T V w v 1 n (xs.map (Ha.int .i64))):mg w v xs/\∀b,sB v b->V b:=by
 obtain⟨h0,⟨rfl,h1⟩|⟨g,cap,rfl,h2,h3,h4,h5⟩⟩:=h
 .refine⟨.inl ⟨rfl,List.length_eq_zero_iff.1 ?_⟩,λb hb=>by obtain⟨a,l,c,e,-⟩:=hb;cases e⟩
  rw[List.length_map]at h0
  omega
 .rw[List.length_map,Nat.mul_one]at h0
  obtain⟨hV,cur,e,z,hc,hk,-⟩:=h4
  rw[<- h0]
  refine⟨.inr ⟨g,cap,cur,e,z,rfl,hc,zz,h3,zz,λj x hx=>?_⟩,λb hb=>by obtain⟨a,l,c,e,rfl⟩:=hb;cases e;exact hV⟩
  have h6:=h5 j (.int .i64 x) (by rw[List.getElem?_map,hx];rfl)
  unfold Cl.cell? at h6
  dsimp only at h6
  rw[hc]at h6
  exact h6
namespace Go.Proofs.YtfcgpihkimpkcaaGreatDoor
open Go.RowKit Go.Co Go.Conc
variable{w:H}{v:M}{xs:List Int}{V:Nat->Prop}
def rS(base:Nat)(b:aC)(l:bN)(i:Nat)(v:M)(w:H):Prop:=ia b l (i-base)=false/\mg w v (dh (i-base) l.W.length)
def BQ:Ly:=match Tryz.f82.body with|some c=>c|_=>.skip
def uX(wg g a gc:Nat):Array M:= #[.pointer (Y (wg,0)),.pointer (Y (g,0)),.pointer (Y (a,0)),.pointer (Y (gc,0))]
def call70(wg g a gc:Nat):Deferred:= {target:=.fn (.func 82) (uX wg g a gc),args:= #[]}
def yJ(wg g a gc:Nat):Kf:= { (default:Kf)with fn:=F.funcs.size,defers:=[call70 wg g a gc],mode:=.panicking [goexitEntry]}
def Aa(wg g a gc:Nat):Nat->M:=λi=>(uX wg g a gc).getD i D
def Ew(wg g a gc:Nat)(w:H):Lq F false (G (yJ wg g a gc) []) w=.go (G ((bs .deferred 82).at (fa 43 (Aa wg g a gc)) [.code BQ]) [fP]) w #[]:=by
 have e:=iu (A:=uX wg g a gc) (k:=39) (n:=43) rfl;simp[yJ,call70,Lq,unwind,callDeferred,invoke,callFunc,Tryz.func82,Tryz.f82,seen,GStep.after,G,Kf.enter,Kf.at,fP,BQ,bs,fa,Aa];exact e
def jw:Array Kp:=match iN with|.region _ ops _=>ops|_=> #[]
def W9:Array Kp:=match BQ with|.seq (.region _ ops _) _=>ops|_=> #[]
def Mk:BQ=.seq (.region 0 W9 false) bF:=rfl
def Hq:iN=.region 11 jw false:=rfl
def Vm(f i:Nat):Kd:=if i=0 then .junk else xO f i
def RF:gq:=TJ Vm iN
def Zo:wC RF F (RF.kind 82) bD bF:=
 GI rfl _ λa b c d e f y h=>by
  have g:bD=.seq (match bD with|.seq a _=>a|_=>.skip) (.seq (match bD with|.seq _ (.seq a _)=>a|_=>.skip) (.seq (match bD with|.seq _ (.seq _ (.seq a _))=>a|_=>.skip) (.seq me (.seq (.region 10 vS false) (.cond (.tmp 40) (.refuse "cut") .skip))))):=rfl;rw[g]at h;simp only[Ly.seq.injEq,Ly.cond.injEq]at h;obtain⟨rfl,rfl,rfl,rfl,rfl,rfl, -, rfl⟩:=h;exact⟨by kernel_rfl,by kernel_rfl,by kernel_rfl,by kernel_rfl,by kernel_rfl,by kernel_rfl,by kernel_rfl⟩
def dw(wg:Nat):Deferred:=dcall 83 #[.pointer (Y (wg,0))]
def Zp(wg g a gc:Nat):(Array.range 43).map (Aa wg g a gc)= #[.pointer (Y (wg,0)),.pointer (Y (g,0)),.pointer (Y (a,0)),.pointer (Y (gc,0)),D,D,D,D,D,D,D,D,D,D,D,D,D,D,D,D,D,D,D,D,D,D,D,D,D,D,D,D,D,D,D,D,D,D,D,D,D,D,D]:=by kernel_rfl
theorem BR:OneCell F 133:=λw ad v h=>⟨by go_simp,by simp[go_sem,h]⟩
def XB(b:aC)(l:bN)(a wg C:Nat)(V:Nat->Prop)(V':Nat->Prop)(g':QP)(w':H):Prop:=
 (∀x,V x->V' x)/\((ia b l a=true/\∃tm,g'=G ((bs .deferred 82).at ⟨tm,[dw wg]⟩ []) [fP])\/
  (ia b l a=false/\∃f v,g'=G ((bs .deferred 82).at ⟨(Array.range 43).map f,[dw wg]⟩ [.inRegion jw [1,2]]) [fP]/\f 41=.chan (Y C)/\f 5=v/\mg w' v (dh a l.W.length)/\∀x,sB v x->V' x))
theorem Ex{V O:Nat->Prop}{e0:Lk}{b:aC}{l:bN}{bits wg g gb gc C:Nat}(b8:Base TA V w e0)(z:∀x,V x->x<w.heap.size)(c2:cy TA V w b l)(c8:ay b l=0)(c4:bits<16)
  (c5:bV TA V w g 13)(c6:∀i x,(wE b)[i]?=Y x->w.cell? ⟨g,i,I⟩=Y x)(d1:bV TA V w gb 1)(c3:w.cell? ⟨gb,0,I⟩=Y (.int .i64 bits))(s:V gc)(E:w.cell? ⟨gc,0,I⟩=Y (.chan (Y C))):
  WalkE F false (λV' _ g' w'=>XB b l bits wg C V V' g' w') V O (G (yJ wg g gb gc) []) w:=by
 have hB:Base RF V w e0:=b8.tj;have c1:cy RF V w b l:=c2.tr λ_ _ h=>h;have a6:bV RF V w g 13:=c5;have a8:bV RF V w gb 1:=d1;refine WalkE.ctl (λw=>Ew wg g gb gc w) ?_;rw[Mk];refine WalkE.seq (WalkE.reg (l:=[0]) rfl ?_);have b5:(fa 43 (Aa wg g gb gc)).eval (.tmp 0)=.pointer (Y ⟨wg,0,I⟩):=fe zz;refine WalkE.ctl (λw=>stepG_defer (f:=83) (ats:= #[143]) (o:=W9.getD 0 default) rfl rfl sb rfl) ?_;simp only[zM,b5];change WalkE F false _ V O (G ((bs .deferred 82).at ⟨(Array.range 43).map (Aa wg g gb gc),[dw wg]⟩ (.inRegion W9 []::[.code bF])) [fP]) w;refine WalkE.aT ?_;refine NS (T:=RF) (hB:=hB) (tm0:=(Array.range 43).map (Aa wg g gb gc)) (Q0:=λtm W'=>ia b l bits=true) (Q1:=λtm W'=>ia b l bits=false/\tm.size=43/\tm[3]?=Y (.pointer (Y ⟨gc,0,I⟩))/\∃m:Sl,tm[5]?=Y (.slice m.A m.n m.c)/\W'.ownsRow w.heap.size 3 1 (.slice m.A m.n m.c) m.n ((dh bits l.W.length).map (M.int .i64))) (Eo _ _) Zo ss z (Es λi hi=>?_) (λS=>?_) (λZ b4 W1 a1 bj L a2 U u j=>?_) (λZ b4 W1 a1 bj L a2 U u j=>?_)
 .show dM (gr hB) (Vm 82 i) (Aa wg g gb gc i) (Aa wg g gb gc i);have P:∀{p:Nat},Shown RF V w p->dM (gr hB) .addr (.pointer (Y ⟨p,0,I⟩)) (.pointer (Y ⟨p,0,I⟩)):=λh=>.ptr ⟨rfl,rfl,0,mH h,rfl,rfl⟩;have:i=0\/i=1\/i=2\/i=3\/4<=i:=zz;rcases this with rfl|rfl|rfl|rfl|h4
  .exact .junk
  .exact P a6.shown
  .exact P a8.shown
  .exact P (jQ s E)
  .have:Aa wg g gb gc i=D:=by
    exact xbi
   rw[this];exact qw
 .rw[Zp];have K:(tp (gw RF V e0 w) S w.drawn).heap.size=w.heap.size:=dW;have:=Hp b l bits (.pointer (Y ⟨wg,0,I⟩)) g gb gc c8 c4 (tp (gw RF V e0 w) S w.drawn) (c1.gw S w.drawn) (by rw[K];exact z _ a6.1) (by rw[K];exact z _ a8.1) (λi v b2=>(dO a6 ((du.1 b2).1)).tn (c6 i v b2)) ((dO a8 zz).tn c3);rw[K]at this;exact this
 .exact WalkE.stop λN J=>⟨λx k=>(j.hV x).2 (.inl k),.inl ⟨U,a1,rfl⟩⟩
 .obtain⟨q1,q2,q3,m,q4,q5⟩:=U;obtain⟨f,a5,B⟩:=qd (A:=a1) (n:=43) (by rw[<- u.1];exact q2);have e3:f 3=.pointer (Y ⟨gc,0,I⟩):=ym j.le (jQ s E) (by rw[B];exact u.at_ q3);have k5:VR Z (.slice m.A m.n m.c) (f 5):=by rw[B];exact u.at_ q4
  obtain⟨d6,-⟩:=j.row q5 (dj _) k5 (λx k=>by
   obtain⟨a, -, rfl⟩:=List.mem_map.1 k;exact⟨aG _ _,cR _ _⟩)
  obtain⟨d7,b1⟩:=d6.zZ;have a4:bj.cell? ⟨gc,0,I⟩=Y (.chan (Y C)):=aV (j.keep gc s) E;have a9:L gc:=(j.hV gc).2 (.inl s);subst a5;show WalkE F false _ L a2 (G ((bs .deferred 82).at ⟨(Array.range 43).map f,[dw wg]⟩ [.code iN]) [fP]) bj;rw[Hq];refine WalkE.reg (l:=[0,1,2]) rfl ?_;have a3:(⟨(Array.range 43).map f,[dw wg]⟩:Act).eval (.tmp 3)=.pointer (Y ⟨gc,0,I⟩):=(show(fa 43 f).eval (.tmp 3)=_ from fe zz).tn e3;refine WalkE.value (o:=jw.getD 0 default) (.chan (Y C)) rfl wnn sb (λN J=>?_) (λN J e a7=>?_) ?_
  .have:=(BR N _ _ (bu J a9 a4)).1;simp only[jw,iN,bF,Tryz.f82,zQ,Hn,a3];simp[this]
  .have h2:=BR N _ _ (bu J a9 a4);simp only[jw,iN,bF,Tryz.f82,zQ,Hn,a3]at a7;simp[h2.1,h2.2]at a7;subst a7;exact⟨rfl,a9,λh=>by cases h⟩
  have p1:(⟨(Array.range 43).map f,[dw wg]⟩:Act).put (jw.getD 0 default).dst (.chan (Y C))=⟨(Array.range 43).map (ah f 41 (.chan (Y C))),[dw wg]⟩:=by
   have:=eh Act.tmps (cw (n:=43) (d:=41) (f:=f) (v:=.chan (Y C)) zz);exact eh (λt=>(⟨t,[dw wg]⟩:Act)) this
  rw[p1];exact WalkE.stop λN J=>⟨λx k=>(j.hV x).2 (.inl k),.inr ⟨q1,_,f 5,rfl,au _ _ _,nf,d7.keep λx k=>J.keep x (b1 x k),b1⟩⟩
variable{O bm bo:Nat->Prop}{bj dv:H}{g i n d:Nat}{main:Bool}{Stop:(Nat->Prop)->(Nat->Prop)->QP->H->Prop}{b:Kf}{k:List Item}{cs:List Kf}{ops:Array Kp}{rest:List Nat}{o:Kp}{f:Nat->M}{e0:Lk}
structure dU(V O:Nat->Prop)(w:H)(bm bo:Nat->Prop)(bj:H):Prop where
 vv:∀x,V x->bm x
 vo:∀x,bm x->V x\/(bo x/\w.heap.size<=x)
 oo:∀x,O x->bo x
 ov:∀x,bo x->O x\/(bm x/\w.heap.size<=x)
 rely:aH V w bj
 cX:∀x,bm x->x<bj.heap.size
def dU.refl(h:∀x,V x->x<w.heap.size):dU V O w V O w:=⟨λ_=>id,λ_=>.inl,λ_=>id,λ_=>.inl,.refl _ _,h⟩
theorem dU.tn{V O bm bo V2 O2:Nat->Prop}(h:dU V O w bm bo bj)(b:dU bm bo bj V2 O2 dv):dU V O w V2 O2 dv:=
 ⟨λx d=>b.vv x (h.vv x d),λx d=>(b.vo x d).elim (λa=>(h.vo x a).imp id λc=>⟨b.oo x c.1,c.2⟩) λa=>.inr ⟨a.1,ec h.rely.size a.2⟩,λx d=>b.oo x (h.oo x d),
  λx d=>(b.ov x d).elim (λa=>(h.ov x a).imp id λc=>⟨b.vv x c.1,c.2⟩) λa=>.inr ⟨a.1,ec h.rely.size a.2⟩,h.rely.tn (b.rely.mono h.vv),b.cX⟩
theorem dU.step(h:dU V O w bm bo bj)(a:aH bm bj dv):dU V O w bm bo dv:=⟨h.vv,h.vo,h.oo,h.ov,h.rely.tn (a.mono h.vv),a.cX h.cX⟩
theorem dU.make(h:dU V O w bm bo bj)(o:Obj):dU V O w (λx=>bm x\/x=bj.heap.size) (λx=>bo x\/x=bj.heap.size) (bj.alloc o):=
 h.tn ⟨λ_=>.inl,λx a=>a.imp id λe=>⟨.inr e,zz⟩,λ_=>.inl,λx a=>a.imp id λe=>⟨.inr e,zz⟩,gS h.cX o,λx a=>by
  rw[aa];rcases a with a|rfl
  .have:=h.cX x a;omega
  .omega⟩
theorem dU.set(h:dU V O w bm bo bj){g i:Nat}(c:w.heap.size<=g)(b:∀x,V x->x<w.heap.size)(v:M):dU V O w bm bo (bj.setCell (g,i) v):=
 ⟨h.vv,h.vo,h.oo,h.ov,h.rely.tn (nB (λa=>by have:=b g a;omega) _),λx a=>by simpa[H.setCell]using h.cX x a⟩
def dU.all(h:dU V O w bm bo bj)(c:∀x,V x↔O x):∀x,bm x↔bo x:=λx=>
 ⟨λb=>(h.vo x b).elim (λa=>h.oo x ((c x).1 a)) (·.1),λb=>(h.ov x b).elim (λa=>h.vv x ((c x).2 a)) (·.1)⟩
end Go.Proofs.YtfcgpihkimpkcaaGreatDoor
open Go in
open Go.Proofs.YtfcgpihkimpkcaaGreatDoor in
open Go.RowKit Go.Co Go.Conc in
variable{b:Kf} in
variable{o:Kp} in
def Go.Co.ir.bH{P:Ps}{T:gq}{N:Nat}{V0 O0:Nat->Prop}{w0 w:Cl}{ρ0 Z:Ren}{W:Cl}{V O:Nat->Prop}(h:ir T P N V0 O0 w0 ρ0 Z W w V O):dU V0 O0 w0 V O w:=
 ⟨λx hx=>(h.hV x).2 (.inl hx),λx hx=>((h.hV x).1 hx).imp id λc=>c.2,λx hx=>(h.hO x).2 (.inl hx),λx hx=>((h.hO x).1 hx).imp id λc=>⟨c.1,c.2.2⟩,⟨h.tape,h.os,h.output,h.size,h.keep⟩,h.vb⟩
namespace Go.Proofs.YtfcgpihkimpkcaaGreatDoor
open Go.RowKit Go.Co Go.Conc
variable{w:H}{v:M}{xs:List Int}{V:Nat->Prop}
variable{O bm bo:Nat->Prop}{bj dv:H}{g i n d:Nat}{main:Bool}{Stop:(Nat->Prop)->(Nat->Prop)->QP->H->Prop}{b:Kf}{k:List Item}{cs:List Kf}{ops:Array Kp}{rest:List Nat}{o:Kp}{f:Nat->M}{e0:Lk}
theorem Ml{b:aC}(h:∀i x,(wE b)[i]?=Y x->w.cell? ⟨g,i,I⟩=Y x):
  (Instr.loadAt 31 (.pointer (Y ⟨g,0,I⟩))).run F w=.ok b.v w/\∀e∈(Instr.loadAt 31 (.pointer (Y ⟨g,0,I⟩))).events F w #[],∃i,e=⟨.cell ⟨g,i,I⟩,false,false⟩:=by
 have c:w.cell? ⟨g,0,I⟩=Y (.int .i64 b.S):=h 0 _ rfl;have d:w.cell? ⟨g,1,I⟩=Y (.int .i64 b.D):=h 1 _ rfl;have l:w.cell? ⟨g,2,I⟩=Y (.int .i64 b.L):=h 2 _ rfl;have m:w.cell? ⟨g,3,I⟩=Y (.int .i64 b.lo):=h 3 _ rfl;have n:w.cell? ⟨g,4,I⟩=Y (.int .i64 b.hi):=h 4 _ rfl;have o:w.cell? ⟨g,5,I⟩=Y (.slice b.C.A b.C.n b.C.c):=h 5 _ rfl;have p:w.cell? ⟨g,6,I⟩=Y (.int .i64 b.rf):=h 6 _ rfl;have q:w.cell? ⟨g,7,I⟩=Y (.int .i64 b.rh):=h 7 _ rfl;have r:w.cell? ⟨g,8,I⟩=Y (.int .i64 b.cf):=h 8 _ rfl;have s:w.cell? ⟨g,9,I⟩=Y (.int .i64 b.ch):=h 9 _ rfl;have f:w.cell? ⟨g,10,I⟩=Y (.slice b.U.A b.U.n b.U.c):=h 10 _ rfl;have j:w.cell? ⟨g,11,I⟩=Y (.slice b.E.A b.E.n b.E.c):=h 11 _ rfl;have k:w.cell? ⟨g,12,I⟩=Y (.slice b.W.A b.W.n b.W.c):=h 12 _ rfl;refine⟨by unfold aC.v;go_simp,λe a=>?_⟩;simp[go_sem,c,d,l,m,n,o,p,q,r,s,f,j,k]at a
 first
  | (rcases a with rfl|rfl|rfl|rfl|rfl|rfl|rfl|rfl|rfl|rfl|rfl|rfl|rfl<;>exact⟨_,rfl⟩)
def WalkE.dV{x:ae}{bk:aC}(h:∀i x,(wE bk)[i]?=Y x->w.cell? ⟨g,i,I⟩=Y x)(l:V g)(s:ops[i]?=Y o)(u:o.op=.load 31 x)(y:(fa n f).eval x=.pointer (Y ⟨g,0,I⟩))(q:o.dst=Y d)(m:d<n)(r:o.guard=I)(hk:b.kind≠.early)
  (next:WalkE F main Stop V O (G (b.at (fa n (ah f d bk.v)) (.inRegion ops rest::k)) cs) w):WalkE F main Stop V O (G (b.at (fa n f) (.inRegion ops (i::rest)::k)) cs) w:=by
 have å:=0;exact Z1
def WalkE.U7{fn:ba}{args:Array M}{v:M}{R:H->Prop}(a:ops[i]?=Y o)(q:o.dst=Y d)(p:d<n)(t:o.guard=I)(hk:b.kind≠.early)
  (x:∀bj,(Hn (fa n f).eval o).run F bj=.ok (.enter fn args) bj)(r:∀bj,(Hn (fa n f).eval o).events F bj #[]= #[])
  (hB:Base TA V w e0)(l:∀b,V b->b<w.heap.size)(s:TA.has fn=true)(y:TA.ret fn=.val)(j:KR (TA.kind fn) (gr hB) args args)(m:∀A,PH F fn args (tp (gw TA V e0 w) A w.drawn) λe W=>e=.returned v/\R W)(z:eR v)
  (next:∀bj bm bo,dU V O w bm bo bj->WalkE F main Stop bm bo (G (b.at (fa n (ah f d v)) (.inRegion ops rest::k)) cs) bj):WalkE F main Stop V O (G (b.at (fa n f) (.inRegion ops (i::rest)::k)) cs) w:=by
 refine WalkE.enter a (bY t) hk x r ?_;refine IV (T:=TA) (hB:=hB) (I1 .skip) s l j m (λe W h=>⟨v,h.1⟩) (λZ C B v' bj bm bo u c g=>?_);obtain⟨e1,-⟩:=u;cases e1;rw[y]at c;obtain rfl:=z Z v' c;rw[Kf.finish_at];rw[show(ops[i]?).bind (·.dst)=Y d by rw[a];exact q,cw p];exact next bj bm bo g.bH
variable{b:aC}{l:bN}
def jy{κ:Nat->Kd}{Z:Ren}{v:M}(h:dM Z (κ 0) v v):KR κ Z #[v] #[v]:=by
 refine⟨rfl,λi x y a b=>?_⟩;have hi:i<1:=(du.1 a).1;obtain rfl:i=0:=zz;cases a;cases b;exact h
def aX:Ly:=match Tryz.f41.body with|some c=>c|_=>.skip
def Pk:Array Kp:=match aX with|.seq (.region _ ops _) _=>ops|_=> #[]
def Pm:Array Kp:=match aX with|.seq _ (.seq (.seq (.region _ ops _) _) _)=>ops|_=> #[]
def Pn:Array Kp:=match aX with|.seq _ (.seq (.seq _ (.seq (.region _ ops _) _)) _)=>ops|_=> #[]
def Zt:Ly:=match aX with|.seq _ (.seq (.seq _ (.seq _ (.cond _ c _))) _)=>c|_=>.skip
def EC:Array Kp:=match aX with|.seq _ (.seq _ (.seq (.seq (.region _ ops _) _) _))=>ops|_=> #[]
def Zu:Ly:=match aX with|.seq _ (.seq _ (.seq (.seq _ (.cond _ c _)) _))=>c|_=>.skip
def vT:Array Kp:=match aX with|.seq _ (.seq _ (.seq _ (.seq (.region _ ops _) _)))=>ops|_=> #[]
def cK:Ly:=match aX with|.seq _ (.seq _ (.seq _ (.seq _ r)))=>r|_=>.skip
def Mm:aX=.seq (.region 0 Pk false) (.seq (.seq (.region 1 Pm false) (.seq (.region 2 Pn false) (.cond (.tmp 14) Zt .skip))) (.seq (.seq (.region 4 EC false) (.cond (.tmp 18) Zu .skip)) (.seq (.region 6 vT false) cK))):=rfl
def Ht(v:M):Nat->M:=λi=>if i=0 then v else D
theorem S4(v:M):Kf.enter F 41 #[v] .normal=(bs .normal 41).at (fa 50 (Ht v)) [.code aX]:=by
 rw[enter_at (c:=aX) #[v] Tryz.func41 rfl];have: #[v]++Array.replicate (Tryz.f41.ntmps-#[v].size) D=(Array.range 50).map (Ht v):=by
  have e:=iu (A:= #[v]) (k:=49) (n:=50) rfl;refine Eq.tn ?_ (e.tn ?_)
  .rfl
  .refine eh (λg=>(Array.range 50).map g) (funext λi=>?_);unfold Ht;by_cases h:i=0
   .subst h;rfl
   .rw[cd h,Array.getD_eq_getD_getElem?,Array.getElem?_eq_none (by show 1<=i;omega)];rfl
 rw[this];rfl
def gC(i:Nat):M:=if i=2 then .slice I 0 0 else if i=3 then .int .i64 0 else D
def RG(f:Nat->M):Prop:=∀i,i=2\/i=3\/i=10\/(42<=i/\i<50)->f i=gC i
def RG.set{f:Nat->M}(h:RG f){d:Nat}(v:M)(a:d≠2/\d≠3/\d≠10/\d<42):RG (ah f d v):=λi hi=>nt (h i hi)
def XC(V O:Nat->Prop)(w:H)(cs:List Kf)(b:aC)(V' a:Nat->Prop)(g':QP)(w':H):Prop:=
 ∃f g,g'=G ((bs .normal 41).at (fa 50 f) [.inRegion vT [0,1,2],.code cK]) cs/\f 1=(g,0)/\RG f/\V' g/\w'.heap[g]?=Y (aE b 31)/\dU V O w V' a w'
def uY(h:w.heap[g]?=Y (aE b 31)):∀i x,(wE b)[i]?=Y x->w.cell? ⟨g,i,I⟩=Y x:=λi x a=>by
 unfold H.cell?;dsimp only;rw[h];exact a
def yL{T:gq}(c:cy T V w b l)(a:V g)(h:w.heap[g]?=Y (aE b 31)):bV T V w g 13:=
 ⟨a,wE b,31,(0,0),h,dj _,λj v _ d=>rj c v (il d)⟩
theorem Hu{V O:Nat->Prop}{e0:Lk}{cs:List Kf}(hB:Base TA V w e0)(b7:∀x,V x->x<w.heap.size)
  (a4:cy TA V w b l)(b5:dJ TA V w)(a6:ay b l=0)(b':lK b l b.D.toNat=false):
  WalkE F true (XC V O w cs b) V O (G (Kf.enter F 41 #[b.v] .normal) cs) w:=by
 rw[S4,Mm];refine WalkE.seq (WalkE.reg (l:=[0,1,2]) rfl ?_);have a0:(fa 50 (Ht b.v)).eval (.tmp 0)=b.v:=fe zz;refine WalkE.oa (d:=1) (aE b 31) (λn=>.pointer (Y ⟨n,0,I⟩)) rfl rfl zz rfl sb (λbj o=>?_) (λbj o=>?_) (λbj b9=>?_)
 .simp only[Pk,aX,Tryz.f41,zE,Hn,a0];unfold aC.v aE;go_simp
 .intro e c;simp only[Pk,aX,Tryz.f41,zE,Hn,a0]at c;unfold aC.v at c;simp[go_sem]at c
 have g1:dU V O w V O bj:=(dU.refl b7).step b9;have a:=g1.make (aE b 31);obtain⟨g,a9⟩:∃g,bj.heap.size=g:=⟨_,rfl⟩;have y:(bj.alloc (aE b 31)).heap[g]?=Y (aE b 31):=by rw[<- a9];exact Sp _ _
 rw[a9]at a|-;obtain⟨p,b0⟩:∃p,bj.alloc (aE b 31)=p:=⟨_,rfl⟩;rw[b0]at a y|-;have a1:=a4.mono a.vv a.rely.keep;have b3:Base TA _ p e0:=hB.mono a.vv a.rely.keep;have b6:=b5.rely a.vv a.rely;have a7:=uY y;have a8:=yL a1 (.inr rfl) y;have k1:Ht b.v 1=D:=rfl;obtain⟨k,s⟩:∃k,ah (Ht b.v) 1 (.pointer (Y ⟨g,0,I⟩))=k:=⟨_,rfl⟩;have e1:k 1=.pointer (Y ⟨g,0,I⟩):=by rw[<- s];exact au _ _ _
 have a3:∀i,2<=i->k i=D:=λi hi=>by rw[<- s,nf];unfold Ht;rw[cd zz]
 rw[s];clear s k1;refine WalkE.gR (d:=2) (.slice I 0 0) rfl (.inr rfl) rfl rfl zz rfl sb ?_;refine WalkE.gR (d:=3) (.int .i64 0) rfl (.inr rfl) rfl rfl zz rfl sb ?_;obtain⟨f,u⟩:∃f,ah (ah k 2 (.slice I 0 0)) 3 (.int .i64 0)=f:=⟨_,rfl⟩;have P:f 1=.pointer (Y ⟨g,0,I⟩):=by rw[<- u,nf,nf];exact e1
 have K2:RG f:=λi hi=>by
  rw[<- u];unfold gC;by_cases h3:i=3
  .subst h3;exact au _ _ _
  .rw[cu _ _ h3];by_cases h2:i=2
   .subst h2;exact au _ _ _
   .rw[cu _ _ h2,cd h2,cd h3];exact a3 i zz
 rw[u];clear u e1 a3;refine WalkE.aT (WalkE.seq (WalkE.seq (WalkE.reg (l:=[0,1,2]) rfl ?_)));refine WalkE.dV (d:=11) a7 a8.1 rfl rfl (ft P) rfl zz rfl sb ?_;have Q:ah f 11 b.v 1=_:=nt P;have B:=K2.set (d:=11) b.v zz;have q:(fa 50 (ah f 11 b.v)).eval (.tmp 11)=b.v:=ft (au _ _ _);generalize ah f 11 b.v=f3 at Q B q|-;refine WalkE.U7 (d:=12) (fn:=13) (args:= #[b.v]) (v:=.int .i64 (ay b l)) (R:=λ_=>True) rfl rfl zz rfl sb (λbj=>?_) (λbj=>?_) b3 a.cX rfl rfl (jy (by exact dD a1)) (λA=>(cG b l _ (a1.gw A p.drawn) (b6.gw A p.drawn)).mono λe W h=>⟨h.1,db⟩) (aG _ _) (λz V3 O3 m=>?_)
 .simp only[Pm,aX,Tryz.f41,zE,Hn,ab,zM,q];rfl
 .simp only[Pm,aX,Tryz.f41,zE,Hn,ab,zM,q];rfl
 rw[a6];have j:=a.tn m;have S:ah f3 12 (.int .i64 0) 1=_:=nt Q;have C:=B.set (d:=12) (.int .i64 0) zz;have K:ah f3 12 (.int .i64 0) 12=.int .i64 0:=au _ _ _;generalize ah f3 12 (.int .i64 0)=f4 at S C K|-;clear P K2 Q B q a0;refine WalkE.gR (d:=4) (.int .i64 0) rfl (.inr rfl) (ft K) rfl zz rfl sb ?_;have T:ah f4 4 (.int .i64 0) 1=_:=nt S;have E:=C.set (d:=4) (.int .i64 0) zz;have N:ah f4 4 (.int .i64 0) 4=.int .i64 0:=au _ _ _;generalize ah f4 4 (.int .i64 0)=f5 at T E N|-;refine WalkE.aT (WalkE.seq (WalkE.reg (l:=[0,1]) rfl ?_));refine WalkE.gR (d:=13) (.int .i64 0) rfl (.inl rfl) (ft N) rfl zz rfl sb ?_;have U:ah f5 13 (.int .i64 0) 1=_:=nt T;have J:=E.set (d:=13) (.int .i64 0) zz;have r:(fa 50 (ah f5 13 (.int .i64 0))).eval (.tmp 13)=.int .i64 0:=ft (au _ _ _);generalize ah f5 13 (.int .i64 0)=f6 at U J r|-;clear S C K T E N;refine WalkE.jh (d:=14) (.bool false) rfl rfl zz rfl sb (λbj o=>?_) (λbj o=>?_) ?_
 .simp only[Pn,aX,Tryz.f41,zE,Hn,ab,zM,r];go_simp
 .intro e c;simp only[Pn,aX,Tryz.f41,zE,Hn,ab,zM,r]at c;simp[go_sem]at c
 have Z:ah f6 14 (.bool false) 1=_:=nt U;have K7:=J.set (d:=14) (.bool false) zz;refine WalkE.aT (WalkE.cond (t:=false) (ft (au _ _ _)) (WalkE.skip ?_));generalize ah f6 14 (.bool false)=f7 at Z K7|-;clear U J r;have a5:=a4.mono j.vv j.rely.keep;have b4:Base TA _ z e0:=hB.mono j.vv j.rely.keep;have a2:bV TA V3 z g 13:=a8.mono m.vv m.rely.keep;have b8:∀i x,(wE b)[i]?=Y x->z.cell? ⟨g,i,I⟩=Y x:=λi x c1=>bu m.rely (.inr rfl) (a7 i x c1);refine WalkE.seq (WalkE.seq (WalkE.reg (l:=[0,1,2]) rfl ?_));refine WalkE.dV (d:=16) b8 a2.1 rfl rfl (ft Z) rfl zz rfl sb ?_;have e8:ah f7 16 b.v 1=_:=nt Z;have K8:=K7.set (d:=16) b.v zz;have S1:(fa 50 (ah f7 16 b.v)).eval (.tmp 16)=b.v:=ft (au _ _ _);generalize ah f7 16 b.v=f8 at e8 K8 S1|-;refine WalkE.jh (d:=17) b.v rfl rfl zz rfl sb (λbj o=>?_) (λbj o=>?_) ?_
 .simp only[EC,aX,Tryz.f41,zE,Hn,ab,zM,S1];unfold aC.v;go_simp
 .intro e c;simp only[EC,aX,Tryz.f41,zE,Hn,ab,zM,S1]at c;unfold aC.v at c;simp[go_sem]at c
 have e9:ah f8 17 b.v 1=_:=nt e8;have K9:=K8.set (d:=17) b.v zz;have L:(fa 50 (ah f8 17 b.v)).eval (.tmp 17)=b.v:=ft (au _ _ _);generalize ah f8 17 b.v=f9 at e9 K9 L|-;refine WalkE.U7 (d:=18) (fn:=80) (args:= #[b.v]) (v:=.bool (lK b l b.D.toNat)) (R:=λ_=>True) rfl rfl zz rfl sb (λbj=>?_) (λbj=>?_) b4 j.cX rfl rfl (jy (by exact dD a5)) (λA=>(xU b l a6 _ (a5.gw A z.drawn)).mono λe W h=>⟨h.1,db⟩) (dQ _) (λw5 V5 O5 g5=>?_)
 .simp only[EC,aX,Tryz.f41,zE,Hn,ab,zM,L];rfl
 .simp only[EC,aX,Tryz.f41,zE,Hn,ab,zM,L];rfl
 rw[b'];have b2:ah f9 18 (.bool false) 1=_:=nt e9;have b1:=K9.set (d:=18) (.bool false) zz;refine WalkE.aT (WalkE.cond (t:=false) (ft (au _ _ _)) (WalkE.skip (WalkE.seq (WalkE.reg (l:=[0,1,2]) rfl ?_))));have g6:=j.tn g5;exact WalkE.stop λw6 a'=>⟨_,g,rfl,b2,b1,g5.vv _ a2.1,((g5.step a').rely.keep g a2.1).tn ((m.rely.keep g (.inr rfl)).tn y),g6.step a'⟩
section
open Go.ConcN (upd upd_same upd_ne)
def qE:Array Kp:=match cK with|.seq (.region _ ops _) _=>ops|_=> #[]
def cL:Ly:=match cK with|.seq _ r=>r|_=>.skip
def yM:Array Kp:=match cL with|.seq (.seq (.region _ ops _) _) _=>ops|_=> #[]
def dB:Ly:=match cL with|.seq (.seq _ (.block _ (.loop c))) _=>c|_=>.skip
def dH:Ly:=match cL with|.seq _ r=>r|_=>.skip
def yN:Array Kp:=match dB with|.seq (.region _ ops _) _=>ops|_=> #[]
def tq:Array Kp:=match dB with|.seq _ (.seq _ (.seq (.block _ (.seq (.region _ ops _) _)) _))=>ops|_=> #[]
def iV:Array Kp:=match dB with|.seq _ (.seq _ (.seq (.block _ (.seq _ (.seq (.region _ ops _) _))) _))=>ops|_=> #[]
def iD:Array Kp:=match dB with|.seq _ (.seq _ (.seq (.block _ (.seq _ (.seq _ (.region _ ops _)))) _))=>ops|_=> #[]
def o8:Array Kp:=match dB with|.seq _ (.seq _ (.seq _ (.region _ ops _)))=>ops|_=> #[]
def Po:cK=.seq (.region 7 qE false) cL:=rfl
def Pp:cL=.seq (.seq (.region 8 yM false) (.block 0 (.loop dB))) dH:=rfl
def ED:dB=.seq (.region 9 yN false) (.seq (.cond (.tmp 25) .skip (.exit 0)) (.seq (.block 1 (.seq (.region 10 tq false) (.seq (.region 11 iV false) (.region 12 iD false)))) (.region 13 o8 false))):=rfl
def U8(w:H):(Instr.makeChan 133 (.int .i64 0)).run F w=.ok (.chan (Y w)) (w.alloc (.chan 0 #[] false 0 0 false)):=by
 have ø:=0;exact xaD
def Xc(w:H)(es:Array Event):(Instr.makeChan 133 (.int .i64 0)).events F w es=es:=xaD
def XD(V O:Nat->Prop)(w:H)(cs:List Kf)(b:aC)(V' a:Nat->Prop)(g':QP)(w':H):Prop:=
 ∃f g gc C,g'=G ((bs .normal 41).at (fa 50 f) [.inRegion qE [0],.code cL]) cs/\f 1=(g,0)/\f 5=(gc,0)/\RG f/\V' g/\w'.heap[g]?=Y (aE b 31)/\
  V' gc/\w' (gc,0)=Y (.chan (Y C))/\V' C/\a C/\w'.heap[C]?=Y (.chan 0 #[] false 0 0 false)/\w.heap.size<=C/\gc≠C/\g≠C/\dU V O w V' a w'
theorem Hv{V O:Nat->Prop}{w:H}{e0:Lk}{b:aC}{l:bN}{cs:List Kf}(hB:Base TA V w e0)(a1:∀x,V x->x<w.heap.size)
  (a8:cy TA V w b l)(a5:dJ TA V w)(N:ay b l=0)(b2:lK b l b.D.toNat=false):
  WalkE F true (XD V O w cs b) V O (G (Kf.enter F 41 #[b.v] .normal) cs) w:=by
 refine(Hu hB a1 a8 a5 N b2).bind λo O1 g1 w1 r=>?_;obtain⟨f,g,rfl,f1,a6,t,a9,m⟩:=r;refine WalkE.oa (d:=19) (.chan 0 #[] false 0 0 false) (λn=>.chan (Y n)) rfl rfl zz rfl sb (λbj c=>?_) (λbj c=>?_) (λB j=>?_)
 .simp only[vT,aX,Tryz.f41,zE,Hn];have e:(fa 50 f).eval (.const (.int .i64 0))=.int .i64 0:=rfl;simp[e,U8 bj]
 .intro e a;exfalso;simp only[vT,aX,Tryz.f41,zE,Hn]at a;have e:(fa 50 f).eval (.const (.int .i64 0))=.int .i64 0:=rfl;simp[e,U8 bj,Xc bj]at a
 have k:=(m.step j).make (.chan 0 #[] false 0 0 false);obtain⟨C,s⟩:∃C,B.heap.size=C:=⟨_,rfl⟩;have a2:(B.alloc (.chan 0 #[] false 0 0 false)).heap[C]?=Y (.chan 0 #[] false 0 0 false):=by rw[<- s];exact Sp _ _
 have b6:g<C:=by rw[<- s];exact j.cX m.cX g t
 have a4:w.heap.size<=C:=by rw[<- s];exact ec m.rely.size j.size
 have Q:aH o w1 (B.alloc (.chan 0 #[] false 0 0 false)):=j.tn (gS (j.cX m.cX) _);rw[s]at k|-;generalize(B.alloc (.chan 0 #[] false 0 0 false))=w3 at k a2 Q|-;have W:=a6.set (d:=19) (.chan (Y C)) zz;have e1:ah f 19 (.chan (Y C)) 1=_:=nt f1;have U:ah f 19 (.chan (Y C)) 19=_:=au _ _ _;generalize ah f 19 (.chan (Y C))=q at W e1 U|-;refine WalkE.oa (d:=5) (.cells #[.chan I] 133) (λn=>.pointer (Y ⟨n,0,I⟩)) rfl rfl zz rfl sb (λbj c=>?_) (λbj c=>?_) (λE v=>?_)
 .simp only[vT,aX,Tryz.f41,zE,Hn];go_simp
 .intro e a;simp only[vT,aX,Tryz.f41,zE,Hn]at a;simp[go_sem]at a
 have K:=(k.step v).make (.cells #[.chan I] 133);obtain⟨gc,P⟩:∃gc,E.heap.size=gc:=⟨_,rfl⟩;have u:(E.alloc (.cells #[.chan I] 133)).heap[gc]?=Y (.cells #[.chan I] 133 (0,0)):=by rw[<- P];exact Sp _ _
 have b5:C<gc:=by rw[<- P];exact v.cX k.cX C (.inr rfl)
 have y:aH (λx=>o x\/x=C) w3 (E.alloc (.cells #[.chan I] 133)):=v.tn (gS (v.cX k.cX) _);rw[P]at K|-;generalize(E.alloc (.cells #[.chan I] 133))=w5 at K u y|-;have Z:=W.set (d:=5) (.pointer (Y ⟨gc,0,I⟩)) zz;have r:ah q 5 (.pointer (Y (gc,0))) 1=_:=nt e1;have h19:ah q 5 (.pointer (Y (gc,0))) 19=_:=nt U;have L:ah q 5 (.pointer (Y (gc,0))) 5=_:=au _ _ _;generalize ah q 5 (.pointer (Y ⟨gc,0,I⟩))=f3 at Z r h19 L|-;have S:(fa 50 f3).eval (.tmp 5)=_:=ft L;have R:(fa 50 f3).eval (.tmp 19)=_:=ft h19;refine WalkE.xN ⟨gc,0,I⟩ (.chan (Y C)) (.inr rfl) (.inr rfl) rfl rfl rfl sb (λT c=>?_) (λT c=>?_) (λJ z=>?_)
 .have ø:=0;exact xal
 .exact xal
 have a':=z.keep gc (.inr rfl);have g6:=(K.step z).set (g:=gc) (i:=0) (by have:=y.size;omega) a1 (.chan (Y C));have a0:(J.setCell (gc,0) (.chan (Y C))).heap[gc]?=Y (.cells #[.chan (Y C)] 133 (0,0)):=one_setCell (a'.tn u);have a7:¬o gc:=λh=>by have:=m.cX gc h;have:=Q.size;have:=j.size;omega
 have b1:aH o w1 (J.setCell (gc,0) (.chan (Y C))):=Q.tn ((y.mono λx=>.inl).tn ((z.mono λx b3=>.inl (.inl b3)).tn (nB a7 _)));have a3:(J.setCell (gc,0) (.chan (Y C))).heap[C]?=Y (.chan 0 #[] false 0 0 false):=(X.heap_setCell J _ _ C (by show C≠gc;omega)).tn ((z.keep C (.inl (.inr rfl))).tn ((y.keep C (.inr rfl)).tn a2));refine WalkE.aT ?_;rw[Po];refine WalkE.seq (WalkE.reg (l:=[0]) rfl (WalkE.stop λw8 A=>⟨f3,g,gc,C,rfl,r,L,Z,.inl (.inl t),(A.keep g (.inl (.inl t))).tn ((b1.keep g t).tn a9),.inr rfl,bu A (.inr rfl) (one_cell a0),.inl (.inr rfl),.inl (.inr rfl),(A.keep C (.inl (.inr rfl))).tn a3,a4,zz,zz,g6.step A⟩))
end
section
open Go.ConcN (upd upd_same upd_ne)
structure Cv(f:Nat->M)(g gc wg m k:Nat):Prop where
 f1:f 1=(g,0)
 f5:f 5=(gc,0)
 f6:f 6=(wg,0)
 f23:f 23=m
 f24:f 24=k
 kp:RG f
def Cv.set{f:Nat->M}{g gc wg m k:Nat}(h:Cv f g gc wg m k){d:Nat}(v:M)(a:d≠1/\d≠2/\d≠3/\d≠5/\d≠6/\d≠10/\d≠23/\d≠24/\d<42):Cv (ah f d v) g gc wg m k:=
 ⟨nt h.f1,nt h.f5,nt h.f6,nt h.f23,nt h.f24,h.kp.set v zz⟩
structure CW(V0:Nat->Prop)(w0:H)(b:aC)(l:bN)(g gc base pd:Nat)(J:Gh)(w:H):Prop where
 md:J.md=.clash
 df:J.df 0=0
 cD:J.cD 0
 bas:J.base=base
 pay:J.pay=rS base b l
 cz:J.cz=I
 pend:J.pend=pd
 ty:J.ty=143
 bkV:J.V 0 g
 bk:w.heap[g]?=Y (aE b 31)
 ch:w (gc,0)=Y (.chan (Y J.C))
 chV:J.V 0 gc
 cX:∀x,J.V 0 x->x<w.heap.size
 co:cy TA (J.V 0) w b l
 b0:∃e0,Base TA (J.V 0) w e0
 old:∀x,V0 x->J.V 0 x
 keep:aH V0 w0 w
section
variable{V0:Nat->Prop}{w0:H}{b:aC}{l:bN}{g gc base pd pd':Nat}{J σ':Gh}{w w':H}
theorem CW.kQ(h:CW V0 w0 b l g gc base pd J w)(d:Jk J σ')(i:σ'.df 0=0)(k:σ'.cD 0)(f:σ'.cz=I)(j:σ'.pend=pd')(a:∀x,J.V 0 x->σ'.V 0 x)(c:aH (J.V 0) w w')(e:∀x,σ'.V 0 x->x<w'.heap.size):CW V0 w0 b l g gc base pd' σ' w':=
 ⟨d.md.tn h.md,i,k,d.base.tn h.bas,d.pay.tn h.pay,f,j,d.ty.tn h.ty,a _ h.bkV,(c.keep _ h.bkV).tn h.bk,by rw[d.C];exact bu c h.chV h.ch,a _ h.chV,e,h.co.mono a c.keep,let⟨e0,x⟩:=h.b0;⟨e0,x.mono a c.keep⟩,λx m=>a x (h.old x m),h.keep.tn (c.mono h.old)⟩
theorem CW.walk(h:CW V0 w0 b l g gc base pd J w)(hk:Fs 0 J σ')(a:∀x,J.V 0 x->σ'.V 0 x)(d:aH (J.V 0) w w')(c:∀x,σ'.V 0 x->x<w'.heap.size):CW V0 w0 b l g gc base pd σ' w':=
 h.kQ hk.SQ (hk.df.tn h.df) (hk.cD.2 h.cD) ((hk.main rfl).2.2.2.tn h.cz) ((hk.main rfl).2.1.tn h.pend) a d c
end
theorem Pq(f:Nat->M){K:List Item}{cs:List Kf}(w:H):
  Lq F true (G ((bs .normal 41).at (fa 50 f) (.inRegion qE [0]::K)) cs) w=.go (G ((bs .normal 41).at (fa 50 (ah f 6 (.pointer (Y (w.heap.size,0))))) (.inRegion qE []::K)) cs) (w.alloc (eG 143 0 0)) #[]:=by
 have b:(Hn (fa 50 f).eval (qE.getD 0 default)).run F w=.ok (.value (.pointer (Y (w.heap.size,0)))) (w.alloc (eG 143 0 0)):=by
  simp only[qE,cK,aX,Tryz.f41,zQ,Hn];unfold eG;go_simp
 have a:(Hn (fa 50 f).eval (qE.getD 0 default)).events F w #[]= #[]:=by
  simp only[qE,cK,aX,Tryz.f41,zQ,Hn];simp[go_sem]
 rw[stepG_value (o:=qE.getD 0 default) rfl rfl sb b,listed_none a];rw[show(fa 50 f).put (qE.getD 0 default).dst (.pointer (Y ⟨w.heap.size,0,I⟩))=fa 50 (ah f 6 (.pointer (Y ⟨w.heap.size,0,I⟩)))from cw zz]
end
section
open Go.ConcN (upd upd_same upd_ne)
def Mn(base:Nat)(b:aC)(l:bN):∀i v w w',(∀b,sB v b->w'.heap[b]?=w.heap[b]?)->rS base b l i v w->rS base b l i v w':=λ_ _ _ _ hk h=>⟨h.1,h.2.keep hk⟩
theorem Zv:OneCell F 29:=λw ad v h=>⟨by go_simp,by simp[go_sem,h]⟩
theorem Hw{V O:Nat->Prop}{w:H}{cs:List Kf}{b:aC}{l:bN}{f:Nat->M}{g gc wg:Nat}(r:f 1=(g,0))(s:f 5=(gc,0))(t:f 6=(wg,0))(u:RG f)(L:∀x,V x->x<w.heap.size)(N:V g)(y:w.heap[g]?=Y (aE b 31))(z:b.W.n=l.W.length)(P:l.W.length<=4):
  WalkE F true (λV' K g' w'=>∃f',g'=G ((bs .normal 41).at (fa 50 f') (.code dB::.inLoop dB::.inBlock 0::[.code dH])) cs/\Cv f' g gc wg (2^l.W.length) 0/\V'=V/\K=O/\aH V w w'/\∀x,V' x->x<w'.heap.size)
   V O (G ((bs .normal 41).at (fa 50 f) [.inRegion qE [],.code cL]) cs) w:=by
 refine WalkE.aT ?_;rw[Pp];refine WalkE.seq (WalkE.seq (WalkE.reg (l:=[0,1,2,3,4]) rfl ?_));have k:(fa 50 f).eval (.tmp 1)=_:=ft r;refine WalkE.jh (d:=20) (.pointer (Y ⟨g,12,I⟩)) rfl rfl zz rfl sb (λc j=>?_) (λc j=>?_) ?_
 .simp only[yM,cL,cK,aX,Tryz.f41,zE,Hn,k];go_simp
 .intro e a;simp only[yM,cL,cK,aX,Tryz.f41,zE,Hn,k]at a;simp[go_sem]at a
 have v:w (g,12)=Y (.slice b.W.A b.W.n b.W.c):=uY y 12 _ rfl;refine WalkE.vC (d:=21) ⟨g,12,I⟩ (.slice b.W.A b.W.n b.W.c) Zv rfl rfl (ft (au _ _ _)) N v rfl zz rfl sb ?_;have a21:(fa 50 (ah (ah f 20 (.pointer (Y (g,12)))) 21 (.slice b.W.A b.W.n b.W.c))).eval (.tmp 21)=_:=ft (au _ _ _);have m:ah (ah f 20 (.pointer (Y (g,12)))) 21 (.slice b.W.A b.W.n b.W.c) 1=_:=nt (nt r);have o:ah (ah f 20 (.pointer (Y (g,12)))) 21 (.slice b.W.A b.W.n b.W.c) 5=_:=nt (nt s);have p:ah (ah f 20 (.pointer (Y (g,12)))) 21 (.slice b.W.A b.W.n b.W.c) 6=_:=nt (nt t);have q:=(u.set (d:=20) (.pointer (Y ⟨g,12,I⟩)) zz).set (d:=21) (.slice b.W.A b.W.n b.W.c) zz;generalize ah (ah f 20 (.pointer (Y ⟨g,12,I⟩))) 21 (.slice b.W.A b.W.n b.W.c)=i at a21 m o p q|-;refine WalkE.jh (d:=22) (.int .i64 b.W.n) rfl rfl zz rfl sb (λc j=>?_) (λc j=>?_) ?_
 .simp only[yM,cL,cK,aX,Tryz.f41,zE,Hn,ab,zM,a21];go_simp
 .intro e a;simp only[yM,cL,cK,aX,Tryz.f41,zE,Hn,ab,zM,a21]at a;simp[go_sem]at a
 have h:(fa 50 (ah i 22 (.int .i64 b.W.n))).eval (.tmp 22)=_:=ft (au _ _ _);have B:ah i 22 (.int .i64 b.W.n) 1=_:=nt m;have C:ah i 22 (.int .i64 b.W.n) 5=_:=nt o;have E:ah i 22 (.int .i64 b.W.n) 6=_:=nt p;have J:=q.set (d:=22) (.int .i64 b.W.n) zz;generalize ah i 22 (.int .i64 b.W.n)=Q at h B C E J|-;rw[z]at h;generalize l.W.length=n at P h|-;clear z v y a21 m o p q r s t u k;refine WalkE.jh (d:=23) (.int .i64 ((2^n:Nat):Int)) rfl rfl zz rfl sb (λc j=>?_) (λc j=>?_) ?_
 .simp only[yM,cL,cK,aX,Tryz.f41,zE,Hn,h];have:n=0\/n=1\/n=2\/n=3\/n=4:=zz;rcases this with rfl|rfl|rfl|rfl|rfl<;>rfl
 .intro e a;exfalso;simp only[yM,cL,cK,aX,Tryz.f41,zE,Hn,h]at a;have:n=0\/n=1\/n=2\/n=3\/n=4:=zz;rcases this with rfl|rfl|rfl|rfl|rfl<;>(simp[go_sem]at a)
 refine WalkE.gR (d:=24) (.int .i64 0) rfl (.inl rfl) rfl rfl zz rfl sb ?_;refine WalkE.aT (WalkE.block (WalkE.loop ?_));refine WalkE.stop λc A=>⟨_,rfl,?_,rfl,rfl,A,A.cX L⟩;exact⟨nt (nt B),nt (nt C),nt (nt E),nt (au _ _ _),au _ _ _,(J.set _ zz).set _ zz⟩
end
section
open Go.ConcN (upd upd_same upd_ne)
def Xd(o:ay b l=0):l.W.length<=4:=xbv
def EE{post:M->H->Prop}{J:Gh}{w:H}{cs:List Kf}(k:Main J w)(y:cy TA (J.V 0) w b l)(hc:ay b l=0)(a8:lK b l b.D.toNat=false)
  (next:∀f σ' w' g gc base,Cv f g gc σ'.Wg (2^l.W.length) 0->CW (J.V 0) w b l g gc base 0 σ' w'->σ'.num=base->σ'.got=[]->aQ fI F post (G ((bs .normal 41).at (fa 50 f) (.code dB::.inLoop dB::.inBlock 0::[.code dH])) cs) σ' w'):
  aQ fI F post (G (Kf.enter F 41 #[b.v] .normal) cs) J w:=by
 have ø:=0;exact ra
end
open Go.Conc.Lib Go.ConcR.Gen
variable{tm:Array M}{J:Gh}
def Xe(tm:Array M):Kf:= { (bs .deferred 82).at ⟨tm,[]⟩ []with mode:=.returning}
def U9(wg:Nat)(tm:Array M):QP:=G ((baseD link.done).at ⟨#[.pointer (Y (wg,0)),D,D,D],[]⟩ [.code (body_done link)]) [Xe tm,fP]
def Zx(wg:Nat)(tm:Array M)(w:H):Lq F false (G { (bs .deferred 82).at ⟨tm,[dw wg]⟩ []with mode:=.returning} [fP]) w=.go (U9 wg tm) w #[]:=by
 have h:=stepG_unwind_enter (P:=F) (main:=false) (b:=bs .deferred 82) (a:=⟨tm,[dw wg]⟩) (w:=w) (todo:=[]) (ds:=[]) (f:=83) (args:= #[.pointer (Y ⟨wg,0,I⟩)]) (cs:=[fP]) (fn:=Tryz.f83) (c:=body_done link) rfl Tryz.func83 kr kr;rw[h];rfl
def Mo{V O:Nat->Prop}{wg:Nat}:WalkE F false (λV' a g' w'=>g'=U9 wg tm/\V'=V/\a=O) V O (G { (bs .deferred 82).at ⟨tm,[dw wg]⟩ []with mode:=.returning} [fP]) w:=
 WalkE.ctl (λw=>Zx wg tm w) (WalkE.stop λ_ _=>⟨rfl,rfl,rfl⟩)
theorem EF(hi:0<i)(f:J.st i=.run)(j:J.df i=0)(l:J.md=.clash)(r:J.ty=143)(q:J.snt i):bZ fI F i (G { (bs .deferred 82).at ⟨tm,[dw J.Wg]⟩ []with mode:=.returning} [fP]) J w:=by
 refine bZ.walk hi Mo (O:=J.O i) (λ_=>dq) (λ_=>dq) (.inl f) (λV' s g' w' σ' p u t hk=>?_);obtain⟨rfl, -,-⟩:=p;have a:σ'.st i=.run:=hk.st.tn f;have o:QE F 0 (G (Xe tm) [fP]):=⟨2,QuitsD.ctl rfl (λw=>uS rfl rfl Tryz.func82 rfl w) yB⟩;have d:=Zw (P:=F) (post:=λ_ _=>True) (i:=i) (L:=link) (σ0:=σ') (w0:=w') Pr hi (hk.md.tn l) (hk.ty.tn r) (hk.snt.2 q) (pt:= {st:=.run,kn:=σ'.kn i,df:=0,pend:=0}) rfl rfl (c:=Xe tm) (cs:=[fP]) rfl o;rw[hk.Wg]at d;exact sZ.work hi (d σ' w' ⟨Ctx.refl i σ' w',a,rfl,hk.df.tn j,λe=>zz,λg k=>(by cases k),λb h=>(by cases h),λn m=>(by cases m),.inr ⟨zz,by rw[a];simp,λv=>by rw[a];simp⟩⟩)
theorem Hy(hi:0<i){e0:Lk}{b:aC}{l:bN}{g gb gc:Nat}(C:J.st i=.run)(K:J.df i=0)(y:J.md=.clash)(hty:J.ty=143)(L:J.pay=rS J.base b l)(hns:¬J.snt i)
  (hB:Base TA (J.V i) w e0)(T:∀x,J.V i x->x<w.heap.size)(b8:cy TA (J.V i) w b l)(c3:ay b l=0)(b':i-J.base<16)
  (b0:bV TA (J.V i) w g 13)(c1:∀i x,(wE b)[i]?=Y x->w.cell? ⟨g,i,I⟩=Y x)(c4:bV TA (J.V i) w gb 1)(b9:w.cell? ⟨gb,0,I⟩=Y (.int .i64 ((i-J.base:Nat):Int)))(W:J.V i gc)(U:w.cell? ⟨gc,0,I⟩=Y (.chan (Y J.C))):
  bZ fI F i (G (yJ J.Wg g gb gc) []) J w:=by
 refine bZ.walk hi (Ex (wg:=J.Wg) hB T b8 c3 b' b0 c1 c4 b9 W U) (O:=J.O i) (λ_=>dq) (λ_=>dq) (.inl C) (λV' O' g' w' σ' a1 a9 b5 hk=>?_);have E:σ'.st i=.run:=hk.st.tn C;have d4:σ'.Wg=J.Wg:=hk.Wg;obtain⟨c7,⟨c5,tm,rfl⟩|⟨hz,f,v,rfl,h41,h5,hrw,hpub⟩⟩:=a1
 .refine bZ.stepT hi (.inl E) (λσ1 bj q c2=>⟨_,_,bj, #[],σ1.V i,σ1.O i,stepG_end,jV bj,λt s=>?_⟩);rw[nT]at s|-;have j:=hk.tn q.kin;have A:σ1.st i=.run:=q.kin.st.tn E;have a0:=s.free (i:=i) A (λv w b1=>by
   rw[j.pay,L]at b1;have:=b1.1;rw[c5]at this;cases this)
  refine⟨freed σ1 i,a0.1,a0.2,by show¬σ1.st i=.quit;rw[A];simp,?_⟩;have b6:(freed σ1 i).Wg=J.Wg:=j.Wg;rw[<- b6];exact EF hi A (j.df.tn K) (j.md.tn y) (j.ty.tn hty) (by show Go.ConcN.upd σ1.snt i True i;rw[Go.ConcN.upd_same];trivial)
 .have ø:=0;exact xf
variable{gc:Nat}
def tu:Ly:=match Tryz.f84.body with|some c=>c|_=>.skip
def uZ(wg gc:Nat):Array M:= #[.pointer (Y (wg,0)),.pointer (Y (gc,0))]
def call72(wg gc:Nat):Deferred:= {target:=.fn (.func 84) (uZ wg gc),args:= #[]}
def yO(wg gc:Nat):Kf:= { (default:Kf)with fn:=F.funcs.size,defers:=[call72 wg gc],mode:=.panicking [goexitEntry]}
def BY(wg gc:Nat):Nat->M:=λi=>(uZ wg gc).getD i D
def EG(wg gc:Nat)(w:H):Lq F false (G (yO wg gc) []) w=.go (G ((bs .deferred 84).at (fa 4 (BY wg gc)) [.code tu]) [fP]) w #[]:=by
 have e:=iu (A:=uZ wg gc) (k:=2) (n:=4) rfl;simp[yO,call72,Lq,unwind,callDeferred,invoke,callFunc,Tryz.func84,Tryz.f84,seen,GStep.after,G,Kf.enter,Kf.at,fP,tu,bs,fa,BY];exact e
def Ab:Array Kp:=match tu with|.seq (.region _ ops _) _=>ops|_=> #[]
def EH:Array Kp:=match tu with|.seq _ (.region _ ops _)=>ops|_=> #[]
def Mq:tu=.seq (.region 0 Ab false) (.region 1 EH false):=rfl
def Zz(wg gc:Nat):QP:=G ((base link.wait).at ⟨#[.pointer (Y (wg,0))]++Array.replicate 83 D,[]⟩ [.code (body_wait link)]) [(bs .deferred 84).at (fa 4 (BY wg gc)) [.inRegion Ab [0],.code (.region 1 EH false)],fP]
def S8(v:M):Kf.enter F 85 #[v] .normal=(base link.wait).at ⟨#[v]++Array.replicate 83 D,[]⟩ [.code (body_wait link)]:=by
 rw[enter_at (c:=body_wait link) #[v] Tryz.func85 kr];rfl
def Mr{wg gc:Nat}:WalkE F false (λV' a g' w'=>g'=Zz wg gc/\V'=V/\a=O/\aH V w w') V O (G (yO wg gc) []) w:=by
 refine WalkE.ctl (λw=>EG wg gc w) ?_;rw[Mq];refine WalkE.seq (WalkE.reg (l:=[0]) rfl ?_);have a0:(fa 4 (BY wg gc)).eval (.tmp 0)=.pointer (Y (wg,0)):=fe zz;refine WalkE.enter (f:=85) (args:= #[.pointer (Y ⟨wg,0,I⟩)]) (o:=Ab.getD 0 default) rfl wnn sb (λbj=>?_) (λbj=>?_) ?_
 .simp only[Ab,tu,Tryz.f84,zQ,Hn,ab,zM,a0];rfl
 .simp only[Ab,tu,Tryz.f84,zQ,Hn,ab,zM,a0];rfl
 .rw[S8];exact WalkE.stop λ_ b=>⟨rfl,rfl,rfl,b⟩
def Hz{f:Nat->M}{gc C:Nat}(a:f 1=(gc,0))(c:V gc)(b:w (gc,0)=Y (.chan (Y C))):
  WalkE F false (λV' e g' w'=>∃f',f' 3=.chan (Y C)/\g'=G ((bs .deferred 84).at (fa 4 f') [.inRegion EH [1]]) [fP]) V O (G ((bs .deferred 84).at (fa 4 f) [.inRegion Ab [],.code (.region 1 EH false)]) [fP]) w:=by
 refine WalkE.aT (WalkE.reg (l:=[0,1]) rfl ?_);refine WalkE.vC (d:=3) ⟨gc,0,I⟩ (.chan (Y C)) BR rfl rfl (ft a) c b rfl zz rfl sb ?_;exact WalkE.stop λ_ _=>⟨_,au _ _ _,rfl⟩
theorem HI{i:Nat}(hi:0<i){J:Gh}(c:J.st i=.wait)(R:J.kn i=.no)(K:J.df i=0)(Z:J.cD i)(d:J.cz=Y i)(a1:¬fV J.gw)(S:J.md=.clash)(a2:J.ty=143)
  (j:J.V i gc)(B:w (gc,0)=Y (.chan (Y J.C))):bZ fI F i (G (yO J.Wg gc) []) J w:=by
 refine bZ.walk hi (Mr (wg:=J.Wg) (gc:=gc)) (O:=J.O i) (λ_=>dq) (λ_=>dq) (.inr (.inl c)) (λV' O' g' w' σ' V y a4 hk=>?_);obtain⟨rfl,e1, -, U⟩:=V;have k:∀x,σ'.V i x↔J.V i x:=λx=>(y x).tn (by rw[e1]);have r:σ'.C=J.C:=hk.C;have l:σ'.md=.clash:=hk.md.tn S;have E:w' (gc,0)=Y (.chan (Y σ'.C)):=by rw[r];exact bu U j B
 have u:SW F (λ_ _=>True) i (gO i σ' w' {st:=.done,kn:=.no,df:=0,pend:=0}) (G ((bs .deferred 84).at ((fa 4 (BY J.Wg gc)).put ((Ab[0]?).bind (·.dst)) (.tuple #[])) (.inRegion Ab []::[.code (.region 1 EH false)])) [fP]):=by
  intro σ2 a3 h2;rw[show(fa 4 (BY J.Wg gc)).put ((Ab[0]?).bind (·.dst)) (.tuple #[])=fa 4 (ah (BY J.Wg gc) 2 (.tuple #[]))from cw zz];refine .inr ⟨hi,?_⟩;refine bZ.walk hi (Hz (gc:=gc) (C:=σ'.C) (f:=ah (BY J.Wg gc) 2 (.tuple #[])) rfl (h2.c.V gc |>.2 ((k gc).2 j)) (bu h2.c.w ((k gc).2 j) E)) (O:=σ2.O i) (λ_=>dq) (λ_=>dq) (.inr (.inr h2.st)) (λV3 O3 g3 w3 p W a6 a5 a=>?_);obtain⟨f3,N,rfl⟩:=W;have t:p.C=σ'.C:=a.C.tn h2.c.C;have q:(fa 4 f3).eval (.tmp 3)=.chan (Y p.C):=ft (by rw[N,t]);refine bZ.close hi (a.md.tn (h2.c.md.tn l)) (a.st.tn h2.st) (a.df.tn h2.df) kr (λbj _ s tm A=>?_) (da:=(bs .deferred 84).at (fa 4 f3) [.inRegion EH []]) (dp:=[fP]) ?_
  .exact stepG_close (x:=.tmp 3) (o:=EH.getD 1 default) (ats:= #[133]) rfl wnn sb rfl q A kr
  .exact⟨4,QuitsD.ctl rfl (λw=>stepG_region_end) (QuitsD.ctl rfl (λw=>stepG_end) (QuitsD.ctl rfl (λw=>uS rfl rfl Tryz.func84 rfl w) yB))⟩
 have m:=Zy (P:=F) (post:=λ_ _=>True) (i:=i) (L:=link) (σ0:=σ') (w0:=w') Pr hi l (hk.ty.tn a2) (hk.free d).1 (hk.cD.2 Z) (b0:=bs .deferred 84) (a0:=fa 4 (BY J.Wg gc)) (fj:=Ab) (i0:=0) (fh:=[]) (k0:=[.code (.region 1 EH false)]) (cs:=[fP]) u;rw[show σ'.Wg=J.Wg from hk.Wg]at m;refine sZ.work hi (m σ' w' ⟨Ctx.refl i σ' w',hk.st.tn c,hk.kn.tn R,hk.df.tn K,λe=>zz,λg Q=>(by cases Q),λb z=>?_,λn T=>(by cases T),.inr ⟨zz,by rw[hk.st,c];simp,λv=>by rw[hk.st,c];simp⟩⟩);obtain rfl:false=b:=jx z;exact⟨(hk.free d).1,(hk.free d).2.2.1.tn ⟨λh=>dC h a1,λh=>by cases h⟩⟩
theorem CW.YP{V0:Nat->Prop}{w0:H}{b:aC}{l:bN}{g gc base pd:Nat}{σ0 J:Gh}{w1 w:H}{pt:Pt}(h:CW V0 w0 b l g gc base pd σ0 w1)(hi:gO 0 σ0 w1 pt J w)(d:pt.df=0):CW V0 w0 b l g gc base pt.pend J w:=by
 have a:∀x,σ0.V 0 x->J.V 0 x:=λx c=>(hi.c.V x).2 c;exact⟨hi.c.md.tn h.md,hi.df.tn d,hi.c.cD.2 h.cD,hi.c.base.tn h.bas,hi.c.pay.tn h.pay,(hi.c.main rfl).2.2.tn h.cz,hi.pend rfl,hi.c.ty.tn h.ty,a _ h.bkV,(hi.c.w.keep _ h.bkV).tn h.bk,by rw[hi.c.C];exact bu hi.c.w h.chV h.ch,a _ h.chV,λx c=>hi.c.w.cX h.cX x ((hi.c.V x).1 c),h.co.mono a hi.c.w.keep,let⟨e0,x⟩:=h.b0;⟨e0,x.mono a hi.c.w.keep⟩,λx c=>a x (h.old x c),h.keep.tn (hi.c.w.mono h.old)⟩
theorem Px{V O:Nat->Prop}{w:H}{cs:List Kf}{K:List Item}{f:Nat->M}{g gc wg m k:Nat}(i:Cv f g gc wg m k)(hk:k<m)(a2:m<=1000)(y:∀x,V x->x<w.heap.size):
  WalkE F true (λV' U g' w'=>∃f' gh,g'=G ((bs .normal 41).at (fa 50 f') (.inRegion iV [0]::.code (.region 12 iD false)::.inBlock 1::.code (.region 13 o8 false)::.inLoop dB::K)) cs/\Cv f' g gc wg m k/\f' 7=.pointer (Y (gh,0))/\
   bV TA V' w' gh 1/\w' (gh,0)=Y (.int .i64 k)/\(∀x,V x->V' x)/\aH V w w'/\∀x,V' x->x<w'.heap.size)
   V O (G ((bs .normal 41).at (fa 50 f) (.code dB::.inLoop dB::K)) cs) w:=by
 have æ:=0;exact pc
variable{wg gh m k:Nat}{K:List Item}
def Ms(J:Gh)(w:H):yu 0 J w J:=⟨rfl,λj _=>⟨λ_ h=>h,λ_=>.refl _ _ _⟩,⟨λ_ _ h=>.inl h,.inl,λ_ _=>dq⟩⟩
def CW.XE{V0:Nat->Prop}{w0:H}{b:aC}{l:bN}{g gc base pd:Nat}{J σ':Gh}{w w':H}(h:CW V0 w0 b l g gc base pd J w)(a:gL 0 J w σ' w'):CW V0 w0 b l g gc base pd σ' w':=
 h.walk a.kin (λx c=>(a.V x).2 c) a.w λx c=>a.w.cX h.cX x ((a.V x).1 c)
def S9(v:M):Kf.enter F 81 #[v,.int .i64 1] .normal=(base link.add).at ⟨#[v,.int .i64 1]++Array.replicate 115 D,[]⟩ [.code (body_add link)]:=by
 rw[enter_at (c:=body_add link) #[v,.int .i64 1] Tryz.func81 kr];rfl
theorem Ta{post:M->H->Prop}(m:f 6=(J.Wg,0))(A:J.md=.clash)(O:J.ty=143)(u:J.df 0=0)(N:J.cD 0)(s:J.cz=I)(C:J.pend=0)(z:J.num<J.base+1999999990)
  (next:∀σ0 w0 kn σ' w',gL 0 J w σ0 w0->gO 0 σ0 w0 {st:=.quit,kn:=kn,df:=0,pend:=1} σ' w'->aQ fI F post (G ((bs .normal 41).at (fa 50 (ah f 27 (.tuple #[]))) (.inRegion iV []::K)) cs) σ' w'):
  aQ fI F post (G ((bs .normal 41).at (fa 50 f) (.inRegion iV [0]::K)) cs) J w:=by
 have l:(fa 50 f).eval (.tmp 6)=_:=ft m;refine aQ.stepT (λσ1 bj j S=>?_);have E:(Hn (fa 50 f).eval (iV.getD 0 default)).run F bj=.ok (.enter 81 #[.pointer (Y (J.Wg,0)),.int .i64 1]) bj:=by
  exact xbg
 have v:(Hn (fa 50 f).eval (iV.getD 0 default)).events F bj #[]= #[]:=by
  exact xbg
 have e:=stepG_enter (P:=F) (main:=true) (b:=bs .normal 41) (a:=fa 50 f) (k:=K) (cs:=cs) (w:=bj) (ops:=iV) (i:=0) (rest:=[]) (o:=iV.getD 0 default) rfl wnn sb E;rw[listed_none v,S9]at e;refine⟨_,_,bj, #[],σ1.V 0,σ1.O 0,e,jV bj,λt c=>?_⟩;rw[nT]at c|-;refine⟨σ1,c,Ms σ1 bj,?_⟩;have hk:=j.kin;obtain⟨Q,m2,T,R⟩:=hk.main rfl;have q:σ1.Wg=J.Wg:=hk.Wg;have d:=S7 (P:=F) (post:=post) (L:=link) (σ0:=σ1) (w0:=bj) Pr (hk.md.tn A) (hk.ty.tn O) (by rw[Q,hk.base];exact z) (hk.cD.2 N) (kn:=σ1.kn 0) (b0:=bs .normal 41) (a0:=fa 50 f) (fj:=iV) (i0:=0) (fh:=[]) (k0:=K) (cs:=cs) (λσ' w' y=>by
  rw[show(fa 50 f).put ((iV[0]?).bind (·.dst)) (.tuple #[])=fa 50 (ah f 27 (.tuple #[]))from cw zz];exact .inl ⟨rfl,next σ1 bj _ σ' w' j y⟩)
 rw[q]at d;exact sZ.main (d σ1 bj ⟨Ctx.refl 0 σ1 bj,c.p.st0,rfl,hk.df.tn u,λ_=>m2.tn C,λg x=>(by cases x),λb r=>(by cases r),λn B=>(by cases B),.inl ⟨rfl,R.tn s⟩⟩)
theorem Py(a:Cv f g gc wg m k)(h7:f 7=(gh,0)):
  WalkE F true (λV' i g' w'=>∃f',g'=G ((bs .normal 41).at (fa 50 f') (.inRegion iD [1]::.inBlock 1::.code (.region 13 o8 false)::.inLoop dB::K)) cs/\Cv f' g gc wg m k/\f' 28=.func (.func 82) #[] (uX wg g gh gc)/\V'=V/\i=O/\aH V w w')
   V O (G ((bs .normal 41).at (fa 50 f) (.inRegion iV []::.code (.region 12 iD false)::.inBlock 1::.code (.region 13 o8 false)::.inLoop dB::K)) cs) w:=by
 have ø:=0;exact xaa
def Tb(c:f 28=.func (.func 82) #[] (uX wg g gh gc))(w:H):
  Lq F true (G ((bs .normal 41).at (fa 50 f) (.inRegion iD [1]::K)) cs) w=.spawn (G ((bs .normal 41).at (fa 50 f) (.inRegion iD []::K)) cs) (G (yJ wg g gh gc) []) w #[]:=by
 have a:(fa 50 f).eval (.tmp 28)=_:=ft c;have d:(Hn (fa 50 f).eval (iD.getD 1 default)).run F w=.ok (.spawn (call70 wg g gh gc)) w:=by
  simp only[iD,dB,cL,cK,aX,Tryz.f41,zQ,Hn,ab,a];simp[Deferred.ofValue,call70]
 have b:(Hn (fa 50 f).eval (iD.getD 1 default)).events F w #[]= #[]:=by
  simp only[iD,dB,cL,cK,aX,Tryz.f41,zQ,Hn,ab,a];simp[Deferred.ofValue]
 rw[stepG_spawn (o:=iD.getD 1 default) rfl rfl sb d rfl,listed_none b];rfl
theorem Tc(i:Cv f g gc wg m m)(a2:m<=1000)(y:∀x,V x->x<w.heap.size):
  WalkE F true (λV' U g' w'=>∃f',g'=G ((bs .normal 41).at (fa 50 f') K) cs/\Cv f' g gc wg m m/\(∀x,V x->V' x)/\aH V w w'/\∀x,V' x->x<w'.heap.size)
   V O (G ((bs .normal 41).at (fa 50 f) (.code dB::.inLoop dB::.inBlock 0::K)) cs) w:=pc
theorem Pz(c:Cv f g gc wg m k)(hk:k<m)(s:m<=1000)(j:∀x,V x->x<w.heap.size):
  WalkE F true (λV' r g' w'=>∃f',g'=G ((bs .normal 41).at (fa 50 f') (.code dB::.inLoop dB::K)) cs/\Cv f' g gc wg m (k+1)/\(∀x,V x->V' x)/\aH V w w'/\∀x,V' x->x<w'.heap.size)
   V O (G ((bs .normal 41).at (fa 50 f) (.inRegion iD []::.inBlock 1::.code (.region 13 o8 false)::.inLoop dB::K)) cs) w:=xba
theorem Td{post:M->H->Prop}{V0:Nat->Prop}{w0:H}{b:aC}{l:bN}{g gc base wg m:Nat}{K:List Item}{cs:List Kf}(e7:m<=16)(b7:ay b l=0)
  (next:∀f J w,Cv f g gc wg m m->CW V0 w0 b l g gc base 0 J w->J.Wg=wg->J.num=base+m->J.got=[]->aQ fI F post (G ((bs .normal 41).at (fa 50 f) K) cs) J w):
  ∀(j k:Nat),k+j=m->∀f J w,Cv f g gc wg m k->CW V0 w0 b l g gc base 0 J w->J.Wg=wg->J.num=base+k->J.got=[]->
   aQ fI F post (G ((bs .normal 41).at (fa 50 f) (.code dB::.inLoop dB::.inBlock 0::K)) cs) J w:=by
 intro j
 induction j with
 | zero=>
  intro k hk f J w N y S Q P;obtain rfl:k=m:=zz;refine aQ.walk (Tc N zz y.cX) (O:=J.O 0) (λ_=>dq) (λ_=>dq) (λV' U g' w' σ' z q W e=>?_);obtain⟨f',rfl,c1,E,h2,L⟩:=z;exact next f' σ' w' c1 (y.walk e (λx a=>(q x).2 (E x a)) h2 (λx a=>L x ((q x).1 a))) (e.Wg.tn S) ((e.main rfl).1.tn Q) ((e.main rfl).2.2.1.tn P)
 | succ j d9=>
  intro k hk f J w N y S Q P;refine aQ.walk (Px N zz zz y.cX) (O:=J.O 0) (λ_=>dq) (λ_=>dq) (λV' U g' T σ1 z q W e=>?_);obtain⟨f1,e5,rfl,a7,h7,a8,b8,E,h2,L⟩:=z;have e1:V'=σ1.V 0:=funext λx=>propext (q x).symm;subst e1;have o:=y.walk e E h2 L;have b1:σ1.Wg=wg:=e.Wg.tn S;have a9:σ1.num=base+k:=(e.main rfl).1.tn Q;have c4:σ1.got=[]:=(e.main rfl).2.2.1.tn P;refine Ta (by rw[b1];exact a7.f6) o.md o.ty o.df o.cD o.cz o.pend (by rw[a9,o.bas];omega) (λσ2 w2 kn u w3 r t=>?_);have a4:=(o.XE r).YP t rfl;have d3:aH (σ1.V 0) T w3:=r.w.tn (t.c.w.mono λx a=>(r.V x).2 a);have Z:∀x,σ1.V 0 x->u.V 0 x:=λx a=>(t.c.V x).2 ((r.V x).2 a);have d8:u.Wg=wg:=t.c.Wg.tn (r.kin.Wg.tn b1);have c9:u.num=base+k:=(t.c.main rfl).1.tn ((r.kin.main rfl).1.tn a9);have c5:u.got=[]:=(t.c.main rfl).2.1.tn ((r.kin.main rfl).2.2.1.tn c4);refine aQ.walk (Py (K:=.inBlock 0::K) (a7.set (d:=27) (.tuple #[]) zz) (nt h7)) (O:=u.O 0) (λ_=>dq) (λ_=>dq) (λV' U g' w4 n z q W A=>?_);obtain⟨f4,rfl,c3,b4,V, -, R⟩:=z;have a2:∀x,u.V 0 x->n.V 0 x:=λx a=>(q x).2 (by rw[V];exact a);have c:=a4.walk A a2 R (λx a=>R.cX a4.cX x (by rw[<- V];exact(q x).1 a));have d4:aH (σ1.V 0) T w4:=d3.tn (R.mono Z);have b2:n.Wg=wg:=A.Wg.tn d8;have a':n.num=base+k:=(A.main rfl).1.tn c9;have c6:n.got=[]:=(A.main rfl).2.2.1.tn c5;refine aQ.OU c.df c.cz (.inr ⟨c.md,c.pend⟩) (λbj _=>Tb b4 bj) (λσ5 C d1 h d7 b' v _ i c8=>?_) (λσ5 C h v _ i c' b0 b9 d2 c7 d6=>?_)
  .have p:σ5.V n.num=n.V 0:=funext λx=>propext (v x);obtain⟨e0,b6⟩:=c.b0;have s:σ5.base=base:=i.base.tn c.bas;have a1:∀x,σ1.V 0 x->n.V 0 x:=λx a=>a2 x (Z x a);have a0:aH (σ1.V 0) T C:=d4.tn (h.mono a1);have a6:cy TA (σ5.V n.num) C b l:=by rw[p];exact c.co.mono (λ_=>id) h.keep
   have a5:C.heap[g]?=Y (aE b 31):=(h.keep g c.bkV).tn c.bk;rw[<- b2,<- i.Wg];refine Hy d1 (b:=b) (l:=l) d7 b' (i.md.tn c.md) (i.ty.tn c.ty) (by rw[s];exact i.pay.tn c.pay) c8 (e0:=e0) (by rw[p];exact b6.rely h) (λx a=>h.cX c.cX x (by rw[<- p];exact a)) a6 b7 (by rw[s,a'];omega) (yL a6 (by rw[p];exact c.bkV) a5) (uY a5) (by rw[p];exact a8.mono a1 a0.keep) ?_ (by rw[p];exact c.chV) (by rw[i.C];exact bu h c.chV c.ch);rw[s,a',show base+k-base=k by omega];exact bu a0 a8.1 b8
  .have p:σ5.V 0=n.V 0:=funext λx=>propext (v x);have s:=c.kQ (pd':=0) i b0 (d6.2 c.cD) b9 d2 (λx a=>(v x).2 a) h (λx a=>h.cX c.cX x ((v x).1 a));refine aQ.walk (Pz c3 zz zz s.cX) (O:=σ5.O 0) (λ_=>dq) (λ_=>dq) (λe3 e2 e4 d' d0 d5 a3 e6 B=>?_);obtain⟨b3,rfl,c2,h4,b5,h6⟩:=d5;exact d9 (k+1) zz b3 d0 d' c2 (s.walk B (λx a=>(a3 x).2 (h4 x a)) b5 (λx a=>h6 x ((a3 x).1 a))) (B.Wg.tn (i.Wg.tn b2)) ((B.main rfl).1.tn (c'.tn zz)) ((B.main rfl).2.2.1.tn (c7.tn c6))
variable{C:Nat}
def kz:Array Kp:=match dH with|.seq (.region _ ops _) _=>ops|_=> #[]
def Xf:Array Kp:=match dH with|.seq _ (.seq (.region _ ops _) _)=>ops|_=> #[]
def Xg:Array Kp:=match dH with|.seq _ (.seq _ (.seq (.seq (.region _ ops _) _) _))=>ops|_=> #[]
def eB:Ly:=match dH with|.seq _ (.seq _ (.seq (.seq _ (.block _ (.loop c))) _))=>c|_=>.skip
def o9:Ly:=match dH with|.seq _ (.seq _ (.seq _ r))=>r|_=>.skip
def fQ:Array Kp:=match eB with|.seq (.region _ ops _) _=>ops|_=> #[]
def pg:Array Kp:=match eB with|.seq _ (.seq _ (.block _ (.seq (.region _ ops _) _)))=>ops|_=> #[]
def jL:Array Kp:=match eB with|.seq _ (.seq _ (.block _ (.seq _ (.region _ ops _))))=>ops|_=> #[]
def BZ:Ly:=.seq (.region 15 Xf false) (.seq (.seq (.region 16 Xg false) (.block 2 (.loop eB))) o9)
def Mt:dH=.seq (.region 14 kz false) BZ:=rfl
def PC:eB=.seq (.region 17 fQ false) (.seq (.cond (.tmp 33) .skip (.exit 2)) (.block 3 (.seq (.region 18 pg false) (.region 19 jL false)))):=rfl
theorem Mv(a:Cv f g gc wg m m):
  WalkE F true (λV' i g' w'=>∃f',g'=G ((bs .normal 41).at (fa 50 f') [.inRegion kz [1],.code BZ]) cs/\Cv f' g gc wg m m/\f' 30=.func (.func 84) #[] (uZ wg gc)/\V'=V/\i=O/\aH V w w')
   V O (G ((bs .normal 41).at (fa 50 f) [.code dH]) cs) w:=by
 have å:=0;exact xaa
def Te{K:List Item}(c:f 30=.func (.func 84) #[] (uZ wg gc))(w:H):
  Lq F true (G ((bs .normal 41).at (fa 50 f) (.inRegion kz [1]::K)) cs) w=.spawn (G ((bs .normal 41).at (fa 50 f) (.inRegion kz []::K)) cs) (G (yO wg gc) []) w #[]:=by
 have a:(fa 50 f).eval (.tmp 30)=_:=ft c;have d:(Hn (fa 50 f).eval (kz.getD 1 default)).run F w=.ok (.spawn (call72 wg gc)) w:=by
  simp only[kz,dH,cL,cK,aX,Tryz.f41,zQ,Hn,ab,a];simp[Deferred.ofValue,call72]
 have b:(Hn (fa 50 f).eval (kz.getD 1 default)).events F w #[]= #[]:=by
  simp only[kz,dH,cL,cK,aX,Tryz.f41,zQ,Hn,ab,a];simp[Deferred.ofValue]
 rw[stepG_spawn (o:=kz.getD 1 default) rfl rfl sb d rfl,listed_none b];rfl
structure PD(f:Nat->M)(C:Nat)(v:M):Prop where
 f31:f 31=.chan (Y C)
 f8:f 8=v
 kp:RG f
def PD.set{v:M}(h:PD f C v){d:Nat}(u:M)(a:d≠31/\d≠8/\d≠2/\d≠3/\d≠10/\d<42):PD (ah f d u) C v:=
 ⟨nt h.f31,nt h.f8,h.kp.set u zz⟩
def Mw(e:Cv f g gc wg m m)(h:V gc)(c:w (gc,0)=Y (.chan (Y C))):
  WalkE F true (λV' b g' w'=>∃f',g'=G ((bs .normal 41).at (fa 50 f') [.code eB,.inLoop eB,.inBlock 2,.code o9]) cs/\PD f' C (.slice I 0 0)/\V'=V/\b=O/\aH V w w')
   V O (G ((bs .normal 41).at (fa 50 f) [.inRegion kz [],.code BZ]) cs) w:=by
 refine WalkE.aT ?_;unfold BZ;refine WalkE.seq (WalkE.reg (l:=[0]) rfl ?_);refine WalkE.gR (d:=8) (.slice I 0 0) rfl (.inr rfl) rfl rfl zz rfl sb ?_;have a:=e.set (d:=8) (.slice I 0 0) zz;refine WalkE.aT (WalkE.seq (WalkE.seq (WalkE.reg (l:=[0]) rfl ?_)));refine WalkE.vC (d:=31) ⟨gc,0,I⟩ (.chan (Y C)) BR rfl rfl (ft a.f5) h c rfl zz rfl sb ?_;refine WalkE.aT (WalkE.block (WalkE.loop ?_));exact WalkE.stop λj i=>⟨_,rfl,⟨au _ _ _,nt (au _ _ _),a.kp.set _ zz⟩,rfl,rfl,i⟩
def B0:Ly:=match o9 with|.seq c _=>c|_=>.skip
def yP:Ly:=match o9 with|.seq _ (.seq c _)=>c|_=>.skip
def Fw(x:Sl×Int):List M:=[.slice x.1.A x.1.n x.1.c,.int .i64 x.2]
def EI(a:Sl->List Int)(x y:Sl×Int):Bool:=Oq ((x.1,a x.1),x.2) ((y.1,a y.1),y.2)
def Xh{w:H}{g n c:Nat}{L:List (Sl×Int)}{s:Nat}(m:n=L.length)(o:n<=c)(q:L.length<=1000)(i:g<w.heap.size)(r:s<=n)(h:∀j x,(L.flatMap Fw)[j]?=Y x->w.cell? ⟨g,j,I⟩=Y x)(d:Sl×Int):
  Y6 w ⟨Y ⟨g,s*2,I⟩,n-s,c-s⟩ (L.drop s) d:=P2
theorem PE(b:Sl->List Int)(one:Sl×Int)(L:List (Sl×Int))(g n c:Nat)(W:H)(P:n=L.length+1)(U:n<=c)(a2:c<=9223372036854775807)(a5:L.length<1000)(u:g<W.heap.size)(q:∀x∈one::L,aN W x.1 (b x.1))(h:∀j x,((one::L).flatMap Fw)[j]?=Y x->W.cell? ⟨g,j,I⟩=Y x):
  Ly.wp F B0 (aR λa J=>a.defers=[]/\(a.tmps.size=50/\(∀i,i=2\/i=3\/i=48\/i=49->a.tmps[i]?=Y (gC i))/\∃A,a.tmps[10]?=Y (.pointer (Y ⟨A,0,I⟩))/\W.heap.size<=A/\J.heap[A]?=Y (.cells #[.slice (dG (EI b) one L).1.A (dG (EI b) one L).1.n (dG (EI b) one L).1.c,.int .i64 (dG (EI b) one L).2] 147 (0,0))/\X W.heap.size W J))
   ⟨#[D,D,.slice I 0 0,.int .i64 0,D,D,D,D,.slice (Y ⟨g,0,I⟩) n c,D,D,D,D,D,D,D,D,D,D,D,D,D,D,D,D,D,D,D,D,D,D,D,D,D,D,D,D,D,D,D,D,D,D,D,D,D,D,D,D,D],[]⟩ W:=by
 obtain⟨⟨k,on,l⟩,f⟩:=one;have R:W.cell? ⟨g,0,I⟩=Y (.slice k on l):=h 0 _ rfl;have S:W.cell? ⟨g,1,I⟩=Y (.int .i64 f):=h 1 _ rfl;have O:=λw' (d:X W.heap.size W w')=>Xh (w:=w') (g:=g) (n:=n) (c:=c) (L:=(⟨k,on,l⟩,f)::L) (s:=1) P U so (iv u d.size) zz (λj x m=>(d.cell (p:=⟨g,j,I⟩) u).tn (h j x m)) (iy,0);have C:∀w',X W.heap.size W w'->∀x y o,X w'.heap.size w' o->aN W x.1 (b x.1)->aN W y.1 (b y.1)->PH F 87 #[.agg #[.slice x.1.A x.1.n x.1.c,.int .i64 x.2],.agg #[.slice y.1.A y.1.n y.1.c,.int .i64 y.2]] o λe w'=>e=.returned (.bool (EI b x y))/\X o.heap.size o w':=λw' d x y o N m V=>
  Ot x.1 y.1 (b x.1) (b y.1) x.2 y.2 o ((m.below d).below N) ((V.below d).below N)
 have t:∀w',X W.heap.size W w'->PH F 86 #[.func (.func 87) #[] #[],.agg #[.slice k on l,.int .i64 f],.slice (if c=1 then Y ⟨g,0,I⟩else Y ⟨g,2,I⟩) (n-1) (c-1)] w' λe Z=>e=.returned (.agg #[.slice (dG (EI b) (⟨k,on,l⟩,f) L).1.A (dG (EI b) (⟨k,on,l⟩,f) L).1.n (dG (EI b) (⟨k,on,l⟩,f) L).1.c,.int .i64 (dG (EI b) (⟨k,on,l⟩,f) L).2])/\X w'.heap.size w' Z:=λw' d=>by
  by_cases r:c=1
  .rw[dE r];have B:L=[]:=List.length_eq_zero_iff.1 zz;exact Jc (EI b) (λx=>aN W x.1 (b x.1)) (⟨k,on,l⟩,f) (iy,0) ⟨Y ⟨g,0,I⟩,n-1,c-1⟩ L w' ⟨by show n-1=L.length;omega,by rw[B];exact fi _,by rw[B];exact fi _,λK=>by rw[B]at K;exact dC K (kq 0)⟩ (q _ ss) (λx m=>q x (by simp[m])) (C w' d)
  .rw[cd r];exact Jc (EI b) (λx=>aN W x.1 (b x.1)) (⟨k,on,l⟩,f) (iy,0) ⟨Y ⟨g,2,I⟩,n-1,c-1⟩ L w' (O w' d) (q _ ss) (λx m=>q x (by simp[m])) (C w' d)
 obtain⟨z,Q⟩:∃z,dG (EI b) (⟨k,on,l⟩,f) L=z:=⟨_,rfl⟩;rw[Q]at t|-;obtain⟨⟨a6,a9,a7⟩,z2⟩:=z;dsimp only at t|-;have T:PQ (∀w',X W.heap.size W w'->w'.cell? ⟨g,0,I⟩=Y (.slice k on l)/\w'.cell? ⟨g,1,I⟩=Y (.int .i64 f)/\g<w'.heap.size/\X W.heap.size W w'):=λw' d=>⟨(d.cell (p:=⟨_,_,I⟩) u).tn R,(d.cell (p:=⟨_,_,I⟩) u).tn S,by have:=d.size;omega,d⟩;have h3:(1:Int)<=(n:Int):=zz;have h5:0<n:=zz;clear O h R S Q P C q;unfold B0 o9 dH cL cK aX Tryz.f41;dsimp only;obtain⟨r0,r1,r2,r3⟩:=T.out W (X.refl _ _);by_cases r:c=1;all_goals simp only[r,if_true,if_false]at t
 all_goals
  go_region_with (go_at_call 86;(with_reducible refine(t _ bf).mono ?_);rintro e G ⟨rfl,v⟩;obtain⟨a3,a4⟩:=aU v;have a1:=v.size;have E:X W.heap.size W G:=X.tn bf (v.mono ss);(first|(have a8:W.heap.size<G.heap.size:=(by simp only[aa,H.size_drew]at a1;omega))|skip))
 all_goals
  first
   | exact⟨rfl,rfl,(λi hi=>(by rcases hi with rfl|rfl|rfl|rfl<;>rfl)),G.heap.size,rfl,E.size,Sp _ _,aP E (dj _) _⟩
   | exact⟨rfl,rfl,(λi hi=>(by rcases hi with rfl|rfl|rfl|rfl<;>rfl)),W.heap.size,rfl,dj _,(Gt _ _ ((v.block W.heap.size (by simp only[H.size_drew,aa];exact qBB _)).tn (Sp _ _))).1,jH (jH E (dj _) _) (dj _) _⟩
theorem PG(A:Option Addr)(m b:Nat)(k:Int)(g:Nat)(W:H)(d:W (g,0)=Y (.slice A m b))(e:W (g,1)=Y (.int .i64 k)):
  Ly.wp F yP (aR λa c=>a.defers=[]/\(a.tmps.size=50/\a.tmps[2]?=Y (.slice A m b)/\a.tmps[3]?=Y (.int .i64 0)))
   ⟨#[D,D,.slice I 0 0,.int .i64 0,D,D,D,D,D,D,.pointer (Y (g,0)),D,D,D,D,D,D,D,D,D,D,D,D,D,D,D,D,D,D,D,D,D,D,D,D,D,D,D,D,D,D,D,D,D,D,D,D,D,D,D],[]⟩ W:=by
 unfold yP o9 dH cL cK aX Tryz.f41;dsimp only;go_wp2;exact⟨rfl,rfl,rfl,rfl⟩
def aL(base:Nat)(l:bN)(got:List (Nat×M)):List M:=got.flatMap λp=>[p.2,.int .i64 ((dh (p.1-base) l.W.length).length:Nat)]
structure CR(Vb:Nat->Prop)(wh:H)(C base m:Nat)(b:aC)(l:bN)(v:M)(J:Gh)(w:H):Prop where
 md:J.md=.clash
 df:J.df 0=0
 bas:J.base=base
 pay:J.pay=rS base b l
 num:J.num=base+m+1
 cz:J.cz=Y (base+m)
 C:J.C=C
 sub:∀x,Vb x->J.V 0 x
 keep:aH Vb wh w
 cX:∀x,J.V 0 x->x<w.heap.size
 row:w.ownsRow 0 147 2 v J.got.length (aL base l J.got)
 own:∀g,v.ownBlock=Y g->J.V 0 g/\J.O 0 g/\wh.heap.size<=g
 nodup:(J.got.map (·.1)).Nodup
 range:∀p∈J.got,base<=p.1/\p.1<base+m
 paid:∀p∈J.got,rS base b l p.1 p.2 w
 pubs:∀p∈J.got,∀x,sB p.2 x->J.V 0 x/\v.ownBlock≠Y x
def Tf:(F.info? 147).map (λi=>(i.zero,i.size,i.bytes))=Y (Y (.agg #[.slice I 0 0,.int .i64 0]),2,32):=by kernel_rfl
def mg.sl{xs:List Int}(h:mg w v xs):∃A c,v=.slice A xs.length c:=by
 rcases h with⟨rfl,rfl⟩|⟨g,a,b,e,z,rfl,-⟩
 .exact⟨I,0,rfl⟩
 .exact⟨_,a,rfl⟩
def Xi(d:f 31=.chan (Y C))(w:H):
  Lq F true (G ((bs .normal 41).at (fa 50 f) (.inRegion fQ [0,1]::K)) cs) w=.comm (G ((bs .normal 41).at (fa 50 f) (.inRegion fQ [0,1]::K)) cs) #[rcase C (.slice I 0 0)] true (.recv true) w #[]:=by
 have a:(fa 50 f).eval (.tmp 31)=_:=ft d;have c:(zeroValue 24).run F w=.ok (.slice I 0 0) w:=by kernel_rfl
 have h:(zeroValue 24).events F w #[]= #[]:=by kernel_rfl
 have b:(underlying 133).run F w=.ok (.chan .both 24) w:=by kernel_rfl
 have g:(Hn (fa 50 f).eval (fQ.getD 0 default)).run F w=.ok (.comm #[rcase C (.slice I 0 0)] true (.recv true)) w:=by
  simp only[fQ,eB,dH,cL,cK,aX,Tryz.f41,zQ,Hn,a];simp[c,b,rcase]
 have e:(Hn (fa 50 f).eval (fQ.getD 0 default)).events F w #[]= #[]:=by
  simp only[fQ,eB,dH,cL,cK,aX,Tryz.f41,zQ,Hn,a];simp[c,b,h]
 rw[stepG_comm (o:=fQ.getD 0 default) rfl rfl sb g,listed_none e]
def Mx:
  WalkE F true (λV' a g' w'=>g'=G ((bs .normal 41).at (fa 50 f) (.inRegion fQ [0,1]::.code (.seq (.cond (.tmp 33) .skip (.exit 2)) (.block 3 (.seq (.region 18 pg false) (.region 19 jL false))))::.inLoop eB::K)) cs/\V'=V/\a=O/\aH V w w')
   V O (G ((bs .normal 41).at (fa 50 f) (.code eB::.inLoop eB::K)) cs) w:=by
 rw[show(Item.code eB)=.code (.seq (.region 17 fQ false) (.seq (.cond (.tmp 33) .skip (.exit 2)) (.block 3 (.seq (.region 18 pg false) (.region 19 jL false)))))from eh _ PC];exact WalkE.seq (WalkE.reg (l:=[0,1]) rfl (WalkE.stop λbj b=>⟨rfl,rfl,rfl,b⟩))
theorem PK(h:PD f C v):
  WalkE F true (λV' g g' w'=>∃f',g'=G ((bs .normal 41).at (fa 50 f') K) cs/\PD f' C v/\V'=V/\g=O/\aH V w w')
   V O (G ((bs .normal 41).at (fa 50 (ah f 32 (.tuple #[.slice I 0 0,.bool false]))) (.inRegion fQ [1]::.code (.seq (.cond (.tmp 33) .skip (.exit 2)) (.block 3 (.seq (.region 18 pg false) (.region 19 jL false))))::.inLoop eB::.inBlock 2::K)) cs) w:=by
 have b:(fa 50 (ah f 32 (.tuple #[.slice I 0 0,.bool false]))).eval (.tmp 32)=_:=ft (au _ _ _);refine WalkE.jh (d:=33) (.bool false) rfl rfl zz rfl sb (λbj a=>?_) (λbj a=>?_) ?_
 .simp only[fQ,eB,dH,cL,cK,aX,Tryz.f41,zE,Hn,b];rfl
 .intro e c;simp only[fQ,eB,dH,cL,cK,aX,Tryz.f41,zE,Hn,b]at c;simp[go_sem]at c
 refine WalkE.aT (WalkE.seq (WalkE.cond (t:=false) (ft (au _ _ _)) (WalkE.exit (k':=K) rfl ?_)));exact WalkE.stop λbj a=>⟨_,rfl,(h.set _ zz).set _ zz,rfl,rfl,a⟩
theorem My{V O:Nat->Prop}{w:H}{cs:List Kf}{K:List Item}{f:Nat->M}{C k n c:Nat}{A:Option Addr}{v:M}{xs:List M}(b2:PD f C v)(hk:k<=16)(c1:∀x,V x->x<w.heap.size)
  (b6:w.ownsRow 0 147 2 v k xs)(J:∀g,v.ownBlock=Y g->V g/\O g):
  WalkE F true (λV' P g' w'=>∃f' v',g'=G ((bs .normal 41).at (fa 50 f') (.code eB::.inLoop eB::K)) cs/\PD f' C v'/\w'.ownsRow 0 147 2 v' (k+1) (xs++[.slice A n c,.int .i64 n])/\(∀g,v'.ownBlock=Y g->V' g/\P g/\(v.ownBlock=Y g\/w.heap.size<=g))/\(∀x,V x->V' x)/\(∀x,V x->¬(v.ownBlock=Y x)->w'.heap[x]?=w.heap[x]?)/\
   (w'.tape=w.tape/\w'.os=w.os/\w'.output=w.output/\(w:Nat)<=w')/\∀x,V' x->x<w'.heap.size)
   V O (G ((bs .normal 41).at (fa 50 (ah f 32 (.tuple #[.slice A n c,.bool true]))) (.inRegion fQ [1]::.code (.seq (.cond (.tmp 33) .skip (.exit 2)) (.block 3 (.seq (.region 18 pg false) (.region 19 jL false))))::.inLoop eB::K)) cs) w:=by
 have å:=0;exact rn
section
variable{Vb:Nat->Prop}{wh:H}{C base m:Nat}{b:aC}{l:bN}{v:M}{J σ':Gh}{w w':H}
def rS.keep{i:Nat}{u:M}(h:rS base b l i u w)(hk:∀b,sB u b->w'.heap[b]?=w.heap[b]?):rS base b l i u w':=⟨h.1,h.2.keep hk⟩
theorem CR.walk(h:CR Vb wh C base m b l v J w)(hk:Fs 0 J σ')(f:∀x,σ'.V 0 x↔J.V 0 x)(j:∀x,σ'.O 0 x↔J.O 0 x)(i:aH (J.V 0) w w'):CR Vb wh C base m b l v σ' w':=by
 obtain⟨k,o,e,n⟩:=hk.main rfl;refine⟨hk.md.tn h.md,hk.df.tn h.df,hk.base.tn h.bas,hk.pay.tn h.pay,k.tn h.num,n.tn h.cz,hk.C.tn h.C,λx a=>(f x).2 (h.sub x a),h.keep.tn (i.mono h.sub),λx a=>i.cX h.cX x ((f x).1 a),?_,λg d=>⟨(f g).2 (h.own g d).1,(j g).2 (h.own g d).2.1,(h.own g d).2.2⟩,by rw[e];exact h.nodup,by rw[e];exact h.range,λp c=>?_,λp c x a=>?_⟩
 .rw[e];exact dL h.row λg d=>i.keep g (h.own g d).1
 .rw[e]at c;exact(h.paid p c).keep λx a=>i.keep x (h.pubs p c x a).1
 .rw[e]at c;exact⟨(f x).2 (h.pubs p c x a).1,(h.pubs p c x a).2⟩
def PL{k:Nat}(hk:ia b l (k-base)=false)(c:(dh (k-base) l.W.length).length<=1000)(w:H):∃v w,rS base b l k v w:=by
 refine⟨.slice (Y ⟨0,0,I⟩) (dh (k-base) l.W.length).length (dh (k-base) l.W.length).length, {w with heap:= #[.cells ((dh (k-base) l.W.length).map (M.int .i64)).toArray 3 (0,0)]},hk,.inr ⟨0,(dh (k-base) l.W.length).length,((dh (k-base) l.W.length).map (M.int .i64)).toArray,3,(0,0),rfl,rfl,dj _,?_,by simp,λj x a=>?_⟩⟩
 .show _<=9223372036854775807;omega
 .simp[a]
end
structure CE(Vb:Nat->Prop)(wh:H)(base m:Nat)(b:aC)(l:bN)(v:M)(got:List (Nat×M))(J:Gh)(w:H):Prop where
 idle:Idle J w
 sub:∀x,Vb x->J.V 0 x
 keep:aH Vb wh w
 row:w.ownsRow 0 147 2 v got.length (aL base l got)
 own:∀g,v.ownBlock=Y g->J.V 0 g
 range:∀p∈got,base<=p.1/\p.1<base+m
 nodup:(got.map (·.1)).Nodup
 paid:∀p∈got,rS base b l p.1 p.2 w
 pubs:∀p∈got,∀x,sB p.2 x->J.V 0 x
 all:∀k,k<m->ia b l k=false->∃u,(base+k,u)∈got
theorem Tg{post:M->H->Prop}{Vb:Nat->Prop}{wh:H}{C base m:Nat}{b:aC}{l:bN}{K:List Item}{cs:List Kf}(e4:m<=16)(e2:l.W.length<=4)(c':∀x,Vb x->x<wh.heap.size)
  (next:∀f J w v got,PD f C v->CE Vb wh base m b l v got J w->aQ fI F post (G ((bs .normal 41).at (fa 50 f) K) cs) J w):
  ∀(d:Nat) f J w v,PD f C v->CR Vb wh C base m b l v J w->J.got.length+d=m->
   aQ fI F post (G ((bs .normal 41).at (fa 50 f) (.code eB::.inLoop eB::.inBlock 2::K)) cs) J w:=by
 intro d
 induction d using Nat.strongRecOn with
 | _ d d'=>
 intro f J w v Z b8 d3;refine aQ.walk (Mx (K:=.inBlock 2::K) (f:=f)) (O:=J.O 0) (λ_=>dq) (λ_=>dq) (λV' O' g' w1 σ1 d8 b6 b5 a'=>?_);obtain⟨rfl,e1,T,c3⟩:=d8;have i:=b8.walk a' (λx=>(b6 x).tn (by rw[e1])) (λx=>(b5 x).tn (by rw[T])) c3;have b':σ1.got=J.got:=(a'.main rfl).2.2.1;rw[<- b']at d3;clear b8 c3 a' b' b6 b5 e1 T;refine aQ.Zh i.md i.df i.cz (z:=.slice I 0 0) (ok:=true) (dp:=cs) (frv:=λu=>(bs .normal 41).at (fa 50 (ah f 32 (.tuple #[u,.bool true]))) (.inRegion fQ [1]::.code (.seq (.cond (.tmp 33) .skip (.exit 2)) (.block 3 (.seq (.region 18 pg false) (.region 19 jL false))))::.inLoop eB::.inBlock 2::K))
  (frz:=(bs .normal 41).at (fa 50 (ah f 32 (.tuple #[.slice I 0 0,.bool false]))) (.inRegion fQ [1]::.code (.seq (.cond (.tmp 33) .skip (.exit 2)) (.block 3 (.seq (.region 18 pg false) (.region 19 jL false))))::.inLoop eB::.inBlock 2::K))
  (λbj _=>by rw[i.C];exact Xi Z.f31 bj) (λu=>?_) ?_ (λσ2 w2 j u a1 a2 a3 a4 a5 a6 U a8 S R c6 c7 c8 b4=>?_) (λσ2 w2 z1 z2 z3 z4 z5 z6 z7 z8 z9 d0=>?_)
 .rw[nV];rw[show(fa 50 f).put ((fQ[0]?).bind (·.dst)) (recvd true u true)=fa 50 (ah f 32 (.tuple #[u,.bool true]))from cw zz]
 .rw[nV];rw[show(fa 50 f).put ((fQ[0]?).bind (·.dst)) (recvd true (.slice I 0 0) false)=fa 50 (ah f 32 (.tuple #[.slice I 0 0,.bool false]))from cw zz]
 .rw[i.pay]at a5;have c2:rS base b l j u w2:=a5;obtain⟨A,c,b3⟩:=c2.2.sl;rw[i.bas]at a1;rw[i.num]at a2;have d2:base<=j/\j<base+m:=⟨a1,zz⟩;have e3:σ1.got.length<m:=by
   have:=rF (j::σ1.got.map (·.1)) (List.range' base m) (by
    rw[List.nodup_cons];refine⟨λh=>?_,i.nodup⟩;obtain⟨p,o,rfl⟩:=List.mem_map.1 h;exact a4 p.2 o) λx a=>by
     simp only[List.mem_range'_1];rcases fc.1 a with rfl|a
     .omega
     .obtain⟨p,o,rfl⟩:=List.mem_map.1 a;have:=i.range p o;omega
   simp at this;omega
  have b7:∀x,σ2.V 0 x->x<w2.heap.size:=λx a=>((U x).1 a).elim (λh=>S.cX i.cX x h) λh=>(b4 x h).1;have s:∀x,σ1.V 0 x->σ2.V 0 x:=λx a=>(U x).2 (.inl a);have b0:∀x,sB u x->v.ownBlock≠Y x:=λx a e=>(b4 x a).2 (i.own x e).2.1;have a0:∀x,sB u x->σ2.V 0 x:=λx a=>(U x).2 (.inr a);subst b3;refine aQ.walk (My (K:=.inBlock 2::K) (k:=σ1.got.length) (n:=(dh (j-base) l.W.length).length) (c:=c) (A:=A) Z zz b7 (dL i.row λg q=>S.keep g (i.own g q).1) (λg q=>⟨s g (i.own g q).1,(a8 g).2 (i.own g q).2.1⟩)) (O:=σ2.O 0) (λ_=>dq) (λ_=>dq) (λV3 O3 g3 Q t b2 N V r=>?_);obtain⟨f3,v3,rfl,a7,d7,c1,d9,a9,⟨t1,t2,t3,t4⟩,d1⟩:=b2;obtain⟨m1,m2,m3,m4⟩:=r.main rfl;have E:t.got=σ1.got++[(j,.slice A (dh (j-base) l.W.length).length c)]:=m3.tn a6;have B:∀x,σ2.V 0 x->t.V 0 x:=λx a=>(N x).2 (d9 x a);have b9:∀x,σ2.V 0 x->v.ownBlock≠Y x->v3.ownBlock≠Y x:=λx a d5 e=>by
   rcases(c1 x e).2.2 with h|h
   .exact d5 h
   .have:=b7 x a;omega
  have L:=i.keep.tn (S.mono i.sub);refine d' (d-1) zz f3 t Q v3 a7 ⟨r.md.tn (R.md.tn i.md),r.df.tn c6,r.base.tn (R.base.tn i.bas),r.pay.tn (R.pay.tn i.pay),m1.tn (c7.tn i.num),m4.tn (c8.tn i.cz),r.C.tn (R.C.tn i.C),λx a=>B x (s x (i.sub x a)),?_,λx a=>d1 x ((N x).1 a),?_,λg q=>?_,?_,λp o=>?_,λp o=>?_,λp o x a=>?_⟩ (by rw[E,lh];simp;omega)
  .refine⟨t1.tn L.tape,t2.tn L.os,t3.tn L.output,ec L.size t4,λx a=>?_⟩;refine(a9 x (s x (i.sub x a)) λe=>?_).tn (L.keep x a);have h1:=(i.own x e).2.2;have h2:=c' x a;omega
  .rw[E];simp only[aL,List.flatMap_append,la,List.flatMap_nil,List.append_nil,lh,fx,ky];exact d7
  .obtain⟨q1,q2,P⟩:=c1 g q;refine⟨(N g).2 q1,(V g).2 q2,?_⟩;rcases P with P|P
   .exact(i.own g P).2.2
   .exact ec L.size P
  .rw[E,nc,List.nodup_append];refine⟨i.nodup,by simp,λx a y c5=>?_⟩;simp at c5;subst c5;rintro rfl;obtain⟨p,o,e⟩:=List.mem_map.1 a;exact a4 p.2 (by rw[<- e];exact o)
  .rw[E]at o;rcases mi.1 o with o|o
   .exact i.range p o
   .simp at o;subst o;exact d2
  .rw[E]at o;rcases mi.1 o with o|o
   .exact((i.paid p o).keep λx a=>S.keep x (i.pubs p o x a).1).keep λx a=>a9 x (s x (i.pubs p o x a).1) (i.pubs p o x a).2
   .simp at o;subst o;exact c2.keep λx a=>a9 x (a0 x a) (b0 x a)
  .rw[E]at o;rcases mi.1 o with o|o
   .have:=i.pubs p o x a;exact⟨B x (s x this.1),b9 x (s x this.1) this.2⟩
   .simp at o;subst o;exact⟨B x (a0 x a),b9 x (a0 x a) (b0 x a)⟩
 .refine aQ.walk (PK (K:=K) Z) (O:=σ2.O 0) (λ_=>dq) (λ_=>dq) (λV3 O3 g3 Q t b2 N V r=>?_);obtain⟨f3,rfl,a7,e1,T,c4⟩:=b2;have B:∀x,t.V 0 x↔σ2.V 0 x:=λx=>(N x).tn (by rw[e1]);have c9:∀x,t.O 0 x↔σ2.O 0 x:=λx=>(V x).tn (by rw[T]);have s:∀x,σ1.V 0 x->σ2.V 0 x:=λx a=>(z8 x).2 (z7 x a);have W:∀x,σ1.V 0 x->t.V 0 x:=λx a=>(B x).2 (s x a);have b1:aH (σ1.V 0) w1 Q:=z9.tn (c4.mono s);refine next f3 t Q v σ1.got a7 ⟨⟨r.md.tn z2,r.df.tn z3,r.cD.2 z6,λx=>(B x).tn ((z8 x).tn (c9 x).symm),λx a=>c4.cX d0 x ((B x).1 a)⟩,λx a=>W x (i.sub x a),i.keep.tn (b1.mono i.sub),dL i.row λg q=>b1.keep g (i.own g q).1,λg q=>W g (i.own g q).1,i.range,i.nodup,λp o=>(i.paid p o).keep λx a=>b1.keep x (i.pubs p o x a).1,λp o x a=>W x (i.pubs p o x a).1,λk hk d6=>?_⟩;rcases z1 (base+k) (by rw[i.bas];omega) (by rw[i.num];omega) zz with h|h
  .have d4:(dh (base+k-base) l.W.length).length<=1000:=by
    unfold dh;rw[my];exact ec (ln _ _) so
   obtain⟨u,w0,b3⟩:=PL (base:=base) (b:=b) (l:=l) (k:=base+k) (by rw[show base+k-base=k by omega];exact d6) d4 Q;rw[i.pay]at h;exact dC b3 (h u w0)
  .exact h
def Mz{post:M->H->Prop}{J:Gh}{w:H}{b:aC}{l:bN}{cs:List Kf}(A:Main J w)(a2:cy TA (J.V 0) w b l)(P:ay b l=0)(a7:lK b l b.D.toNat=false)
  (next:∀f σ' w' v got base C,PD f C v->CE (J.V 0) w base (2^l.W.length) b l v got σ' w'->aQ fI F post (G ((bs .normal 41).at (fa 50 f) [.code o9]) cs) σ' w'):
  aQ fI F post (G (Kf.enter F 41 #[b.v] .normal) cs) J w:=by
 have ø:=0;exact xbm
variable{k:Kd}
def pn{T:gq}{s:Sl}{l:List Int}(h:aN w s l)(g:cM T V w s l.length)(τ:Nat->Question->Nat)(d:Nat):aN (tp (gw T V e0 w) τ d) s l:=by
 have ø:=0;exact vx
def zG(_ i:Nat):Kd:=if i=10\/i=43 then .addr else if i=2\/i=3\/i=8\/i=42\/(44<=i/\i<50)then .val else .junk
def Ti(_ i:Nat):Kd:=if i=10\/i=48 then .addr else if i=2\/i=3\/i=49 then .val else .junk
def Xj:ez (TJ zG .skip) F ((TJ zG .skip).kind 41) B0=true:=by kernel_rfl
def Xk:ez (TJ Ti .skip) F ((TJ Ti .skip).kind 41) yP=true:=by kernel_rfl
def yQ:gC 2=.slice I 0 0:=rfl
def yR:gC 3=.int .i64 0:=rfl
def EJ(h2:i≠2)(a:i≠3):gC i=D:=by unfold gC;rw[cd h2,cd a]
def AQ(Z:Ren)(i:Nat)(h:i=2\/i=3->k=.val):dM Z k (gC i) (gC i):=by
 by_cases h2:i=2
 .subst h2;rw[h (.inl rfl),yQ];exact .nilSlice 0 0
 .by_cases a:i=3
  .subst a;rw[h (.inr rfl),yR];exact .int _ _
  .rw[EJ h2 a];exact qw
def EK{Z:Ren}{x:M}(r:dM Z k (gC i) x)(h:i=2\/i=3->k=.val)(b:k≠.junk):x=gC i:=by
 by_cases h2:i=2
 .subst h2;rw[h (.inl rfl),yQ]at r;rw[yQ];cases r;rfl
 .by_cases a:i=3
  .subst a;rw[h (.inr rfl),yR]at r;rw[yR];exact aG _ _ _ _ r
  .rw[EJ h2 a]at r|-;exact sV r b
def a20(g n c:Nat)(i:Nat):M:=if i=8 then .slice (Y (g,0)) n c else gC i
def a21(g:Nat)(i:Nat):M:=if i=10 then .pointer (Y (g,0))else gC i
def ZA:Ly:=.seq yP .ret
def MA:o9=.seq B0 ZA:=rfl
def Jy:∀L:List (Sl×Int),(L.flatMap Fw).length=L.length*2
 | []=>rfl
 | a::L=>by rw[la,lh,Jy L,fx];simp only[Fw,fx,ky];omega
def tv(a:Sl×Int->Sl×Int->Bool):∀(L:List (Sl×Int)) (one:Sl×Int),dG a one L∈one::L
 | [],one=>by simp[dG]
 | x::L,one=>by
  have e:dG a one (x::L)=dG a (if a x one=true then x else one) L:=rfl;rw[e];have:=tv a L (if a x one=true then x else one);rcases fc.1 this with h|h
  .rw[h];split<;>simp
  .simp[h]
def Tj{Stop:(Nat->Prop)->(Nat->Prop)->QP->H->Prop}{V O:Nat->Prop}{f:Nat->M}{g n c:Nat}(F:Sl->List Int){one:Sl×Int}{L:List (Sl×Int)}{c0:Kf}{cs:List Kf}(hB:Base TA V w e0)(a':∀x,V x->x<w.heap.size)
  (h8:f 8=.slice (Y ⟨g,0,I⟩) n c)(d4:RG f)(b2:n=L.length+1)(c8:L.length<1000)(c4:n<=c)(c5:c<=9223372036854775807)(a4:bV TA V w g (n*2))
  (hS:∀x∈one::L,cM TA V w x.1 (F x.1).length)(o:∀x∈one::L,aN w x.1 (F x.1))(d':∀j x,((one::L).flatMap Fw)[j]?=Y x->w.cell? ⟨g,j,I⟩=Y x)
  (a9:∀l B bj,dU V O w l B bj->WalkE Hb true Stop l B (G (c0.finish (.tuple #[.slice (dG (EI F) one L).1.A (dG (EI F) one L).1.n (dG (EI F) one L).1.c,.int .i64 0])) cs) bj):
  WalkE Hb true Stop V O (G ((bs .normal 41).at (fa 50 f) [.code o9]) (c0::cs)) w:=by
 have ø:=0;exact pC
def fF:M->Sl
 | .slice A n c=>⟨A,n,c⟩
 | _=>iy
def mg.fF(h:mg w v xs):v=.slice (fF v).A (fF v).n (fF v).c/\(Go.Proofs.YtfcgpihkimpkcaaGreatDoor.fF v).n=xs.length:=by
 obtain⟨A,c,rfl⟩:=h.sl;exact⟨rfl,rfl⟩
def mg.uniq{xs ys:List Int}(h:mg w v xs)(c:mg w v ys):xs=ys:=by
 rcases h with⟨b,rfl⟩|⟨g,l,m,e,z,rfl,h2,s,t,u,n⟩
 .rcases c with⟨-, rfl⟩|⟨g,l,m,e,z,rfl,-⟩
  .rfl
  .cases b
 .rcases c with⟨b,-⟩|⟨g',p,q,r,C,f,i,y,A,B,o⟩
  .cases b
  .simp only[lA,fp,Addr.mk.injEq]at f;obtain⟨⟨rfl,-⟩,x,-⟩:=f;rw[h2]at i;cases i;refine List.ext_getElem? λj=>?_;by_cases d:j<xs.length
   .have k:=n j _ (fg d);have a:=o j _ (fg (by omega:j<ys.length));rw[k]at a;rw[fg d,fg (by omega:j<ys.length)];simp only[fp,M.int.injEq,true_and]at a;rw[a]
   .rw[List.getElem?_eq_none zz,List.getElem?_eq_none zz]
def mg.ints(h:mg w v xs)(c:xs.length<=1000):aN w (Go.Proofs.YtfcgpihkimpkcaaGreatDoor.fF v) xs:=by
 rcases h with⟨rfl,rfl⟩|⟨g,d,f,e,z,rfl,h2,a,j,l,b⟩
 .exact⟨rfl,fi _,fi _,λh=>dC h (kq 0)⟩
 .refine⟨rfl,a,c,λi=>⟨g,0,rfl,(du.1 h2).1,λk hk=>?_⟩⟩;unfold H.cell?;dsimp only;rw[h2,kl];have:=b k _ (fg hk);simpa[List.getD_eq_getElem?_getD,fg hk]using this
def mg.flat{T:gq}{V:Nat->Prop}(h:mg w v xs)(k:∀x,sB v x->V x):cM T V w (Go.Proofs.YtfcgpihkimpkcaaGreatDoor.fF v) xs.length:=by
 rcases h with⟨rfl,rfl⟩|⟨g,o,c,e,z,rfl,h2,p,q,f,i⟩
 .intro a b;cases b
 .intro a b;obtain rfl:(⟨g,0,I⟩:Addr)=a:=jx b;have d:V g:=k g ⟨_,_,_,rfl,rfl⟩;refine⟨rfl,d,⟨c,e,z,h2⟩,λ_=>⟨d,c,e,z,h2,by simpa using f,λj v l n=>?_⟩⟩;have m:j<xs.length:=by simpa using l
  have:=i j _ (fg m);rw[n]at this;cases this;exact .inl (cR _ _)
open Classical in
noncomputable def MB(w:H)(s:Sl):List Int:=if h:∃xs,mg w (.slice s.A s.n s.c) xs then h.choose else[]
def Jz(h:mg w v xs):MB w (fF v)=xs:=by
 have a:mg w (.slice (fF v).A (fF v).n (fF v).c) xs:=by rw[<- h.fF.1];exact h
 have b:∃xs,mg w (.slice (fF v).A (fF v).n (fF v).c) xs:=⟨xs,a⟩;unfold MB;rw[dif_pos b];exact b.choose_spec.uniq a
def Va{base:Nat}{l:bN}:∀{got:List (Nat×M)},(∀p∈got,p.2=.slice (fF p.2).A (fF p.2).n (fF p.2).c)->aL base l got=(got.map λp=>(fF p.2,((dh (p.1-base) l.W.length).length:Int))).flatMap Fw
 | [],_=>rfl
 | p::got,h=>by
  have c:=Va (base:=base) (l:=l) (got:=got) λq b=>h q (by simp[b]);have e:aL base l (p::got)=[p.2,.int .i64 ((dh (p.1-base) l.W.length).length:Nat)]++aL base l got:=rfl;rw[e,c,List.map_cons,List.flatMap_cons];have a:=h p ss;have:Fw (fF p.2,((dh (p.1-base) l.W.length).length:Int))=[p.2,.int .i64 ((dh (p.1-base) l.W.length).length:Nat)]:=by
   unfold Fw;dsimp only;rw[<- a]
  rw[this]
def PM{post:M->H->Prop}{J:Gh}{b:aC}{c0:Kf}{cs:List Kf}(A:Main J w)(a2:cy TA (J.V 0) w b l)(P:ay b l=0)(a7:lK b l b.D.toNat=false)(hall:∃k,k<2^l.W.length/\ia b l k=false)
  (next:∀σ' w' v Z,Main σ' w'->(∀x,J.V 0 x->σ'.V 0 x)->aH (J.V 0) w w'->Z<2^l.W.length->ia b l Z=false->mg w' v (dh Z l.W.length)->(∀x,sB v x->σ'.V 0 x)->
   aQ fI F post (G (c0.finish (.tuple #[v,.int .i64 0])) cs) σ' w'):
  aQ fI F post (G (Kf.enter F 41 #[b.v] .normal) (c0::cs)) J w:=xbm
end Go.Proofs.YtfcgpihkimpkcaaGreatDoor
