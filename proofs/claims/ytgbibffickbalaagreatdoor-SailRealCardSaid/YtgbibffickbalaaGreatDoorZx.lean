/- SailReal holds of the given program, for every book, picks, step and hour. -/
import Derived.Test.YtgbibffickbalaaGreatDoorZv
import Derived.Test.YtgbibffickbalaaGreatDoorZw
import Derived.Test.YtgbibffickbalaaGreatDoorRows
import Derived.ProofKit
import Derived.LaidMore
import Derived.Conc.LeavingOf
import Derived.Deep.SlicePairs
import Derived.Deep.Slices
import Derived.Deep.Strs
import Derived.OpenShut
import Derived.Conc.Holds
import Derived.Stop.Joined
import Derived.Test.YtgbibffickbalaaGreatDoorTie
import Derived.Test.YtgbibffickbalaaGreatDoorCards
import Derived.SevenTiedAt
set_option maxRecDepth 100000
set_option maxHeartbeats 4000000
set_option linter.all false
noncomputable section
open Go renaming World->Cl,undef->D,World->H,execOp->Hn,Frame->Kf,Oper->Kp,TypeId->Lk,stepG->Lq,Code->Ly,Value->M,Calls->PH,Program->Ps,Goroutine->QP,heap_alloc_old->QR,heap_alloc_new->Sp,resolve->ab,Operand->ae,MemOp->al,yielded->aw,FuncId->ba,bodyPost_ret->bd
open Go.Proofs.Tryz renaming prog->F,prog->Hb
open Go.RowKit renaming Below->Hd,Below->X
open Option renaming none->I,some->Y
namespace Go
def lM{p:Prop}(h:p:=by
 first|have _:=ø;(rcases hp h with c|⟨a,L,A,n,Q,R,U,V,Z,P1,c,S,G⟩)|have _:=å;(rcases open_slice Tryz.underlying29 h with⟨c,-⟩|⟨a,L,A,m,n,D,a1,c, -, S, -, O, -, G⟩)|have _:=æ;(rcases open_slice1 Tryz.underlying24 kr h with⟨c,-⟩|⟨a,L,A,m,n,a5,D,a1,c, -, S, -, O, -, G⟩)|(unfold M.okWide at hval;rw[Tryz.underlying32]at hval;obtain⟨s,rfl,o, -,-⟩:=mq Tryz.underlying32 hval;obtain⟨fuel,h⟩:=ht;replace h:TD enc W fuel 32 [.slice s.A s.n s.c]=Y (d,p):=h;rcases open_slice1 Tryz.underlying32 kr h with⟨c,-⟩|⟨a,L,A,m,n,a5,D,a1,c, -, S, -, O, -, G⟩)
 .simp only[np,lL,and_true]at c;first|have _:=ë;exact⟨s,rfl,λa f=>(by rw[c.1]at f;cases f),λk hk=>mi hk zz⟩|exact⟨[],⟨c.2.1,qT _,qT _,λh=>mi h (dj 0)⟩,J9 o λa f=>by rw[c.1]at f;cases f⟩
 .simp only[np,lL,and_true]at c;obtain⟨K,rfl,rfl⟩:=c;obtain⟨E,P, -,-⟩:=o a K
  first
  |have _:=ø
   have g:∀i,i<s.n->∃z r:Int,W (a.block,a.off+i*2)=Y (.int .i64 z)/\W (a.block,a.off+i*2+1)=Y (.int .i64 r):=λi hi=>by
    obtain⟨h2,a2,B,a6⟩:=G i zz;obtain⟨z,u, -,-⟩:=DataW.trod_int Tryz.underlying3 B;obtain⟨r,a3, -,-⟩:=DataW.trod_int Tryz.underlying3 a6;simp only[np,and_true]at u a3;rw[xe E,u]at h2;rw[xe E,a3]at a2;exact⟨z,r,h2,a2⟩
   refine⟨(List.range s.n).map λi=>(Fh (W.cell? ⟨a.block,a.off+i*2,I⟩),Fh (W.cell? ⟨a.block,a.off+i*2+1,I⟩)),⟨by simp,by simpa using hnc,by simp;omega,λ_=>⟨a.block,a.off,?_,tA.1 P,λk hk=>?_⟩⟩,J9 o λy f j C=>?_⟩
  |have _:=æ
   simp only[if_true]at O;have g:∀i,i<s.n->∃z:Int,W (a.block,a.off+i)=Y (.int .i64 z):=λi hi=>by
    obtain⟨h2,B⟩:=G i zz;obtain⟨z,u, -,-⟩:=DataW.trod_int Tryz.underlying3 B;simp only[np,and_true]at u;rw[xe E,u]at h2;exact⟨z,h2⟩
   refine⟨(List.range s.n).map λi=>Fh (W.cell? ⟨a.block,a.off+i,I⟩),⟨by simp,by simpa using hnc,by simp;omega,λ_=>⟨a.block,a.off,?_,tA.1 P,λk hk=>?_⟩⟩,J9 o λy f j C=>?_⟩
  |have _:=ë
   simp only[if_true]at O;have g:∀i,i<s.n->∃z:Int,W (a.block,a.off+i)=Y (.int .u16 z)/\0<=z/\z<=65535:=λi hi=>by
    obtain⟨h2,B⟩:=G i zz;obtain⟨z,u, -, h5⟩:=DataW.trod_int Tryz.underlying150 B;simp only[np,and_true]at u;rw[xe E,u]at h2;simp only[Lit.wf,du,decide_eq_true_eq]at h5;exact⟨z,h2,h5⟩
   refine⟨s,rfl,J9 o λy f j C=>?_,λk hk=>?_⟩
   .obtain rfl:a=y:=km (K.symm.tn f);obtain⟨z,b,-⟩:=g j C;exact⟨_,b,cR _ _⟩
  |simp only[if_true]at O
   have a9:F.cellsOf 80=3:=by kernel_rfl
   have a7:F.cellsOf 3=1:=by kernel_rfl
   have a8:F.cellsOf 4=1:=by kernel_rfl
   have g:∀i,i<s.n->∃(z r:Int) (q:Bool),W (a.block,a.off+i*3)=Y (.int .i64 z)/\W (a.block,a.off+i*3+1)=Y (.int .i64 r)/\W (a.block,a.off+i*3+2)=Y (.bool q):=λi hi=>by
    obtain⟨dp,h2,B⟩:=G i zz;rw[a9]at h2;obtain⟨-, a0,N⟩:=Cl.cells?_some h2;obtain⟨y0,y1,y2,k, -, -, g0,g1,g2⟩:=trod_struct3 Tryz.underlying80 B
    match dp,a0,N with
    | [c0,c1,c2],_,N=>
     simp only[a7,a8,List.drop_zero,List.drop_succ_cons,List.take_succ_cons,List.take_zero]at g0 g1 g2;obtain⟨z0,q0, -,-⟩:=DataW.trod_int Tryz.underlying3 g0;obtain⟨z1,q1, -,-⟩:=DataW.trod_int Tryz.underlying3 g1;obtain⟨z2,q2,-⟩:=DataW.trod_bool Tryz.underlying4 g2;simp only[np,and_true]at q0 q1 q2;subst q0 q1 q2;have k0:=N 0 zz;have k1:=N 1 zz;have k2:=N 2 zz;rw[xe E]at k0 k1 k2;exact⟨z0,z1,z2,k0,k1,k2⟩
   refine⟨(List.range s.n).map λi=>(Fh (W.cell? ⟨a.block,a.off+i*3,I⟩),Fh (W.cell? ⟨a.block,a.off+i*3+1,I⟩),VW (W.cell? ⟨a.block,a.off+i*3+2,I⟩)),⟨by simp,by simpa using hnc,by simp;omega,λ_=>⟨a.block,a.off,?_,tA.1 P,λk hk=>?_⟩⟩,J9 o λy f j C=>?_⟩
  .first|have _:=ë;obtain⟨z,b,b1⟩:=g k hk;refine⟨a.block,a.off,z,?_,tA.1 P,b,b1⟩|skip
   rw[K];obtain⟨b2,b3,b4⟩:=a;simp only at E;rw[E]
  first
  |done
  |have _:=æ
   .have w:k<s.n:=by simpa using hk
    obtain⟨z,b⟩:=g k w;simp[List.getD,w,b,Fh]
   .obtain rfl:a=y:=km (K.symm.tn f);obtain⟨z,b⟩:=g j (by simpa using C);exact⟨_,b,cR _ _⟩
  |have _:=ø
   .have w:k<s.n:=by simpa using hk
    obtain⟨z,r,b,J⟩:=g k w;simp[List.getD,w,b,J,Fh]
   (·obtain rfl:a=y:=km (K.symm.tn f)
     have a':j<s.n*2:=by simpa using C
     obtain⟨z,r,b,J⟩:=g (j/2) zz;rcases(show j=j/2*2\/j=j/2*2+1 from zz)with e|e
     .rw[e];exact⟨_,b,cR _ _⟩
     .rw[e];exact⟨_,J,cR _ _⟩)
  |·have w:k<s.n:=by simpa using hk
    obtain⟨z,r,q,b,J,T⟩:=g k w;simp[List.getD,w,b,J,T,Fh,VW]
   .obtain rfl:a=y:=km (K.symm.tn f);have a':j<s.n*3:=by simpa using C
    obtain⟨z,r,q,b,J,T⟩:=g (j/3) zz;rcases(show j=j/3*3\/j=j/3*3+1\/j=j/3*3+2 from zz)with e|e|e
    .rw[e];exact⟨_,b,cR _ _⟩
    .rw[e];exact⟨_,J,cR _ _⟩
    .rw[e];exact⟨_,T,sN _⟩):p:=h
def xa{p:Prop}(h:p:=by
 have hlt:=(List.getElem?_eq_some_iff.1 e).1;refine⟨h.1,h.2.1,h.2.2.1,λi=>?_⟩;obtain⟨b,off,d,m,hc⟩:=h.2.2.2 i;first|have _:=ø;have g:jz s (l.length*2)=(b,off,l.length*2):=by unfold jz;rw[d]|have _:=å;have g:jz s (l.length*3)=(b,off,l.length*3):=by unfold jz;rw[d]|have g:jz s l.length=(b,off,l.length):=by unfold jz;rw[d]
 rw[g]at e;refine⟨w.heap.size+j,0,by unfold MH;rw[d];rfl,by rw[qK];omega,λk hk=>?_⟩;rw[kx];first|have _:=ø;exact⟨(nZ e (f _ d).2 (by show k*2<l.length*2;omega) c a).tn (hc k hk).1,(nZ e (f _ d).2 (by show k*2+1<l.length*2;omega) c a).tn (hc k hk).2⟩|have _:=å;exact⟨(nZ e (f _ d).2 (by show k*3<l.length*3;omega) c a).tn (hc k hk).1,(nZ e (f _ d).2 (by show k*3+1<l.length*3;omega) c a).tn (hc k hk).2.1,(nZ e (f _ d).2 (by show k*3+2<l.length*3;omega) c a).tn (hc k hk).2.2⟩|exact(nZ e (f _ d).2 hk c a).tn (hc k hk)):p:=h
def xaS{p:Prop}(h:p:=by
 refine⟨h.1,h.2.1,h.2.2.1,λe=>?_⟩;obtain⟨a,off,f,j,hc⟩:=h.2.2.2 e;have d:=(g _ f).2.1;first|have _:=ø;have b:=λk c=>i.intro (aV (hk a d) (hc k c).1) (aV (hk a d) (hc k c).2);exact⟨a,off,f,wY (b 0 e).1,b⟩|have _:=å;have b:=λk c=>i.intro (aV (hk a d) (hc k c).1) (i.intro (aV (hk a d) (hc k c).2.1) (aV (hk a d) (hc k c).2.2));exact⟨a,off,f,wY (b 0 e).1,b⟩|have b:=λk c=>aV (hk a d) (hc k c);exact⟨a,off,f,wY (b 0 e),b⟩):p:=h
def oO{p:Prop}(h:p:=by
 rcases iq k h with⟨j,h2⟩|⟨j,h2,l⟩
 first
 |have _:=ø
  .exact a.vv _ (d.see c c' s h2)
 |·omega
 .cases l;obtain rfl:c=N:=zz;rw[Nat.sub_self];first|have _:=ø;exact B|exact⟨A,t⟩):p:=h
def Z2{p:Prop}(h:p:=by
 generalize(fa n f).tmps=A at e;unfold results;simp[d,e]):p:=h
end Go
namespace Go.Proofs.YtgbibffickbalaaGreatDoor
open Go.RowKit Go.Co Go.Conc
variable{V V' O:Nat->Prop}{w bj:H}{x:Nat×Nat×Nat}{m j i n:Nat}{l d' ds:List Int}{T:gq}{a v b a' b':M}{s' s:Sl}{κ:Nat->Kd}{Z:Ren}{e0:Lk}{ws:List (Nat×Nat×Nat)}{sh:Int}{main:Bool}{Stop:(Nat->Prop)->(Nat->Prop)->QP->H->Prop}{k:List Item}{cs:List Kf}{ops:Array Kp}{rest:List Nat}{o:Kp}{f:Nat->M}{fn:ba}{xs:Array ae}{ts:Array Lk}{args eQ:Array M}{bk:aC}
def jz(s:Sl)(m:Nat):Nat×Nat×Nat:=match s.A with|some a=>(a.block,a.off,m)|none=>(0,0,0)
def MH(N:Nat)(s:Sl):Sl:=⟨s.A.map λ_=>(N,0),s.n,s.c⟩
def jb(V:Nat->Prop)(w:H)(s:Sl)(m:Nat):Prop:=∀a,s.A=Y a->a.spot=I/\sr V w (a.block,a.off,m)
end Go.Proofs.YtgbibffickbalaaGreatDoor
open Go in
open Go.Proofs.YtgbibffickbalaaGreatDoor in
open Go.RowKit Go.Co Go.Conc in
variable{n:Nat} in
variable{o:Kp} in
def Go.Co.sr.mono{V V':Nat->Prop}{w bj:Cl}{x:Nat×Nat×Nat}(h:sr V w x)(hV:∀x,V x->V' x)(hk:∀x,V x->bj.heap[x]?=w.heap[x]?):sr V' bj x:=
 ⟨hV _ h.1,let⟨c,e,z,h1,h2⟩:=h.2;⟨c,e,z,(hk _ h.1).tn h1,h2⟩⟩
namespace Go.Proofs.YtgbibffickbalaaGreatDoor
open Go.RowKit Go.Co Go.Conc
variable{V V' O:Nat->Prop}{w bj:H}{x:Nat×Nat×Nat}{m j i n:Nat}{l d' ds:List Int}{T:gq}{a v b a' b':M}{s' s:Sl}{κ:Nat->Kd}{Z:Ren}{e0:Lk}{ws:List (Nat×Nat×Nat)}{sh:Int}{main:Bool}{Stop:(Nat->Prop)->(Nat->Prop)->QP->H->Prop}{k:List Item}{cs:List Kf}{ops:Array Kp}{rest:List Nat}{o:Kp}{f:Nat->M}{fn:ba}{xs:Array ae}{ts:Array Lk}{args eQ:Array M}{bk:aC}
def jb.mono{s:Sl}(h:jb V w s m)(c:∀x,V x->V' x)(hk:∀x,V x->bj.heap[x]?=w.heap[x]?):jb V' bj s m:=λa b=>⟨(h a b).1,(h a b).2.mono c hk⟩
def qJ(hB:Base TA V w e0)(h:jb V w s m):sr V w (jz s m):=by
 unfold jz
 cases b:s.A with
 | some a=>exact(h a b).2
 | none=>exact⟨hB.v0,let⟨c,z,x⟩:=hB.cells;⟨c,e0,z,x,λj d=>mi d (Nat.not_lt_zero _)⟩⟩
def nZ{i:Nat}(d:ws[j]?=Y x)(g:sr V w x)(hi:i<x.2.2)(h:Nat->Question->Nat)(a:Nat):(tp (wK TA V e0 w ws) h a).cell? ⟨w.heap.size+j,i,I⟩=w.cell? ⟨x.1,x.2.1+i,I⟩:=by
 obtain⟨-, c,e,z,hc,f⟩:=g;show(wK TA V e0 w ws).cell? _=_;unfold H.cell?;rw[IY d,IZ hc,hc];show(c.extract x.2.1 (x.2.1+x.2.2))[i]?=c[x.2.1+i]?;obtain⟨v,b,-⟩:=f i hi;have hlt:=(ec.1 b).1;rw[Array.getElem?_extract,qWB zz]
def qK(b:Nat->Question->Nat)(a:Nat):(tp (wK TA V e0 w ws) b a).heap.size=w.heap.size+ws.length:=qf
def EO(h:aN w s l)(f:jb V w s l.length)(e:ws[j]?=Y (jz s l.length))(c:Nat->Question->Nat)(a:Nat):aN (tp (wK TA V e0 w ws) c a) (MH (w.heap.size+j) s) l:=xa
def AV{l:List (Int×Int)}(h:bp w s l)(f:jb V w s (l.length*2))(e:ws[j]?=Y (jz s (l.length*2)))(c:Nat->Question->Nat)(a:Nat):bp (tp (wK TA V e0 w ws) c a) (MH (w.heap.size+j) s) l:=by
 have ø:=0;exact xa
def PZ{l:List (Int×Int×Bool)}(h:fL w s l)(f:jb V w s (l.length*3))(e:ws[j]?=Y (jz s (l.length*3)))(c:Nat->Question->Nat)(a:Nat):fL (tp (wK TA V e0 w ws) c a) (MH (w.heap.size+j) s) l:=by
 have å:=0;exact xa
def yV{hB:Base T V w e0}(d:jb V w s m)(c:ws[j]?=Y (jz s m)):VR (Bj hB ws) (.slice (MH (w.heap.size+j) s).A s.n s.c) (.slice s.A s.n s.c):=by
 unfold MH
 cases b:s.A with
 | none=>exact .nilSlice _ _
 | some a=>
  have e:jz s m=(a.block,a.off,m):=by unfold jz;rw[b]
  rw[e]at c;exact .slice _ _ ⟨rfl,(d a b).1,a.off,I0 c,by simp,rfl⟩
def mh(h:dJ TA V w)(hB:Base TA V w e0)(b:Nat->Question->Nat)(a:Nat):aD (tp (wK TA V e0 w ws) b a):=by
 obtain⟨j,h2,c,d,e,g⟩:=h.gw b a;have hlt:=hB.shown.lt;have f:∀i,(tp (wK TA V e0 w ws) b a).cell? ⟨0,i,I⟩=(tp (gw TA V e0 w) b a).cell? ⟨0,i,I⟩:=λi=>by
  show(wK TA V e0 w ws).cell? _=(gw TA V e0 w).cell? _;unfold H.cell?;rw[IX hlt]
 exact⟨by rw[qK];omega,(f _).tn h2,(f _).tn c,(f _).tn d,(f _).tn e,(f _).tn g⟩
structure uD(V:Nat->Prop)(w:H)(b:aC)(l:bN)(s:Sl)(d:List Int):Prop where
 at_:aI w b l
 dt:aN w s d
 C:jb V w b.C l.C.length
 U:jb V w b.U (l.U.length*2)
 E:jb V w b.E (l.E.length*2)
 W:jb V w b.W (l.W.length*3)
 D:jb V w s d.length
def mA(b:aC)(l:bN)(s:Sl)(d:List Int):List (Nat×Nat×Nat):=[jz b.C l.C.length,jz b.U (l.U.length*2),jz b.E (l.E.length*2),jz b.W (l.W.length*3),jz s d.length]
def bX(N:Nat)(b:aC):aC:= {b with C:=MH (N+0) b.C,U:=MH (N+1) b.U,E:=MH (N+2) b.E,W:=MH (N+3) b.W}
def sX(N:Nat)(s:Sl):Sl:=MH (N+4) s
def wY{a:Addr}(h:w.cell? a=Y v):a.block<w.heap.size:=by
 unfold H.cell? at h
 cases b:w.heap[a.block]? with
 | none=>rw[b]at h;simp at h
 | some o=>exact(ec.1 b).1
section
variable{b:aC}{l:bN}{d:List Int}
def jb.ints{l:List Int}(g:jb V w s l.length)(h:aN w s l)(hk:∀x,V x->bj.heap[x]?=w.heap[x]?):aN bj s l:=by
 refine⟨h.1,h.2.1,h.2.2.1,λb=>?_⟩;obtain⟨a,off,c,i,hc⟩:=h.2.2.2 b;have e:=(g _ c).2.1;have d:=λk f=>aV (hk a e) (hc k f);exact⟨a,off,c,wY (d 0 b),d⟩
def jb.pairs{l:List (Int×Int)}(g:jb V w s m)(h:bp w s l)(hk:∀x,V x->bj.heap[x]?=w.heap[x]?):bp bj s l:=by
 refine⟨h.1,h.2.1,h.2.2.1,λb=>?_⟩;obtain⟨a,off,c,i,hc⟩:=h.2.2.2 b;have d:=(g _ c).2.1;have e:=λk f=>And.intro (aV (hk a d) (hc k f).1) (aV (hk a d) (hc k f).2);exact⟨a,off,c,wY (e 0 b).1,e⟩
def jb.abd{l:List (Int×Int×Bool)}(hw:jb V w s m)(h:fL w s l)(hk:∀x,V x->bj.heap[x]?=w.heap[x]?):fL bj s l:=by
 refine⟨h.1,h.2.1,h.2.2.1,λh0=>?_⟩;obtain⟨bb,off,hA,hb,hc⟩:=h.2.2.2 h0;have hV:=(hw _ hA).2.1;have hc':=λk hk'=>And.intro (aV (hk bb hV) (hc k hk').1) (And.intro (aV (hk bb hV) (hc k hk').2.1) (aV (hk bb hV) (hc k hk').2.2));exact⟨bb,off,hA,wY (hc' 0 h0).1,hc'⟩
def uD.mono(h:uD V w b l s d)(a:∀x,V x->V' x)(hk:∀x,V x->bj.heap[x]?=w.heap[x]?):uD V' bj b l s d:=
 ⟨⟨h.C.ints h.at_.C hk,h.U.pairs h.at_.U hk,h.E.pairs h.at_.E hk,h.W.abd h.at_.W hk⟩,h.D.ints h.dt hk,h.C.mono a hk,h.U.mono a hk,h.E.mono a hk,h.W.mono a hk,h.D.mono a hk⟩
def uD.bH{bm bo:Nat->Prop}(h:uD V w b l s d)(a:dU V O w bm bo bj):uD bm bj b l s d:=h.mono a.vv a.rely.keep
def uD.okD(h:uD V w b l s d)(hB:Base TA V w e0)(c:jb V w s' d'.length):∀x∈mA b l s' d',sr V w x:=by
 intro x a;simp only[mA,dq,fp,or_false]at a;rcases a with rfl|rfl|rfl|rfl|rfl
 .exact qJ hB h.C
 .exact qJ hB h.U
 .exact qJ hB h.E
 .exact qJ hB h.W
 .exact qJ hB c
def uD.ok(h:uD V w b l s d)(hB:Base TA V w e0):∀x∈mA b l s d,sr V w x:=h.okD hB h.D
def uD.book(h:uD V w b l s d)(c:Nat->Question->Nat)(a:Nat):aI (tp (wK TA V e0 w (mA b l s' d')) c a) (bX w b) l:=
 ⟨EO h.at_.C h.C rfl c a,AV h.at_.U h.U rfl c a,AV h.at_.E h.E rfl c a,PZ h.at_.W h.W rfl c a⟩
def uD.lone(h:uD V w b l s d)(c:Nat->Question->Nat)(a:Nat):aI (tp (wK TA V e0 w (mA b l s d)) c a) (bX w b) l/\aN (tp (wK TA V e0 w (mA b l s d)) c a) (sX w s) d:=
 ⟨h.book c a,EO h.dt h.D rfl c a⟩
def uD.RH(h:uD V w b l s d){hB:Base T V w e0}:VR (Bj hB (mA b l s' d')) (bX w b).v b.v:=by
 refine .agg rfl λi x y a c=>?_
 match i,a,c with
 | 0,a,c|1,a,c|2,a,c|3,a,c|4,a,c|6,a,c|7,a,c|8,a,c|9,a,c=>cases a;cases c;exact .int _ _
 | 5,a,c=>cases a;cases c;exact yV h.C rfl
 | 10,a,c=>cases a;cases c;exact yV h.U rfl
 | 11,a,c=>cases a;cases c;exact yV h.E rfl
 | 12,a,c=>cases a;cases c;exact yV h.W rfl
end
section
variable{b:Kf}{n d:Nat}{l:bN}
def cr.Vf{R:M->H->Prop}(g:cr V O w)(C:uD V w bk l s ds)(q:ops[i]?=Y o)(r:o.op=.call {callee:=.value (.func fn),args:=xs,argTypes:=ts})(m:xs.map (fa n f).eval=eQ)(A:o.dst=Y d)(z:d<n)(J:Region.wanted o (aw ops (fa n f).tmps)=true)(hk:b.kind≠.early)
  (p:∀w,(callFunc fn eQ).run F w=.ok (.enter fn eQ) w/\(callFunc fn eQ).events F w #[]= #[])(B:TA.has fn=true)(G:TA.ret fn=.val)(y:∀e0 (hB:Base TA V w e0),KR (TA.kind fn) (Bj hB (mA bk l s ds)) args eQ)
  (hc:∀e0 (_:Base TA V w e0) L,PH F fn args (tp (wK TA V e0 w (mA bk l s ds)) L w.drawn) λe W=>∃v,e=.returned v/\R v W)
  (next:∀e0 (hB:Base TA V w e0) Z v W v' bj a c,R v W->VR Z v v'->ir TA F (w.heap.size+(mA bk l s ds).length) V O w (Bj hB (mA bk l s ds)) Z W bj a c->cr a c bj->dU V O w a c bj->WO main Stop a c b n (ah f d v') ops rest k cs bj):WO main Stop V O b n f ops (i::rest) k cs w:=by
 obtain⟨e0,hB⟩:=g.base;refine WalkE.enter q J hk (λbj=>(kJ r m rfl p).1) (λbj=>(kJ r m rfl p).2) ?_;refine NU (T:=TA) (I1 .skip) B (Sc (C.ok hB) g.cX) rfl (y e0 hB) (hc e0 hB) (λe W h=>⟨h.choose,h.choose_spec.1⟩) (λZ K u v' bj a c E t j=>?_);obtain⟨v,e1,x⟩:=E;cases e1;rw[G]at t;rw[Kf.finish_at];rw[show(ops[i]?).bind (·.dst)=Y d by rw[q];exact A,cw z];exact next e0 hB Z K u v' bj a c x t j (g.bH j.bH) j.bH
def cr.qL(j:cr V O w)(B:uD V w bk l s ds)(C:ops[i]?=Y o)(E:o.op=.call {callee:=.value (.func fn),args:=xs,argTypes:=ts})(q:xs.map (fa n f).eval=eQ)(y:o.dst=Y d)(x:d<n)(L:Region.wanted o (aw ops (fa n f).tmps)=true)(hk:b.kind≠.early)
  (t:∀w,(callFunc fn eQ).run F w=.ok (.enter fn eQ) w/\(callFunc fn eQ).events F w #[]= #[])(z:TA.has fn=true)(G:TA.ret fn=.val)(r:∀e0 (hB:Base TA V w e0),KR (TA.kind fn) (Bj hB (mA bk l s ds)) args eQ)
  (J:eR v)(hc:∀e0 (_:Base TA V w e0) g,PH F fn args (tp (wK TA V e0 w (mA bk l s ds)) g w.drawn) λe _=>e=.returned v)
  (next:∀bj a c,cr a c bj->dU V O w a c bj->WO main Stop a c b n (ah f d v) ops rest k cs bj):WO main Stop V O b n f ops (i::rest) k cs w:=
 j.Vf B (R:=λu _=>u=v) C E q y x L hk t z G r (λe0 hB g=>(hc e0 hB g).mono λe W h=>⟨v,h,rfl⟩) λe0 hB Z u W v' bj a c p K N m A=>by
  subst p;rw[J Z v' K];exact next bj a c m A
def acm{a b a' b':M}(e:dM Z (κ 0) a a')(f:dM Z (κ 1) b b'):KR κ Z #[a,b] #[a',b']:=⟨rfl,λi x y c d=>by
 match i,c,d with
 | 0,c,d=>cases c;cases d;exact e
 | 1,c,d=>cases c;cases d;exact f⟩
def vg(d:dM Z (κ 0) a a'):KR κ Z #[a] #[a']:=⟨rfl,λi x y b c=>by
 match i,b,c with
 | 0,b,c=>cases b;cases c;exact d⟩
def QC{a b c a' b' c':M}(f:dM Z (κ 0) a a')(g:dM Z (κ 1) b b')(h2:dM Z (κ 2) c c'):KR κ Z #[a,b,c] #[a',b',c']:=⟨rfl,λi x y d e=>by
 match i,d,e with
 | 0,d,e=>cases d;cases e;exact f
 | 1,d,e=>cases d;cases e;exact g
 | 2,d,e=>cases d;cases e;exact h2⟩
end
variable{g d d0 d1:Nat}{x:ae}{bm bo:Nat->Prop}{o0 o1:Kp}
section
variable{b:Kf}
def eC{j g:Nat}{t:Bool}(b:o.guard=Y (j,t))(c:(ops[j]?).bind (·.dst)=Y g)(hlt:g<n)(a:f g=.bool (!t)):Region.wanted o (aw ops (fa n f).tmps)=false:=jc b c hlt a
def WalkE.E8(e:ops[i]?=Y o)(c:o.dst=Y d)(a:d<n)(g:Region.wanted o (aw ops (fa n f).tmps)=false)
  (next:WO main Stop V O b n (ah f d D) ops rest k cs w):WO main Stop V O b n f ops (i::rest) k cs w:=
 WalkE.ctl (λ_=>stepG_unwanted e g) (by rw[c,cw a];exact next)
def WalkE.pJ{t:Lk}(ad:Addr)(v:M)(j:OneCell F t)(r:ops[i]?=Y o)(l:o.op=.load t x)(m:(fa n f).eval x=.pointer (Y ad))(c:V ad.block)(hc:w.cell? ad=Y v)(q:o.dst=Y d)(p:d<n)(s:Region.wanted o (aw ops (fa n f).tmps)=true)(hk:b.kind≠.early)
  (next:WO main Stop V O b n (ah f d v) ops rest k cs w):WO main Stop V O b n f ops (i::rest) k cs w:=by
 refine WalkE.value v r s hk (λbj g=>?_) (λbj g e a=>?_) (by rw[q,cw p];exact next)
 .unfold Hn;simp only[l,m];have:=(j bj ad v (bu g c hc)).1;simp[this]
 .unfold Hn at a;simp only[l,m]at a;have h2:=(j bj ad v (bu g c hc));simp[h2.1,h2.2]at a;subst a;exact⟨rfl,c,λh=>by cases h⟩
theorem Rl{bk:aC}(b:o.op=.box 31 x)(a:(fa n f).eval x=bk.v):(Hn (fa n f).eval o).events F w #[]= #[]:=by
 unfold aC.v at a;unfold Hn;simp only[b,a];simp[go_sem]
end
theorem acU:OneCell F 24:=λw ad v h=>⟨by go_simp,by simp[go_sem,h]⟩
def Nk(V:Nat->Prop)(w:H)(s:Sl):Prop:=cM TA V w s 0
structure Um(V:Nat->Prop)(w:H)(b:aC):Prop where
 C:Nk V w b.C
 U:Nk V w b.U
 E:Nk V w b.E
 W:Nk V w b.W
section
variable{b:aC}
def Um.mono(h:Um V w b)(a:∀x,V x->V' x)(hk:∀x,V x->bj.heap[x]?=w.heap[x]?):Um V' bj b:=⟨cM.mono h.C a hk,cM.mono h.U a hk,cM.mono h.E a hk,cM.mono h.W a hk⟩
def Um.vr(h:Um V w b){hB:Base TA V w e0}:VR (gr hB) b.v b.v:=by
 have c:VR (gr hB) (.slice b.C.A b.C.n b.C.c) (.slice b.C.A b.C.n b.C.c):=jg (cM.flat h.C);have f:VR (gr hB) (.slice b.U.A b.U.n b.U.c) (.slice b.U.A b.U.n b.U.c):=jg (cM.flat h.U);have d:VR (gr hB) (.slice b.E.A b.E.n b.E.c) (.slice b.E.A b.E.n b.E.c):=jg (cM.flat h.E);have g:VR (gr hB) (.slice b.W.A b.W.n b.W.c) (.slice b.W.A b.W.n b.W.c):=jg (cM.flat h.W);refine .agg rfl λi x y a j=>?_;have e:Y x=Y y:=a.symm.tn j;cases e
 match i,a with
 | 0,a=>cases a;exact .int _ _
 | 1,a=>cases a;exact .int _ _
 | 2,a=>cases a;exact .int _ _
 | 3,a=>cases a;exact .int _ _
 | 4,a=>cases a;exact .int _ _
 | 5,a=>cases a;exact c
 | 6,a=>cases a;exact .int _ _
 | 7,a=>cases a;exact .int _ _
 | 8,a=>cases a;exact .int _ _
 | 9,a=>cases a;exact .int _ _
 | 10,a=>cases a;exact f
 | 11,a=>cases a;exact d
 | 12,a=>cases a;exact g
end
def Uo{w:H}{b:aC}(h:aK w g 31 b):∀i v,(wE b)[i]?=Y v->w.cell? ⟨g,i,I⟩=Y v:=λi v a=>by
 unfold H.cell?;rw[h];exact a
section
variable{b:Kf}
end
variable{b:Kf}{l:bN}
structure Fg(V O:Nat->Prop)(w:H)(g:Nat)(b:aC):Prop where
 co:cr V O w
 gV:V g
 box:∀(i:Nat) v,(wE b)[i]?=Y v->w (g,i)=Y v
def Fg.bH{V O bm bo:Nat->Prop}{w bj:H}{g:Nat}{b:aC}(h:Fg V O w g b)(a:dU V O w bm bo bj):Fg bm bo bj g b:=
 ⟨h.co.bH a,a.vv _ h.gV,λi v c=>aV (a.rely.keep _ h.gV) (h.box i v c)⟩
def qS(V:Nat->Prop)(w:H)(b:aC)(l:bN):Prop:=uD V w b l iy []
def B9(w:H):aN w iy []:=⟨rfl,qN _,qT _,λh=>mi h (dj 0)⟩
def Gx(V:Nat->Prop)(w:H)(m:Nat):jb V w iy m:=λa b=>by cases b
def aaL{T:gq}{V0 O0 V O:Nat->Prop}{w0 w:H}{N:Nat}{ρ0:Ren}{W0:H}{g:Nat}{b b3:aC}(d:ir T F N V0 O0 w0 ρ0 ρ0 W0 w0 V0 O0)(n:W0.heap.size=N)(a:dU V0 O0 w0 V O w)(B:V g)(A:O g)(t:w0.heap.size<=g)(z:aK w g 31 b)(E:VR ρ0 b3.v b.v):
  ir T F N V0 O0 w0 ρ0 (ρ0.ext N g (N+1) false) (W0.alloc (aE b3 31)) w V O:=by
 have k:∀c x,ρ0 c=Y x->c<N:=λc x h=>n▸d.mem.dom c x h;have C:=d.mem.rely d.see a.rely;have y:=IP (n':=g) (n1:=N+1) (m:=false) k 0 zz;refine⟨⟨λc x h=>?_,λc c' s h=>?_,by rw[aa];omega,IQ k d.mem.sep λc c' s h=>qP (d.mem.cod c c' s h) t,λc o f=>?_,d.mem.tab⟩,NI,λc c' s h=>?_,λc c' s hc h=>?_,
  λx=>⟨λh=>(a.vo x h).imp id λq=>⟨h,q.1,q.2⟩,λh=>h.elim (a.vv x) (·.1)⟩,λx=>⟨λh=>(a.ov x h).imp id λq=>⟨q.1,h,q.2⟩,λh=>h.elim (a.oo x) (·.2.1)⟩,
  d.vb,a.rely.size,a.rely.tape,a.rely.os,a.rely.output,a.rely.keep,a.cX⟩
 .rw[aa];rcases iq k h with⟨j,h2⟩|⟨j,h2,l⟩<;>omega
 .rcases iq k h with⟨j,h2⟩|⟨j,h2,l⟩
  .exact qP (d.mem.cod c c' s h2) a.rely.size
  .cases l;have:=z.lt;omega
 .by_cases hc:c<N
  .rw[QR _ _ zz]at f;exact HR.mono NI C.hr c o f
  .have e:c=N:=by
    have:=(ec.1 f).1;rw[aa]at this;omega
   rw[e]at f|-;rw[<- n]at f;rw[Sp]at f;cases f;refine⟨g,0,_,y.1,z,?_,λh=>mi h (dj _)⟩;rw[show(ρ0.ext N g (N+1) false).cls N=false from y.2];refine .plain (.cells (λi v hi=>?_) λi _ _ h=>mi h (Nat.not_lt_zero _));obtain⟨G,hc⟩:=eH.cellsOf E;have u:b3.v.cells[i]?=Y v:=hi;have hlt:=(ec.1 u).1;have r:b.v.cells[i]?=Y b.v.cells[i]:=fi zz;exact⟨_,r,(hc i v _ u r).mono NI⟩
 .have ø:=0;exact oO
 .exact oO
section
variable{fn n r:Nat}{F:Func}
section
variable{main:Bool}{Stop:(Nat->Prop)->(Nat->Prop)->QP->H->Prop}{V O:Nat->Prop}{w:H}{b:Kf}{K:List Item}{cs:List Kf}{ops:Array Kp}{n:Nat}{f:Nat->M}{rest:List Nat}
end
def XX(fn n r:Nat)(g:QP):Prop:=∃f k,g=G { (bs .normal fn).at (fa n f) k with mode:=.returning} []/\f r=.bool true
def Tx(hF:Hb.funcs[fn]?=Y F)(d:F.results= #[.tmp r])(i:r<n)(g:2≠fn){f:Nat->M}{k:List Item}(h:f r=.bool true)(w:H):Lq Hb true (G { (bs .normal fn).at (fa n f) k with mode:=.returning} []) w=.ended (.done (.bool true)) w #[]:=by
 have e:(fa n f).tmps[r]?=Y (.bool true):=by rw[ej i,h]
 have b:(results F (fa n f).tmps).run Hb w=.ok (.bool true) w:=by
  exact Z2
 have h2:(results F (fa n f).tmps).events Hb w #[]= #[]:=by
  exact Z2
 have c:(fa n f).defers=[]:=rfl;generalize fa n f=a at b h2 c|-;simp[c,G,Lq,unwind,doReturn,Kf.at,bs,hF,b,h2,seen,GStep.after,g];done
def Ie(fn n r:Nat)(c0:Kf):Prop:=∀(a c:Nat->Prop) (b:H),WalkE Hb true (λd _ e f=>XX fn n r e/\(∀x,a x->d x)/\aH a b f) a c (G (c0.finish (.bool true)) []) b
def MO(fn n r:Nat)(V:Nat->Prop)(w:H)(V' a:Nat->Prop)(g':QP)(w':H):Prop:=
 ∃c0,g'=G (Kf.enter Hb 5 #[] .normal) [c0]/\cr V' a w'/\(∀x,V x->V' x)/\aH V w w'/\Ie fn n r c0
def QB(hF:Hb.funcs[fn]?=Y F)(t:F.results= #[.tmp r])(A:r<n)(y:2≠fn){post:M->H->Prop}{J:Gh}{w:H}{fr:Kf}(o:Main J w)
  (walk:WalkE Hb true (MO fn n r (J.V 0) w) (J.V 0) (J.O 0) (G fr []) w)
  (v:∀w',aH (J.V 0) w w'->post (.bool true) w'):aQ fI Hb post (G fr []) J w:=by
 refine aQ.walk walk (λ_=>il) (λ_=>il) (λi P S V σ1 a d s hk=>?_);obtain⟨c0,rfl,l,e,B,m⟩:=a;have p:=l.main o hk d s;obtain rfl:i=σ1.V 0:=funext λb=>propext (d b).symm;refine Rj p λσ2 O q L C=>?_;refine aQ.walk (m (σ2.V 0) (σ2.O 0) O) (λ_=>il) (λ_=>il) (λR Q T W Z a u U z=>?_);obtain⟨⟨f,k,rfl,j⟩,N,E⟩:=a;refine aQ.Zi (z.md.tn q.idle.md) λh K=>⟨_,Tx hF t A y j h,v h ?_⟩;have g:∀x,J.V 0 x->σ2.V 0 x:=λx c=>L x (e x c);exact((B.tn (C.mono e)).tn (E.mono g)).tn (K.mono λx c=>(u x).2 (N x (g x c)))
end
variable{t:Lk}
theorem WalkE.pK{op:BinOp}{F:Int->Int->Bool}{x y:ae}{t t':Lk}{a c:Int}(r:Bool)(hF:TG op=Y F)(m:ops[i]?=Y o)(e:o.op=.binOp op t x y t')(g:(fa n f).eval x=.int .i64 a)(h:(fa n f).eval y=.int .i64 c)(p:F a c=r)(l:o.dst=Y d)(j:d<n)(q:Region.wanted o (aw ops (fa n f).tmps)=true)(hk:b.kind≠.early)
  (next:WO main Stop V O b n (ah f d (.bool r)) ops rest k cs w):WO main Stop V O b n f ops (i::rest) k cs w:=
 WalkE.pv _ m l j q hk (λbj=>Sr e hF g h p ⟨rfl⟩) (λbj=>by
  unfold Hn;simp only[e,g,h];cases op<;>cases hF<;>simp[go_sem]) next
theorem WalkE.Ur{s z g off kk:Nat}(a:(ZK s)[kk]?=Y z)(m:ops[i]?=Y o)(c:o.op=.fieldAddr s x kk)(e:(fa n f).eval x=.pointer (Y (g,off)))(l:o.dst=Y d)(j:d<n)(p:Region.wanted o (aw ops (fa n f).tmps)=true)(hk:b.kind≠.early)
  (next:WO main Stop V O b n (ah f d (.pointer (Y (g,off+z)))) ops rest k cs w):WO main Stop V O b n f ops (i::rest) k cs w:=
 WalkE.pv _ m l j p hk (λbj=>TH c a e ⟨rfl⟩) (λbj=>by
  unfold Hn;simp only[c,e];unfold ZK at a;repeat' split at a
  .subst s;iterate 10 (rcases kk with _|kk; · cases a;simp[go_sem])
   cases a
  .subst s;iterate 3 (rcases kk with _|kk; · cases a;simp[go_sem])
   cases a
  .rename_i h;iterate 2 (rcases kk with _|kk; · cases a;rcases h with rfl|rfl|rfl|rfl|rfl<;>simp[go_sem])
   cases a
  .cases a) next
theorem WalkE.IA{A:Option Addr}{m c:Nat}(a:[24,27,28,29].contains t=true)(p:ops[i]?=Y o)(e:o.op=.call {callee:=.builtin .len,args:= #[x],argTypes:= #[t]})(h:(fa n f).eval x=.slice A m c)(g:o.type=3)(l:o.dst=Y d)(j:d<n)(q:Region.wanted o (aw ops (fa n f).tmps)=true)(hk:b.kind≠.early)
  (next:WO main Stop V O b n (ah f d (.int .i64 m)) ops rest k cs w):WO main Stop V O b n f ops (i::rest) k cs w:=
 WalkE.pv _ p l j q hk (λbj=>SF e a g h ⟨rfl⟩) (λbj=>by
  unfold Hn;simp only[e,ab,zM,h,g];simp at a;rcases a with rfl|rfl|rfl|rfl<;>simp[go_sem]) next
section
variable{κ:Nat->Kd}{Z:Ren}{n N g:Nat}{f:Nat->M}{v:M}{b:aC}{s:Sl}
def MM{n d:Nat}{f f':Nat->M}{v v':M}(h:KR κ Z (fa n f).tmps (fa n f').tmps)(c:dM Z (κ d) v v'):KR κ Z (fa n (ah f d v)).tmps (fa n (ah f' d v')).tmps:=by
 refine⟨by simp[fa],λi x y a b=>?_⟩;have hi:i<n:=by
  have:=(ec.1 a).1;simpa[fa]using this
 rw[ej hi]at a b;cases a;cases b;unfold ah;by_cases e:i=d
 .subst e;rw[qWB rfl,qWB rfl];exact c
 .rw[qVB e,qVB e];exact h.2 i _ _ (ej hi) (ej hi)
def Qv{l:bN}:ay (bX N b) l=ay b l:=rfl
def Qw:mX (bX N b)=mX b:=rfl
section
variable{T:gq}{P:Ps}{N:Nat}{V0 O0 V O:Nat->Prop}{w0 w W:H}{ρ0 Z:Ren}
def Ro{C:Array M}{t:Lk}{y:M}(c:ir T P N V0 O0 w0 ρ0 Z W w V O)(k:N<=g)(m:W.heap[g]?=Y (.cells C t (0,0)))(l:dM Z .addr (.pointer (Y (g,0))) y):∃g',y=.pointer (Y (g',0))/\V g'/\∀(i:Nat) (v:M),C[i]?=Y v->∃v',w (g',i)=Y v'/\VR Z v v':=by
 cases l with
 | @ptr _ j h=>
  obtain⟨-, h2,s,a,b,d⟩:=h;dsimp only at a b d;obtain rfl:=(c.mem.sep g _ s k a).1;obtain⟨o,s',q,e,f,n,-⟩:=c.mem.hr.plain m d;rw[a]at e;cases e;obtain⟨g',r,u⟩:=j;simp only at h2 b f;subst h2 b
  cases n with
  | @cells _ _ c' _ _ x hc p=>exact⟨g',by rw[kx],c.see _ _ _ a,λi v hi=>let⟨v',e1,e2⟩:=hc i v hi;⟨v',(show _=_ by unfold H.cell?;dsimp only;rw[f];rfl).tn e1,e2⟩⟩
end
def aaM{V:Nat->Prop}{w:H}{e0:Lk}{ws:List (Nat×Nat×Nat)}{j:Nat}(h:Ca w s)(g:jb V w s s.n)(c:ws[j]?=Y (jz s s.n))(e:Nat->Question->Nat)(d:Nat):Ca (tp (wK TA V e0 w ws) e d) (MH (w.heap.size+j) s):=λk hk=>by
 obtain⟨b,off,v,a,l,hc,f,h2⟩:=h k hk;have hlt:=(List.getElem?_eq_some_iff.1 c).1;have i:jz s s.n=(b,off,s.n):=by unfold jz;rw[a]
 rw[i]at c;refine⟨w.heap.size+j,0,v,by unfold MH;rw[a];rfl,by rw[qK];omega,?_,f,h2⟩;rw[kx];exact(nZ c (g _ a).2 hk e d).tn hc
def yS(b:aC)(s:Sl)(stp hour:Int):Array M:= #[b.v,.slice s.A s.n s.c,.int .u8 stp,.int .u8 hour]
def ZJ(b:aC)(s:Sl)(stp hour:Int):Nat->M:=λi=>(yS b s stp hour).getD i D
def frR(s:Nat->M)(v:M)(g:Nat):Nat->M:=ah (ah (ah (ah (ah s 4 (.pointer (Y (g,0)))) 8 (.bool false)) 35 v) 36 (.bool true)) 37 (.bool false)
def Ut:Ly:=RI 17 Rl3
def acV:Yp (TR Ut) F (xO 3) 17 Rl3=true:=p9
section
variable{main:Bool}{Stop:(Nat->Prop)->(Nat->Prop)->QP->H->Prop}{V O:Nat->Prop}{w:H}{cs:List Kf}{b:aC}{l:bN}{s:Sl}{stp hour:Int}
def acn{b3 b:aC}{s3 s:Sl}{g g':Nat}(e:VR Z b3.v b.v)(k:VR Z (.slice s3.A s3.n s3.c) (.slice s.A s.n s.c))(d:Z g=Y (g',0)/\Z.cls g=false)(n:κ 4=.addr)(k0:κ 0=.val)(l:κ 1=.val)(m:κ 35=.val):
  KR κ Z (fa 236 (frR (ZJ b3 s3 stp hour) b3.v g)).tmps (fa 236 (frR (ZJ b s stp hour) b.v g')).tmps:=by
 have j:dM Z .addr (.pointer (Y (g,0))) (.pointer (Y (g',0))):=.ptr ⟨rfl,rfl,0,d.1,rfl,d.2⟩;have f:KR κ Z (yS b3 s3 stp hour) (yS b s stp hour):=⟨rfl,λi x y a c=>by
  match i,a,c with
  | 0,a,c=>cases a;cases c;rw[k0];exact e
  | 1,a,c=>cases a;cases c;rw[l];exact k
  | 2,a,c|3,a,c=>cases a;cases c;exact .int _ _⟩
 have h:KR κ Z (fa 236 (ZJ b3 s3 stp hour)).tmps (fa 236 (ZJ b s stp hour)).tmps:=by
  have:=NM f 236;rw[iu rfl,iu rfl]at this;exact this
 unfold frR;exact MM (MM (MM (MM (MM h (by rw[n];exact j)) (.bool _)) (by rw[m];exact e)) (.bool _)) (.bool _)
def sl{n i:Nat}{F f:Nat->M}(k:Kd)(h:KR κ Z (fa n F).tmps (fa n f).tmps)(e:F i=v)(hi:i<n:=by omega)(hk:κ i=k:=by kernel_rfl):dM Z k v (f i):=by
 have:=h.2 i _ _ (ej hi) (ej hi);rw[e,hk]at this;exact this
structure acW(V:Nat->Prop)(w:H)(f:Nat->M)(g9 gb n c p:Nat)(A:Option Addr)(LD:List Int)(hN few lo hi:Int):Prop where
 e9:f 9=(g9,0)
 v9:V g9
 c9:w (g9,1)=Y (.slice A n c)
 e10:f 10=p
 r25:dK V w (f 25) LD
 len:LD.length<=400
 e33:f 33=hN
 e27:f 27=(gb,0)
 vb:V gb
 clo:w (gb,0)=Y (.int .i64 lo)
 chi:w (gb,1)=Y (.int .i64 hi)
 e30:f 30=true
 e29:f 29=few
 h1:(p:Int)∈LD->hN=0
 h2:lo<=hN
 h3:hN<=hi
 h4:few<=n
def Yq(t:cr V O w)(hi:qS V w b l)(W:jb V w s s.n)(b9:Ca w s)(hc:ay b l=0)(h1:0<=stp/\stp<=255)(h2:0<=hour/\hour<=255)
  {bm bo:Nat->Prop}{bj:H}(b3:dU V O w bm bo bj)(b2:bm g)(b1:bo g)(b4:w.heap.size<=g)(b':aK bj g 31 b)
  (next:∀f' e i k Q S n c p A y E B lo hi,cr i k e->dU V O w i k e->acW i e f' Q S n c p A y E B lo hi->WalkE Hb main Stop i k (G ((bs .normal 3).at (fa 236 f') [.code Ut]) cs) e):
  WalkE Hb main Stop bm bo (G ((bs .normal 3).at (fa 236 (frR (ZJ b s stp hour) b.v g)) [.code Rl3]) cs) bj:=by
 obtain⟨e0,hB⟩:=t.base;have U:jb V w s (List.replicate s.n (0:Int)).length:=by rw[List.length_replicate];exact W
 have C:=Sc (T:=TR Ut) (P:=Hb) (hB:=hB.tr) (O:=O) (hi.okD hB U) t.cX;have a3:=yV (hB:=hB.tr (r:=Ut)) (ws:=mA b l s (List.replicate s.n 0)) (j:=4) U rfl;have J:=hi.RH (hB:=hB.tr (r:=Ut)) (s':=s) (d':=List.replicate s.n 0);have hk:=λd z=>hi.book (e0:=e0) (s':=s) (d':=List.replicate s.n 0) d z;have u:=λd z=>aaM (e0:=e0) (ws:=mA b l s (List.replicate s.n 0)) (j:=4) b9 W (cd Y (by rw[List.length_replicate])) d z;generalize mA b l s (List.replicate s.n 0)=ws at C a3 J hk u;have a':=aaL C qf b3 b2 b1 b4 b' J;have b8:=IP (n':=g) (n1:=w.heap.size+ws.length+1) (m:=false) (λc x h=>by have:=C.mem.dom c x h;rw[qf]at this;exact this) 0 zz;refine aal (T:=TR Ut) (Q1:=acT (wK TA V e0 w ws)) (I1 _) (Uy acV rfl) a' (acn (g:=w.heap.size+ws.length) (J.mono NI) (a3.mono NI) b8 kr kr kr kr) (λd=>?_) λZ c8 W1 c7 e i k u a o=>?_
 .have:=Xv (b:=bX w.heap.size b) (w0:=tp (wK TA V e0 w ws) d ((wK TA V e0 w ws).alloc (aE (bX w.heap.size b) 31)).drawn) (s:=MH (w.heap.size+4) s) (hk d _) (mh t.checks hB d _) (Qv.tn hc) (u d _) h1 h2 (f:=frR (ZJ (bX w.heap.size b) (MH (w.heap.size+4) s) stp hour) (bX w.heap.size b).v (w.heap.size+ws.length)) rfl rfl rfl (by rw[qK];rfl);exact this
 .obtain⟨F,sh,E,B,lo,b6,⟨c6,N,L⟩,Q,S,p,y,rfl,e9,c9,l9,a4,⟨c4,c5,c2,a2⟩,a0,a8,a5,a1,cb,a7,a6,q1,q2,q3,q4⟩:=u;rw[qf]at l9 a1 a2;obtain⟨f',rfl,-⟩:=qd (n:=236) (by rw[<- a.1];simp[fa]);obtain⟨R,y9,V9,C9⟩:=Ro o (q5A l9) c9 (sl .addr a e9);obtain⟨a9,c3,Vb,K⟩:=Ro o a1 cb (sl .addr a a5);obtain⟨v9,q,r9⟩:=C9 1 _ rfl;obtain⟨d1,b7,c1⟩:=K 0 _ rfl;obtain⟨c',b5,b0⟩:=K 1 _ rfl;obtain rfl:=aG _ _ Z _ c1;obtain rfl:=aG _ _ Z _ b0;obtain⟨v,q⟩:∃v,e.cell? ⟨R,1,I⟩=Y (.slice v N L):=by
   cases r9 with
   | nilSlice=>exact⟨_,q⟩
   | slice=>exact⟨_,q⟩
  exact next f' e i k R a9 N L p v y E B lo b6 (t.bH o.bH) o.bH ⟨y9,V9,q,aG _ _ Z _ (sl .val a a4),(o.row a2 (qN _) (sl .val a c2) (rG _)).1.PN,a0,aG _ _ Z _ (sl .val a a8),c3,Vb,b7,b5,dQ _ Z _ (sl .val a a7),aG _ _ Z _ (sl .val a a6),q1,q2,q3,q4⟩
end
end
variable{K:List Item}{b:aC}{stp hour:Int}
def aaN(b:aC)(s:Sl)(stp hour:Int):Kf.enter F 3 (yS b s stp hour) .normal=(bs .normal 3).at (fa 236 (ZJ b s stp hour)) [.code qQ]:=by
 rw[enter_at (yS b s stp hour) Tryz.func3 rfl];have:yS b s stp hour++Array.replicate (Tryz.f3.ntmps-(yS b s stp hour).size) D=(Array.range 236).map (ZJ b s stp hour):=iu rfl;rw[this];rfl
def Rl0:qQ=.seq (.region 0 acz false) (.seq (.seq (.region 1 abk false) (.cond (.tmp 37) (.seq (.region 2 TO false) .ret) .skip)) Rl3):=rfl
def aaQ(z:cr V O w)(y:Um V w b)(R:mX b=false->∃l,qS V w b l)
  (N:∀f' bj a c,cr a c bj->dU V O w a c bj->WalkE F main Stop a c (G (Kf.enter F 5 #[] .normal) ((bs .normal 3).at (fa 236 f') (.inRegion TO [0,1]::[.code .ret,.code Rl3])::cs)) bj)
  (P:∀l,qS V w b l->ay b l=0->∀bj a c g,cr a c bj->dU V O w a c bj->a g->c g->w.heap.size<=g->aK bj g 31 b->WalkE F main Stop a c (G ((bs .normal 3).at (fa 236 (frR (ZJ b s stp hour) b.v g)) [.code Rl3]) cs) bj):
  WalkE F main Stop V O (G (Kf.enter F 3 (yS b s stp hour) .normal) cs) w:=by
 have hk:=XK 3;rw[aaN,Rl0];refine WalkE.seq (WalkE.reg (l:=[0,1]) rfl ?_);refine WalkE.oa (aE b 31) (λg=>.pointer (Y ⟨g,0,I⟩)) rfl rfl zz rfl hk (λbj _=>B8 rfl (ag (t:=0) zz rfl)) (λbj _ e h=>by rw[Rl rfl (ag (t:=0) zz rfl)]at h;simp at h) λm E=>?_;have d:=((dU.refl (O:=O) z.cX).step E).make (aE b 31);have o:aK (m.alloc (aE b 31)) m 31 b:=Sp _ _;have i:Fg _ _ _ m b:=⟨z.bH d,.inr rfl,Uo o⟩;have B:=E.size;generalize n:m.heap.size=g at d o i B|-;generalize(λx=>V x\/x=g)=V1 at d i|-;generalize(λx=>O x\/x=g)=O1 at d i|-;generalize m.alloc (aE b 31)=p at d o i|-;have y:=y.mono d.vv d.rely.keep;refine WalkE.av (.bool false) rfl (.inr rfl) rfl rfl zz wnn hk (WalkE.aT ?_);refine WalkE.seq (WalkE.seq (WalkE.reg (l:=[0,1,2]) rfl ?_));refine WalkE.dV i.box i.gV rfl rfl (ft rfl) rfl zz rfl hk ?_;have go:∀(q:Bool) bj a c,cr a c bj->dU V1 O1 p a c bj->(q=true->∃l,ay b l=0/\qS V w b l)->WalkE F main Stop a c (G ((bs .normal 3).at (fa 236 (ah (ah (ah (ah (ZJ b s stp hour) 4 (.pointer (Y (g,0)))) 8 (.bool false)) 35 b.v) 36 (.bool q))) (.inRegion abk [2]::[.code (.cond (.tmp 37) (.seq (.region 2 TO false) .ret) .skip),.code Rl3])) cs) bj:=by
  intro q bj a c A j k;refine(WalkE.BS (!q) rfl rfl (ft rfl) rfl rfl zz wnn hk (WalkE.aT ?_));cases q
  .refine WalkE.cond (t:=true) (ft rfl) ?_;rw[qWB rfl];refine WalkE.seq (WalkE.reg (l:=[0,1]) rfl ?_);refine WalkE.enter (f:=5) (args:= #[]) rfl wnn hk (λbj=>(kJ (args:= #[]) rfl ss rfl λ_=>⟨rfl,rfl⟩).1) (λbj=>(kJ (args:= #[]) rfl ss rfl λ_=>⟨rfl,rfl⟩).2) ?_;exact N _ _ _ _ A (d.tn j)
  .refine WalkE.cond (t:=false) (ft rfl) ?_;rw[qVB ss];obtain⟨l,Q,h2⟩:=k rfl;have u:=i.bH j;exact WalkE.skip (P l h2 Q bj a c g A (d.tn j) u.gV ((u.co.vo g).1 u.gV) B ((j.rely.keep g i.gV).tn o))
 cases n:mX b
 .obtain⟨l,C⟩:=R n;have hi:=C.bH d;refine cr.qL (args:= #[(bX p.heap.size b).v]) (v:=.bool (ay b l==0)) i.co hi rfl rfl (mY (ft rfl)) rfl zz wnn hk (λ_=>⟨rfl,rfl⟩) rfl rfl (λe0 hB=>vg (by exact hi.RH)) (dQ _) (λe0 hB J=>(Qu (bX p.heap.size b) l _ (Qw.tn n) (hi.lone (e0:=e0) J p.drawn).1).mono λe W q=>by rw[Qv]at q;exact q.1) λS L K r j=>go _ _ _ _ r j λk=>⟨l,by simpa using k,C⟩
 .exact cr.jZ (args:= #[b.v]) (v:=.bool false) i.co rfl rfl (mY (ft rfl)) rfl zz wnn hk (λ_=>⟨rfl,rfl⟩) rfl rfl (λe0 hB=>jy (by exact y.vr)) (dQ _) (λe0 J=>(Qt b _ n).mono λe W q=>q.1) λS L K r j=>go _ _ _ _ r j λk=>by cases k
def acX{f:Nat->M}{g9 gb n c p:Nat}{A:Option Addr}{LD:List Int}{hN few lo hi:Int}(Q:cr V O w)(L:acW V w f g9 gb n c p A LD hN few lo hi)
  (next:∀f' bj j l,cr j l bj->dU V O w j l bj->f' 233=.bool true->WalkE F main Stop j l (G (Kf.enter F 5 #[] .normal) ((bs .normal 3).at (fa 236 f') (.inRegion M0 [27,28,29]::K)::cs)) bj):
  WalkE F main Stop V O (G ((bs .normal 3).at (fa 236 f) (.code (.region 26 M0 false)::K)) cs) w:=by
 have hk:=XK 3;obtain⟨y,a,g,a1,U,a3,o,u,d,clo,m,x,v,J,h2,N,P⟩:=L;refine WalkE.reg rfl ?_;refine(WalkE.av (f 25) rfl (.inl rfl) (Ls rfl) rfl zz wnn hk ?_);refine wss ?_;obtain⟨B,T,z⟩:=U.sl zz;refine Q.jZ rfl rfl (oh (Ls rfl) (Ls rfl)) rfl zz wnn hk (λ_=>⟨rfl,rfl⟩) rfl rfl (λe0 hB=>by rw[B];exact acm (jg z.flat) (.int _ _)) (dQ _) (λe0 t=>by
  have h:=ze p (fF (f 25)) LD (tp (gw TA V e0 w) t w.drawn) (pn T z t w.drawn);rw[<- B]at h;exact h.mono λe W h=>h.1) λZ E C R b=>?_
 have g:=bu b.rely a g;have clo:=bu b.rely d clo;have m:=bu b.rely d m;have a:=b.vv _ a;have d:=b.vv _ d;have tail:∀f',f' 215=.bool true->f' 216=.int .i64 hN->(∀i,i<35->f' i=f i)->WalkE F main Stop E C (G ((bs .normal 3).at (fa 236 f') (.inRegion M0 [10,11,12,13,14,15,16,17,18,19,20,21,22,23,24,25,26,27,28,29]::K)) cs) Z:=by
  intro f' a2 a5 k;have y:=(k 9 zz).tn y;have o:=(k 33 zz).tn o;have u:=(k 27 zz).tn u;have x:=(k 30 zz).tn x;have v:=(k 29 zz).tn v;refine WalkE.Ur rfl rfl rfl pL rfl zz (by refine az rfl rfl ?_ ?_;omega;(repeat (first|exact au _ _ _|assumption|refine ndd ?_))) hk ?_;refine WalkE.pJ ⟨gb,0+0,I⟩ (.int .i64 lo) aa9 rfl rfl pL d clo rfl zz (by refine az rfl rfl ?_ ?_;omega;(repeat (first|exact au _ _ _|assumption|refine ndd ?_))) hk ?_;refine WalkE.Ur rfl rfl rfl pL rfl zz (by refine az rfl rfl ?_ ?_;omega;(repeat (first|exact au _ _ _|assumption|refine ndd ?_))) hk ?_;refine WalkE.pJ ⟨gb,0+1,I⟩ (.int .i64 hi) aa9 rfl rfl pL d m rfl zz (by refine az rfl rfl ?_ ?_;omega;(repeat (first|exact au _ _ _|assumption|refine ndd ?_))) hk ?_;refine cr.jZ R rfl rfl (Is (Ls (show _=Value.int .i64 hN from by (repeat (first|exact au _ _ _|assumption|refine ndd ?_)))) (Ls rfl) (Ls rfl)) rfl zz (by refine az rfl rfl ?_ ?_;omega;(repeat (first|exact au _ _ _|assumption|refine ndd ?_))) hk (λ_=>⟨rfl,rfl⟩) rfl rfl (λe0 hB=>QC (.int _ _) (.int _ _) (.int _ _)) (dQ _) (λe0 t=>(bz _ _ _ _).mono λe W q=>by rw[cq.2 ⟨h2,N⟩]at q;exact q.1) λw2 V2 O2 S r=>?_;have g:=bu r.rely a g;have a:=r.vv _ a;refine wss ?_;refine WalkE.Ur rfl rfl rfl pL rfl zz (az rfl rfl zz rfl) hk ?_;refine WalkE.pJ ⟨g9,0+1,I⟩ (.slice A n c) acU rfl rfl pL a g rfl zz (az rfl rfl zz rfl) hk ?_;refine wss ?_;refine WalkE.pK true rfl rfl rfl pL pL (decide_eq_true P) rfl zz (az rfl rfl zz rfl) hk ?_;refine wss ?_;exact WalkE.enter rfl (az rfl rfl zz rfl) hk (λbj=>(kJ rfl ss rfl λ_=>⟨rfl,rfl⟩).1) (λbj=>(kJ (args:= #[]) rfl ss rfl λ_=>⟨rfl,rfl⟩).2) (next _ _ _ _ S (b.tn r) rfl)
 by_cases s:(p:Int)∈LD
 .rw[decide_eq_true s];rw[J s]at o;refine wss ?_;exact tail _ rfl (by rw[J s];rfl) λi hi=>QA
 .rw[decide_eq_false s];refine wss ?_;iterate 2 refine WalkE.E8 rfl rfl zz (eC rfl rfl zz rfl) ?_
  refine wss ?_;exact tail _ rfl rfl λi hi=>QA
def abf:Ut=.seq (.region 26 M0 false) .ret:=rfl
def abg(f:Nat->M)(h:f 233=true):Ie 3 236 8 ((bs .normal 3).at (fa 236 f) (.inRegion M0 [27,28,29]::.code .ret::K)):=λc b d=>by
 have hk:=XK 3;rw[Kf.finish_at,show(M0[27]?).bind (·.dst)=Y 234 from rfl,cw zz];refine wss ?_;exact WalkE.aT (WalkE.ret (WalkE.stop λe a=>⟨⟨_,_,rfl,rfl⟩,λ_=>id,a⟩))
def Yr(f:Nat->M):Ie 3 236 8 ((bs .normal 3).at (fa 236 f) (.inRegion TO [0,1]::.code .ret::K)):=λc b d=>by
 have hk:=XK 3;rw[Kf.finish_at,show(TO[0]?).bind (·.dst)=Y 38 from rfl,cw zz];exact WalkE.av (.bool true) rfl (.inr rfl) pL rfl zz wnn hk (WalkE.aT (WalkE.ret (WalkE.stop λe a=>⟨⟨_,_,rfl,rfl⟩,λ_=>id,a⟩)))
def abh{post:M->H->Prop}{J:Gh}{w:H}{b:aC}{s:Sl}{stp hour:Int}(m:0<=stp/\stp<=255)(h2:0<=hour/\hour<=255)(e:Main J w)(y:Um (J.V 0) w b)
  (B:mX b=false->∃l,qS (J.V 0) w b l)(E:jb (J.V 0) w s s.n)(C:Ca w s)
  (x:∀w',aH (J.V 0) w w'->post (.bool true) w'):aQ fI F post (G (Kf.enter F 3 (yS b s stp hour) .normal) []) J w:=by
 refine QB (n:=236) Tryz.func3 rfl zz zz e ?_ x;refine aaQ e.co y B (λf N j i o a=>WalkE.stop λO d=>⟨_,rfl,o.rely d,a.vv,(a.step d).rely,Yr f⟩) λl hi hc N j i g a1 k v u z K=>?_;refine Yq e.co hi E C hc m h2 k v u z K λU O S Q W Z n c p A P a2 V lo hi r a L=>?_;rw[abf];exact WalkE.seq (acX r L λf3 w3 T R t h q=>WalkE.stop λw4 d=>⟨_,rfl,t.rely d,(a.tn h).vv,((a.tn h).step d).rely,abg f3 q⟩)
end Go.Proofs.YtgbibffickbalaaGreatDoor
namespace Go.Proofs.YtgbibffickbalaaGreatDoor
open Go.RowKit Go.Co Go.Conc Go.ChangeShapes Go.WideShapes Go.ChangeAt Go.Deep
section
variable{W:Cl}{t:Nat}
abbrev V0(W:Cl):Nat->Prop:=(Go.Co.start W).V 0
def tA{b:Nat}:V0 W b↔b<W.heap.size:=⟨λh=>h.2,λh=>⟨rfl,h⟩⟩
def mq{base t e:Nat}{v:M}(g:F.underlying t=Y (.slice e))(h:Cell.okWide F W .any base t v):∃s:Sl,v=.slice s.A s.n s.c/\Nk (V0 W) W s/\(s.A=I->s.n=0)/\s.n<=s.c:=by
 unfold Cell.okWide at h;rw[g]at h;unfold Cell.ok at h;rw[g]at h
 cases v with
 | slice A n c=>
  cases A with
  | none=>
   cases n with
   | zero=>
    cases c with
    | zero=>exact⟨⟨I,0,0⟩,rfl,(λa f=>(by cases f)),λ_=>rfl,qN _⟩
    | succ c=>simp at h
   | succ n=>simp at h
  | some a=>
   simp only at h;obtain⟨j, -, k⟩:=h;obtain⟨-, l,row,cells,b,-⟩:=k;refine⟨⟨Y a,n,c⟩,rfl,λi f=>?_,λe=>(by cases e),j⟩;obtain rfl:a=i:=km f;unfold Cl.shape? at b
   cases d:W.heap[a.block]? with
   | none=>rw[d]at b;cases b
   | some o=>
    rw[d]at b
    cases o with
    | cells c e z=>exact⟨l,tA.2 (ec.1 d).1,⟨c,e,z,d⟩,λh=>mi h (dj 0)⟩
    | _=>cases b
 | _=>simp at h
def Fh:Option M->Int
 | some (.int _ n)=>n
 | _=>0
def VW:Option M->Bool
 | some (.bool b)=>b
 | _=>false
def J9{s:Sl}{m:Nat}(i:Nk (V0 W) W s)(hc:∀a,s.A=Y a->∀j,j<m->∃v,W (a.block,a.off+j)=Y v/\jU v):jb (V0 W) W s m:=λa f=>by
 obtain⟨g,h2,⟨c,e,z,d⟩,-⟩:=i a f;refine⟨g,h2,c,e,z,d,λj k=>?_⟩;obtain⟨v,b,h⟩:=hc a f j k;unfold Cl.cell? at b;dsimp only at b;rw[d]at b;exact⟨v,b,h⟩
section
variable{H:Type}{enc:Lk×M->H}{W:Cl}{s:Sl}{fuel:Nat}{x:DataW H×List MemPlace}
abbrev TD(enc:Lk×M->H)(W:Cl)(fuel:Nat)(t:Lk)(cs:List M):Option (DataW H×List MemPlace):=DataW.trod enc F W 0 (λ_=>true) true fuel t cs
def xe{a:Addr}(h:a.spot=I)(i:Nat):a.add i=⟨a.block,a.off+i,I⟩:=by
 obtain⟨b,o,c⟩:=a;simp only at h;subst h;simp[Addr.add]
def Ka(o:Nk (V0 W) W s)(hnc:s.n<=s.c)(a4:s.n<=20)(h:TD enc W fuel 24 [.slice s.A s.n s.c]=Y x):∃l,aN W s l/\jb (V0 W) W s l.length:=by
 have æ:=0;exact lM
def Fi(hp:∀{fuel x},TD enc W fuel t [.slice s.A s.n s.c]=Y x->([M.slice s.A s.n s.c]=[.slice I 0 0])\/∃(a:Addr) (L A n:Nat) (Q R:Nat->M) (U V:Nat->DataW H) (Z P1:Nat->List MemPlace),[M.slice s.A s.n s.c]=[.slice (Y a) L A]/\L<=A/\
   ∀i,i<A->W.cell? (a.add (i*2))=Y (Q i)/\W.cell? (a.add (i*2+1))=Y (R i)/\TD enc W n 3 [Q i]=Y (U i,Z i)/\TD enc W n 3 [R i]=Y (V i,P1 i))
  (o:Nk (V0 W) W s)(hnc:s.n<=s.c)(a4:s.n<=20)(h:TD enc W fuel t [.slice s.A s.n s.c]=Y x):∃l,bp W s l/\jb (V0 W) W s (l.length*2):=by
 have ø:=0;exact lM
def Iy(k:Nk (V0 W) W s)(p:s.n<=s.c)(q:s.n<=20)(h:TD enc W fuel 27 [.slice s.A s.n s.c]=Y x):∃l,bp W s l/\jb (V0 W) W s (l.length*2):=
 Fi (λh=>by
  rcases open_slice_pairs Tryz.underlying27 Tryz.underlying112 kr rfl rfl kr kr h with⟨b,-⟩|⟨a,t,u,m,n,i,j,d,e,f,g,b, -, o, -, c, -, r⟩
  .exact .inl b
  .simp only[if_true]at c;subst c;exact .inr ⟨a,t,_,n,i,j,d,e,f,g,b,o,r⟩) k p q h
def Iz(k:Nk (V0 W) W s)(p:s.n<=s.c)(q:s.n<=20)(h:TD enc W fuel 28 [.slice s.A s.n s.c]=Y x):∃l,bp W s l/\jb (V0 W) W s (l.length*2):=
 Fi (λh=>by
  rcases open_slice_pairs Tryz.underlying28 Tryz.underlying115 kr rfl rfl kr kr h with⟨b,-⟩|⟨a,t,u,m,n,i,j,d,e,f,g,b, -, o, -, c, -, r⟩
  .exact .inl b
  .simp only[if_true]at c;subst c;exact .inr ⟨a,t,_,n,i,j,d,e,f,g,b,o,r⟩) k p q h
def Uz(o:Nk (V0 W) W s)(hnc:s.n<=s.c)(a4:s.n<=20)(h:TD enc W fuel 29 [.slice s.A s.n s.c]=Y x):∃l,fL W s l/\jb (V0 W) W s (l.length*3):=by
 have å:=0;exact lM
end
end
def UB:F.cellTypes F.depth 31=Y [3,3,3,3,3,24,3,3,3,3,27,28,29]:=p9
def Ys:F.cellsOf 31=13:=p9
def Kb:F.cellsOf 3=1:=p9
def Yu:F.cellsOf 23=2:=p9
def Yv:F.cellsOf 26=2:=p9
def Rr:F.cellsOf 24=1:=p9
def Yw:F.cellsOf 27=1:=p9
def Yx:F.cellsOf 28=1:=p9
def Yy:F.cellsOf 29=1:=p9
section
variable{H:Type}{enc:Lk×M->H}{W:Cl}{base:Nat}{v:M}{d:DataW H}{p:List MemPlace}
def zv{t fuel:Nat}{f0 f1:Field}{c0 c1:M}{x:DataW H×List MemPlace}(g:F.underlying t=Y (.struct #[f0,f1]))(i:f0.offset=0)(j:f1.offset=1)(k:f0.type=3)(l:f1.type=3)(h:TD enc W fuel t [c0,c1]=Y x):∃a b:Int,c0=.int .i64 a/\c1=.int .i64 b:=by
 obtain⟨m,o,n, -, -, c,d⟩:=trod_struct2 g h;rw[i,k,Kb]at c;rw[j,l,Kb]at d;obtain⟨a,e, -,-⟩:=DataW.trod_int Tryz.underlying3 c;obtain⟨b,f, -,-⟩:=DataW.trod_int Tryz.underlying3 d;simp at e f;exact⟨a,b,e,f⟩
def M4(J:M.okWide F W .any base 31 v)(a4:DataW.Trod enc F W 0 (λ_=>true) true 31 v d p):∃b:aC,v=b.v/\Um (V0 W) W b/\(mX b=false->∃l,aI W b l/\jb (V0 W) W b.C l.C.length/\jb (V0 W) W b.U (l.U.length*2)/\jb (V0 W) W b.E (l.E.length*2)/\jb (V0 W) W b.W (l.W.length*3)):=by
 unfold M.okWide at J;rw[Tryz.underlying31]at J;obtain⟨⟨cs⟩,rfl,Z,a',a3, -, m⟩:=J;rw[Ys]at Z;rw[UB]at a3;cases a3
 match cs,Z with
 | [c0,e,c2,c3,c4,P,f,g,j,k,K,N,O],_=>
  obtain⟨fuel,h⟩:=a4;replace h:TD enc W fuel 31 [c0,e,c2,c3,c4,P,f,g,j,k,K,N,O]=Y (d,p):=h;obtain⟨xs,n, -, -, -, a5,a⟩:=DataW.trod_struct Tryz.underlying31 h;have get:∀i,i<10->∃y,xs[i]?=Y y:=λi hi=>⟨_,iv (by rw[a5];exact hi)⟩;obtain⟨u,c,hc⟩:=m 5 P rfl;cases c;obtain⟨C,rfl,Q, -, lC⟩:=mq Tryz.underlying24 hc;obtain⟨u,c,hc⟩:=m 10 K rfl;cases c;obtain⟨U,rfl,T, -, a6⟩:=mq Tryz.underlying27 hc;obtain⟨u,c,hc⟩:=m 11 N rfl;cases c;obtain⟨E,rfl,R, -, lE⟩:=mq Tryz.underlying28 hc;obtain⟨u,c,hc⟩:=m 12 O rfl;cases c;obtain⟨X,rfl,V, -, a7⟩:=mq Tryz.underlying29 hc;have o:TD enc W n 3 ((List.drop 0 [c0,e,c2,c3,c4,.slice C.A C.n C.c,f,g,j,k,.slice U.A U.n U.c,.slice E.A E.n E.c,.slice X.A X.n X.c]).take (F.cellsOf 3))=xs[0]?:=a 0 _ rfl;have q:TD enc W n 3 ((List.drop 1 [c0,e,c2,c3,c4,.slice C.A C.n C.c,f,g,j,k,.slice U.A U.n U.c,.slice E.A E.n E.c,.slice X.A X.n X.c]).take (F.cellsOf 3))=xs[1]?:=a 1 _ rfl;have r:TD enc W n 3 ((List.drop 2 [c0,e,c2,c3,c4,.slice C.A C.n C.c,f,g,j,k,.slice U.A U.n U.c,.slice E.A E.n E.c,.slice X.A X.n X.c]).take (F.cellsOf 3))=xs[2]?:=a 2 _ rfl;have s:TD enc W n 23 ((List.drop 3 [c0,e,c2,c3,c4,.slice C.A C.n C.c,f,g,j,k,.slice U.A U.n U.c,.slice E.A E.n E.c,.slice X.A X.n X.c]).take (F.cellsOf 23))=xs[3]?:=a 3 _ rfl;have t:TD enc W n 24 ((List.drop 5 [c0,e,c2,c3,c4,.slice C.A C.n C.c,f,g,j,k,.slice U.A U.n U.c,.slice E.A E.n E.c,.slice X.A X.n X.c]).take (F.cellsOf 24))=xs[4]?:=a 4 _ rfl;have w:=a 5 _ rfl;have x:=a 6 _ rfl;have z:=a 7 _ rfl;have A:=a 8 _ rfl;have B:=a 9 _ rfl;simp only[Kb,Yu,Rr,Yv,Yw,Yx,Yy,List.drop_zero,List.drop_succ_cons,List.take_succ_cons,List.take_zero]at o q r s t w x z A B;obtain⟨y0,e0⟩:=get 0 zz;obtain⟨y1,e1⟩:=get 1 zz;obtain⟨y2,e2⟩:=get 2 zz;obtain⟨y3,e3⟩:=get 3 zz;obtain⟨y4,e4⟩:=get 4 zz;obtain⟨y5,e5⟩:=get 5 zz;obtain⟨y6,e6⟩:=get 6 zz;obtain⟨y7,e7⟩:=get 7 zz;obtain⟨y8,e8⟩:=get 8 zz;obtain⟨y9,e9⟩:=get 9 zz;rw[e0]at o;rw[e1]at q;rw[e2]at r;rw[e3]at s;rw[e4]at t;rw[e5]at w;rw[e6]at x;rw[e7]at z;rw[e8]at A;rw[e9]at B;obtain⟨S,q0, -,-⟩:=DataW.trod_int Tryz.underlying3 o;obtain⟨D,q1, -,-⟩:=DataW.trod_int Tryz.underlying3 q;obtain⟨L,q2, -,-⟩:=DataW.trod_int Tryz.underlying3 r;obtain⟨lo,hi,q3,q4⟩:=zv Tryz.underlying23 rfl rfl rfl rfl s;obtain⟨rf,rh,q6,q7⟩:=zv Tryz.underlying26 rfl rfl rfl rfl w;obtain⟨cf,ch,q8,q9⟩:=zv Tryz.underlying26 rfl rfl rfl rfl x;simp only[np,and_true]at q0 q1 q2;subst q0 q1 q2 q3 q4 q6 q7 q8 q9;refine⟨⟨S,D,L,lo,hi,C,rf,rh,cf,ch,U,E,X⟩,rfl,⟨Q,T,R,V⟩,λG=>?_⟩;unfold mX at G;simp only[Bool.or_eq_false_iff,decide_eq_false_iff_not]at G;obtain⟨⟨⟨n1,n2⟩,n3⟩,n4⟩:=G;obtain⟨a8,a1,a2⟩:=Ka Q lC zz t;obtain⟨a9,b1,b2⟩:=Iy T a6 zz z;obtain⟨le,d1,d2⟩:=Iz R lE zz A;obtain⟨lx,f1,f2⟩:=Uz V a7 zz B;exact⟨⟨a8,a9,le,lx⟩,⟨a1,b1,d1,f1⟩,a2,b2,d2,f2⟩
end
abbrev zy:List (String×DataW Unit):=[("velarium/sail.checks", Rows.laid_velarium_sail_checks)]
def UD:F.globalNamed "velarium/sail.checks" = Y 0:=p9
def UE:(F.globals[0]?).map (·.type)=Y 156:=p9
def Yz:F.cellsOf 155=1:=p9
def YA:F.cellsOf 156=5:=p9
def UF{W:Cl}(h:laidMetH F zy W):aD W:=by
 obtain⟨g,t,cs,fuel,p,o,y,c,w⟩:=h.funcs (q8A.2 rfl);obtain rfl:=km (UD.symm.tn o);obtain rfl:=km (UE.symm.tn y);obtain⟨xs,m, -, z,q,x,a⟩:=DataW.trod_array Tryz.underlying156 w;rw[YA]at q;obtain⟨l⟩:=cs
 match l,q,a,c with
 | [c0,Q,c2,c3,c4],_,a,c=>
  have b:xs.map (·.1)=[.held [40,118,101,108,97,114,105,117,109,47,115,97,105,108,46,104,97,108,108,41,46,103,108,97,115,115],.held [40,118,101,108,97,114,105,117,109,47,115,97,105,108,46,104,97,108,108,41,46,99,108,111,116,104,115],.held [40,118,101,108,97,114,105,117,109,47,115,97,105,108,46,104,97,108,108,41,46,115,117,110,115],.held [40,118,101,108,97,114,105,117,109,47,115,97,105,108,46,104,97,108,108,41,46,101,121,101,115],.held [40,118,101,108,97,114,105,117,109,47,115,97,105,108,46,104,97,108,108,41,46,119,97,116,99,104,101,115]]:=by
   have:=cd Prod.fst z;injection this with h
   exact h.symm
  match xs,x,b,a with
  | [A,B,y2,C,y4],_,b,a=>
   simp only[zM,np,and_true]at b;obtain⟨r,n1,s,u,v⟩:=b;have d:=a 0 zz;have e:=a 1 zz;have f:=a 2 zz;have j:=a 3 zz;have k:=a 4 zz;simp only[Yz,Nat.mul_one,List.drop_zero,List.drop_succ_cons,List.take_succ_cons,List.take_zero,zQ]at d e f j k;obtain⟨a0,b0⟩:=A;obtain⟨E,L⟩:=B;obtain⟨G,N⟩:=y2;obtain⟨J,O⟩:=C;obtain⟨K,P⟩:=y4;simp only at r n1 s u v;subst r n1 s u v;obtain rfl:=func_of_trod (f0:=157) Tryz.underlying155 kr d;obtain rfl:=func_of_trod (f0:=158) Tryz.underlying155 kr e;obtain rfl:=func_of_trod (f0:=159) Tryz.underlying155 kr f;obtain rfl:=func_of_trod (f0:=160) Tryz.underlying155 kr j;obtain rfl:=func_of_trod (f0:=161) Tryz.underlying155 kr k;have hc:=λi=>Cl.var?_cell o c i;have n:W (0,0)=_:=hc 0;exact⟨wY n,n,hc 1,hc 2,hc 3,hc 4⟩
def UG(g:Nat)(h:TA.glob g=true):g=0:=Sd .skip g h
def UH{W:H}(h:aD W):Main (Go.Co.start W) W:=by
 have k:=tA.2 h.1;obtain⟨c,e,z,hc⟩:∃c e z,W.heap[0]?=Y (.cells c e z):=by
  have b:=h.2.1;unfold H.cell? at b;dsimp only at b
  cases l:W.heap[0]? with
  | none=>rw[l]at b;simp at b
  | some o=>
   rw[l]at b
   cases o with
   | cells c e z=>exact⟨c,e,z,rfl⟩
   | _=>simp at b
 have g:∀(i:Nat) v,W (0,i)=Y v->c[i]?=Y v:=λi v a=>by
  unfold H.cell? at a;dsimp only at a;rw[hc]at a;exact a
 obtain⟨-, c0,n,p,q,r⟩:=id h;have y:=g _ _ c0;have A:=g _ _ n;have B:=g _ _ p;have C:=g _ _ q;have m:=g _ _ r;have d:∀{j f:Nat} {v:M},c[j]?=Y (.func (.func f) #[] #[])->c[j]?=Y v->TA.has f=true->TA.ret f=.val->Flat TA (V0 W) W v:=λb h2 s t=>by
  cases b.symm.tn h2;exact .inr (.inr (.inr ⟨_,rfl,s,t⟩))
 refine⟨⟨rfl,rfl,rfl,λx=>il,λx w=>tA.1 w⟩,⟨h,k,c,e,z,hc,?_,λj v u a=>?_⟩,e,k,⟨c,z,hc⟩,UG⟩
 .have:=(ec.1 m).1;omega
 .match j,u,a with
  | 0,_,a=>exact d y a rfl rfl
  | 1,_,a=>exact d A a rfl rfl
  | 2,_,a=>exact d B a rfl rfl
  | 3,_,a=>exact d C a rfl rfl
  | 4,_,a=>exact d m a rfl rfl
def aaP:ownKnob F.godebug=I:=p9
def laidOut:laidOutB F=true:=p9
def Rt(os:Os)(args:Array M):laidMetH F zy ((H.doorLaid F 100 os).forCall (λ_ _=>0) ⟨#[],args,[]⟩).memory:=
 laidMetH_of_parts3 (fuel:=8) (laidMet_of_run' 8 kr kr) kr kr
abbrev YB:aC:=⟨0,0,0,0,0,⟨I,0,0⟩,0,0,0,0,⟨I,0,0⟩,⟨I,0,0⟩,⟨I,0,0⟩⟩
def Ru{W w:H}(h:aH (V0 W) W w):X W W w:=⟨h.os,h.tape,h.output,h.size,λk hk=>h.keep k (tA.2 hk)⟩
def Uu{H:Type}{enc:Lk×M->H}{W:Cl}{base:Nat}{v:M}{d:DataW H}{p:List MemPlace}(hval:M.okWide F W .any base 32 v)(ht:DataW.Trod enc F W 0 (λ_=>true) true 32 v d p):∃s:Sl,v=.slice s.A s.n s.c/\jb (V0 W) W s s.n/\Ca W s:=by
 have ë:=0;exact lM
def Yt(os:Os)(a4:os.Started)(H:Type)(enc:Lk×M->H):
  ReturnsInLeavingWide {} Tryz.checked os 3 .any (λw args=>(Rows.sailRealSpec.pre enc F Tryz.f3 [] false w args/\laidMetH F zy w)/\sizedMet enc F Tryz.f3 (OpenSpec.ofChange Rows.sailRealSpec) false w args)
   (Rows.sailRealSpec.post enc F Tryz.f3 false true false false):=by
 refine returnsInLeavingWide_of_good aaP a4 (ChangeSpec.witness_shaped (C:=Tryz.checked) (X:=λw _=>laidMetH F zy w) false (Cl.doorLaid F 100 os) (yS YB ⟨I,0,0⟩ 0 0) 8 rfl (Cl.shaped_of_RefB kr kr) kr kr kr (Rt os _)) ?_;intro w tape i _ _ _ hok hpre _;obtain⟨_,_,_,J,Q,_,_,_,_,a⟩:=hok;obtain rfl:J=Tryz.f3:=km (Q.symm.tn Tryz.func3);obtain⟨⟨⟨ds,gs,a5,c,hc⟩,d⟩,a3⟩:=hpre;have c:=DataW.Whole.of_heap (w':=w.forCall tape i) (by rfl) c;have d:laidMetH F zy (w.forCall tape i):=laidMetH.of_heap (by rfl) d;clear hc a3;generalize w.forCall tape i=W at a c d|-;generalize i.args=args at a c|-;have e:=c;obtain⟨p,q,k,L,rfl, -,-⟩:=c;rw[Tryz.params3]at k a;obtain⟨o,a',d0,a6,p0,q0,N,rfl,rfl,g,T⟩:=trodAll_cons k;obtain⟨r,b1,d1,a7,p1,q1,rfl,rfl,rfl,j,U⟩:=trodAll_cons T;obtain⟨t,b2,d2,a8,p2,q2,rfl,rfl,rfl,h2,V⟩:=trodAll_cons U;obtain⟨u,b3,d3,a9,p3,q3,rfl,rfl,rfl,K,Z⟩:=trodAll_cons V;obtain⟨rfl,rfl,rfl⟩:=trodAll_nil Z;obtain rfl:args= #[o,r,t,u]:=by
  obtain⟨l⟩:=args;exact cd Array.mk N
 obtain⟨rfl,rfl⟩:=trodVars_none L;obtain⟨b,rfl,P,O⟩:=M4 (a 0 31 o rfl rfl) g;have m:∀{n},(Lit.int .u8 n).wf=true->0<=n/\n<=255:=λh=>by simp only[Lit.wf,du,decide_eq_true_eq]at h;exact h
 obtain⟨s,rfl,a2,a1⟩:=Uu (a 1 32 r rfl rfl) j;obtain⟨n1,rfl,rfl,rfl,v⟩:=open_int Tryz.underlying5 (a 2 5 t rfl rfl) h2;obtain⟨n2,rfl,rfl,rfl,y⟩:=open_int Tryz.underlying5 (a 3 5 u rfl rfl) K;refine Vy ua rfl (L0 W) rfl rfl (abh (m v) (m y) (UH (UF d)) P (λR=>?_) a2 a1 λw' S=>ChangeSpec.post_blind ?_)
 .obtain⟨l,e1,A,B,E,G⟩:=O R;exact⟨l,e1,B9 _,A,B,E,G,Gx _ _ _⟩
 .have hB:=Ru S;have a0:=Hd.trod laidOut kr (of_decide_eq_true kr) g hB λx f=>e.lt x (by simp[f]);have z:=Hd.trod laidOut kr (of_decide_eq_true kr) j hB λx f=>e.lt x (by simp[f]);exact⟨_,_,_,[],_,[],e,trodAll_mk1 (shut_bool Tryz.underlying4 _),trodAll_cons_mk a0 (trodAll_mk3 z (shut_int Tryz.underlying5 v) (shut_int Tryz.underlying5 y)),rfl,hB.frame _,λh=>by cases h⟩
open Go
def sailReal_holds:Rows.SailRealSaid:=
 OpenClaim.holds_of_wide_leaving 3 Tryz.f3 rfl rfl rfl rfl rfl rfl rfl ⟨rfl,rfl,rfl,rfl,rfl⟩ rfl rfl rfl rfl rfl kr Tryz.func3 kr
  (of_decide_eq_true kr) (by unfold Func.isWrapper;first|(rw[qWB (by decide +kernel)];kernel_rfl)|(rw[qVB (by decide +kernel)];exact⟨rfl,rfl⟩))
  (λos a H enc _=>Yt os a H enc)
def sailReal_card:Rows.SailRealCardSaid:=
 ⟨Claim7.tied_new_at .later [.funcs] true (Claim7.new_of_sixth sailReal_holds (true, "0e6bcb8477cf3fdc705afa19c25adbbdd4cd0df021b54c88bc15c5b20a2a2cc2") false rfl ⟨rfl,rfl⟩ kr rfl λf fn c d=>by
  obtain rfl:f=3:=km ((show F.funcNamed "velarium/velariumlaw05.SailReal" = Y 3 by kernel_rfl).symm.tn c) |>.symm;obtain rfl:fn=Tryz.f3:=(km (Tryz.func3.symm.tn d)).symm;exact⟨by kernel_rfl,λj t a=>by
   rw[Tryz.params3]at a;have b:t=31\/t=32\/t=5:=by
    rcases j with _|_|_|_|j
    .exact .inl (by simpa using a.symm)
    .exact .inr (.inl (by simpa using a.symm))
    .exact .inr (.inr (by simpa using a.symm))
    .exact .inr (.inr (by simpa using a.symm))
    .simp at a
   rcases b with rfl|rfl|rfl
   .exact(show F.wantsStandIn 31=false by kernel_rfl)
   .exact(show F.wantsStandIn 32=false by kernel_rfl)
   .exact(show F.wantsStandIn 5=false by kernel_rfl)⟩) kr,(λ_ h=>by cases h),sailReal_row_tie,(λh=>by cases h),by kernel_rfl⟩
end Go.Proofs.YtgbibffickbalaaGreatDoor
